/- Part 5 of the proof of FnExactDecodeGabidulin. -/
import Derived.Test.YtihiobjhogpmdaaGreatDg4
set_option maxRecDepth 100000
namespace Go.Proofs.YtihiobjhogpmdaaGreat
open Go Go.Abs Go.Proofs
noncomputable def gV (h3_0_2:(List (List Int))) (h3_0_3:Int):(Int×(List (List Int)))→Tre ((Int×(List (List Int))) ⊕ (List (List Int))):=fun s3 =>
 .cond (decide (s3.1 < h3_0_3))
  (.ite (0≤s3.1∧s3.1 < (h3_0_2.length:Int)) <|
  .mat (h3_0_2[s3.1.toNat]?) fun x1 =>
  .mat (fD x1) fun r2 =>
  .ite ((s3.2.length+1) * 24≤bM∧1≤24) <|
  .ret (.inl (aO .i64 (s3.1+1),s3.2++([r2]))))
  (.ret (.inr s3.2))
noncomputable def fI (h15_0_1:Nat) (h15_0_2:Int) (h15_0_5:Int) (h15_0_7:(Int×(Int×Unit))):(Int×(List (List Int)))→Tre ((Int×(List (List Int))) ⊕ (List (List Int))):=fun s15 =>
 .cond (decide (s15.1 < h15_0_5))
  (.mat (s15.2[h15_0_1]?) fun x15 =>
  .ite (0≤s15.1∧s15.1 < (x15.length:Int)) <|
  .mat (s15.2[h15_0_1]?) fun x16 =>
  .mat (x16[s15.1.toNat]?) fun x17 =>
  .mat (bX h15_0_7 x17 h15_0_2) fun r18 =>
  .mat (s15.2[h15_0_1]?) fun x19 =>
  .ite (0≤s15.1∧s15.1 < (x19.length:Int)) <|
  .mat (s15.2[h15_0_1]?) fun x20 =>
  .mat (x20[s15.1.toNat]?) fun _ =>
  let v22:=x20.set s15.1.toNat r18
  .ret (.inl (aO .i64 (s15.1+1),s15.2.set h15_0_1 v22)))
  (.ret (.inr s15.2))
noncomputable def fJ (h25_0_1:Nat) (h25_0_2:Nat) (h25_0_3:Int) (h25_0_8:Int) (h25_0_10:(Int×(Int×Unit))):(Int×(List (List Int)))→Tre ((Int×(List (List Int))) ⊕ (List (List Int))):=fun s25 =>
 .cond (decide (s25.1 < h25_0_8))
  (.mat (s25.2[h25_0_2]?) fun x29 =>
  .ite (0≤s25.1∧s25.1 < (x29.length:Int)) <|
  .mat (s25.2[h25_0_2]?) fun x30 =>
  .mat (x30[s25.1.toNat]?) fun x31 =>
  .mat (s25.2[h25_0_1]?) fun x32 =>
  .ite (0≤s25.1∧s25.1 < (x32.length:Int)) <|
  .mat (s25.2[h25_0_1]?) fun x33 =>
  .mat (x33[s25.1.toNat]?) fun x34 =>
  .mat (bX h25_0_10 h25_0_3 x34) fun r35 =>
  .mat (s25.2[h25_0_2]?) fun x36 =>
  .ite (0≤s25.1∧s25.1 < (x36.length:Int)) <|
  .mat (s25.2[h25_0_2]?) fun x37 =>
  .mat (x37[s25.1.toNat]?) fun _ =>
  let v39:=x37.set s25.1.toNat (jI .i64 x31 r35)
  .ret (.inl (aO .i64 (s25.1+1),s25.2.set h25_0_2 v39)))
  (.ret (.inr s25.2))
noncomputable def eH (h20_0_0:Int) (h20_0_1:Nat) (h20_0_4:Int) (h20_0_6:(Int×(Int×Unit))) (h20_0_8:Int):(Int×(List (List Int)))→Tre ((Int×(List (List Int))) ⊕ (List (List Int))):=fun s20 =>
 .cond (decide (s20.1 < h20_0_4))
  (.ite (0≤s20.1∧s20.1 < (s20.2.length:Int)) <|
  .mat (s20.2[s20.1.toNat]?) fun _ =>
  .mat (s20.2[s20.1.toNat]?) fun x25 =>
  .ite (0≤h20_0_8∧h20_0_8 < (x25.length:Int)) <|
  .mat (s20.2[s20.1.toNat]?) fun x26 =>
  .mat (x26[h20_0_8.toNat]?) fun x27 =>
  .cond (!decide (s20.1=h20_0_0))
   (.cond (!decide (x27=0))
    (.mat (s20.2[s20.1.toNat]?) fun x28 =>
    .mat (aR (fJ h20_0_1 s20.1.toNat x27 (x28.length:Int) h20_0_6) (0,s20.2)) fun l40 =>
    .ret (.inl (aO .i64 (s20.1+1),l40)))
    (.ret (.inl (aO .i64 (s20.1+1),s20.2))))
   (.ret (.inl (aO .i64 (s20.1+1),s20.2))))
  (.ret (.inr s20.2))
noncomputable def fC (h8_0_1:Int) (h8_0_3:(Int×(Int×Unit))):(Int×Int×(List (List Int)))→Tre ((Int×Int×(List (List Int))) ⊕ (Int×(List (List Int)))):=fun s8 =>
 .cond (decide (s8.2.1 < h8_0_1))
  (.ite (0≤s8.1∧s8.1≤(s8.2.2.length:Int)∧(s8.2.2.length:Int)≤(s8.2.2.length:Int)) <|
  .mat (arn ((s8.2.2.drop s8.1.toNat).take (((s8.2.2.length:Int) - s8.1).toNat)) s8.2.1) fun r4 =>
  .cond (decide (r4 < 0))
   (.ret (.inl (s8.1,aO .i64 (s8.2.1+1),s8.2.2)))
   (.ite (0≤aO .i64 (s8.1+r4)∧aO .i64 (s8.1+r4) < (s8.2.2.length:Int)) <|
   .mat (s8.2.2[(aO .i64 (s8.1+r4)).toNat]?) fun _ =>
   .ite (0≤s8.1∧s8.1 < (s8.2.2.length:Int)) <|
   .mat (s8.2.2[s8.1.toNat]?) fun _ =>
   .ite (0≤s8.1∧s8.1 < (s8.2.2.length:Int)) <|
   .ite (0≤aO .i64 (s8.1+r4)∧aO .i64 (s8.1+r4) < (s8.2.2.length:Int)) <|
   .ite (Int.ofNat s8.1.toNat=Int.ofNat s8.1.toNat∧Int.ofNat ((aO .i64 (s8.1+r4)).toNat)=Int.ofNat ((aO .i64 (s8.1+r4)).toNat)) <|
   let v7:=Fj ((aO .i64 (s8.1+r4)).toNat) s8.1.toNat s8.2.2
   .ite (0≤s8.1∧s8.1 < (v7.length:Int)) <|
   .mat (v7[s8.1.toNat]?) fun _ =>
   .ite (0≤s8.1∧s8.1 < (v7.length:Int)) <|
   .mat (v7[s8.1.toNat]?) fun _ =>
   .mat (v7[s8.1.toNat]?) fun x10 =>
   .ite (0≤s8.2.1∧s8.2.1 < (x10.length:Int)) <|
   .mat (v7[s8.1.toNat]?) fun x11 =>
   .mat (x11[s8.2.1.toNat]?) fun x12 =>
   .mat (bZ h8_0_3 x12) fun r13 =>
   .mat (v7[s8.1.toNat]?) fun x14 =>
   .mat (aR (fI s8.1.toNat r13 (x14.length:Int) h8_0_3) (0,v7)) fun l23 =>
   .mat (aR (eH s8.1 s8.1.toNat (l23.length:Int) h8_0_3 s8.2.1) (0,l23)) fun l41 =>
   .ret (.inl (aO .i64 (s8.1+1),aO .i64 (s8.2.1+1),l41))))
  (.ret (.inr (s8.1,s8.2.2)))
noncomputable def IG (p0:(Int×(Int×Unit))) (p1:Int) (p2:(List (List Int))):Tre (List (List Int)) :=
 .mat (aR (gV p2 (p2.length:Int)) (0,[])) fun l3 =>
 .mat (aR (fC p1 p0) (0,0,l3)) fun l42 =>
 .ite (0≤(0:Int)∧(0:Int)≤l42.1∧l42.1≤(l42.2.length:Int)) <|
 .ret ((l42.2.drop 0).take ((l42.1 - 0).toNat))
noncomputable def pF (p0:(Int×(Int×Unit))) (p1:Int) (p2:(List (List Int))):Option (List (List Int)):=(IG p0 p1 p2).run some
-- more
theorem ag8 {α β γ:Type} (g:α→γ) (fin:List γ→β):∀ (l:List α) (i:Nat) (acc:List γ),acc.length=i+l.length→qE (fun i acc x=>(.inl (acc.set i (g x)):List γ ⊕ β)) fin i acc l=fin (acc.take i++l.map g):=by
 intro l
 induction l with
 |nil=>intro i acc h;simp only [qE,List.map_nil,List.append_nil];rw [List.take_of_length_le (by simp at h;omega)]
 |cons x l ih =>
  intro i acc h
  simp only [List.length_cons] at h
  simp only [qE]
  rw [ih (i+1) _ (by simp;omega),List.take_add_one]
  simp [show i < acc.length by omega,List.take_set_of_le (Nat.le_refl i)]
theorem asQ {f:TF3} (hf:aN f=true) {L:List (List Int)} {k:Nat} {row:List Int} (hk:L[k]?=some row) (hn:row.length≤1000000) (hr:∀ y∈row,inF f y) {x:Int} (hx:inF f x) :
  aR (fI k x (row.length:Int) f) (0,L)=some (L.set k (row.map fun y=>gu f y x)):=by
 have hkl:=(List.getElem?_eq_some_iff.1 hk).1
 have key:=lY (xs:=row) (step:=fI k x (row.length:Int) f) (fun (i:Nat) (acc:List Int)=>((i:Int),L.set k acc)) (fun i acc y=>.inl (acc.set i (gu f y x))) (fun acc=>L.set k acc) (fun i acc=>acc.length=row.length∧acc.drop i=row.drop i) (by
  intro i acc y hy hi
  have hlt:=(List.getElem?_eq_some_iff.1 hy).1
  have hg:(L.set k acc)[k]?=some acc:=by rw [List.getElem?_set_self hkl]
  have hai:acc[i]?=some y:=by
   have:=congrArg (·[0]?) hi.2
   simpa [hy] using this
  refine ⟨?_,fun a ha=>?_⟩
  ·unfold fI
   dsimp only
   rw [Tre.aG,decide_eq_true (by omega),cond_true,ah hg,Tre.run_ite,if_pos (by omega),ah hg,Int.toNat_natCast,ah hai,ah (al0 hf (hr _ (List.mem_of_getElem? hy)) hx),ah hg,Tre.run_ite,if_pos (by omega),ah hg,ah hai,Tre.aL,aX (by omega),List.set_set]
  ·cases ha
   refine ⟨by simp [hi.1],?_⟩
   rw [List.drop_set_of_lt (by omega),← List.drop_drop,← List.drop_drop,hi.2]) (by
  intro acc _
  unfold fI
  dsimp only
  rw [Tre.aG,decide_eq_false (by omega),cond_false]
  rfl) row 0 row rfl (Nat.zero_le _) ⟨rfl,rfl⟩
 rw [ag8 _ _ _ _ _ (by simp)] at key
 have h0:L.set k row=L:=by
  apply List.ext_getElem?
  intro j
  rw [List.getElem?_set]
  split
  ·rename_i h;subst h;exact hk.symm
  ·rfl
 rw [h0] at key
 simpa using key
theorem asP {f:TF3} (hf:aN f=true) {L:List (List Int)} {k i2:Nat} (hne:k≠i2) {own r:List Int} (hk:L[k]?=some own) (h2:L[i2]?=some r) (hl:r.length=own.length) (hn:r.length≤1000000) (hr:∀ y∈own,inF f y) {x:Int} (hx:inF f x) :
  aR (fJ k i2 x (r.length:Int) f) (0,L)=some (L.set i2 ((r.zip own).map fun p=>jI .i64 p.1 (gu f x p.2))):=by
 have hkl:=(List.getElem?_eq_some_iff.1 h2).1
 have key:=lY (xs:=r.zip own) (step:=fJ k i2 x (r.length:Int) f) (fun (i:Nat) (acc:List Int)=>((i:Int),L.set i2 acc)) (fun i acc p=>.inl (acc.set i (jI .i64 p.1 (gu f x p.2)))) (fun acc=>L.set i2 acc) (fun i acc=>acc.length=r.length∧acc.drop i=r.drop i) (by
  intro i acc p hp hi
  have hlt:=(List.getElem?_eq_some_iff.1 hp).1
  rw [List.length_zip] at hlt
  obtain ⟨p1,p2⟩:=p
  rw [List.getElem?_zip_eq_some] at hp
  obtain ⟨hp1,hp2⟩:=hp
  have hg:(L.set i2 acc)[i2]?=some acc:=by rw [List.getElem?_set_self hkl]
  have hgk:(L.set i2 acc)[k]?=some own:=by rw [List.getElem?_set_ne (Ne.symm hne)];exact hk
  have hai:acc[i]?=some p1:=by
   have:=congrArg (·[0]?) hi.2
   simpa [hp1] using this
  refine ⟨?_,fun a ha=>?_⟩
  ·unfold fJ
   dsimp only
   rw [Tre.aG,decide_eq_true (by omega),cond_true,ah hg,Tre.run_ite,if_pos (by omega),ah hg,Int.toNat_natCast,ah hai,ah hgk,Tre.run_ite,if_pos (by omega),ah hgk,ah hp2,ah (al0 hf hx (hr _ (List.mem_of_getElem? hp2))),ah hg,Tre.run_ite,if_pos (by omega),ah hg,ah hai,Tre.aL,aX (by omega),List.set_set]
  ·cases ha
   refine ⟨by simp [hi.1],?_⟩
   rw [List.drop_set_of_lt (by omega),← List.drop_drop,← List.drop_drop,hi.2]) (by
  intro acc _
  unfold fJ
  dsimp only
  rw [Tre.aG,decide_eq_false (by rw [List.length_zip];omega),cond_false]
  rfl) (r.zip own) 0 r rfl (Nat.zero_le _) ⟨rfl,rfl⟩
 rw [ag8 _ _ _ _ _ (by simp [hl])] at key
 have h0:L.set i2 r=L:=by
  apply List.ext_getElem?
  intro j
  rw [List.getElem?_set]
  split
  ·rename_i h;subst h;simp [hkl,← h2]
  ·rfl
 rw [h0] at key
 simpa using key
theorem awy {f:TF3} (hf:aN f=true) {L:List (List Int)} {k c:Nat} {own:List Int} (hk:L[k]?=some own) (hL:L.length≤1000000) (hn:own.length≤1000000) (hc:c < own.length) (hl:∀ r∈L,r.length=own.length∧∀ y∈r,inF f y) :
  aR (eH (k:Int) k (L.length:Int) f (c:Int)) (0,L)=some (L.mapIdx (ou f c k own)):=by
 have hown:=hl own (List.mem_of_getElem? hk)
 have key:=lY (xs:=L) (step:=eH (k:Int) k (L.length:Int) f (c:Int)) (fun (i:Nat) (acc:List (List Int))=>((i:Int),acc)) (fun i acc r=>.inl (acc.set i (ou f c k own i r))) id (fun i acc=>acc.length=L.length∧acc.drop i=L.drop i∧acc[k]?=some own) (by
  intro i acc r hr hi
  have hlt:=(List.getElem?_eq_some_iff.1 hr).1
  obtain ⟨hr1,hr2⟩:=hl r (List.mem_of_getElem? hr)
  have hai:acc[i]?=some r:=by
   have:=congrArg (·[0]?) hi.2.1
   simpa [hr] using this
  obtain ⟨x,hx⟩:∃ x,r[c]?=some x:=⟨_,List.getElem?_eq_getElem (by omega)⟩
  have hset:acc.set i r=acc:=by
   apply List.ext_getElem?
   intro j
   rw [List.getElem?_set]
   split
   ·rename_i h;subst h;simp [show i < acc.length by omega,← hai]
   ·rfl
  refine ⟨?_,fun a ha=>?_⟩
  ·unfold eH
   dsimp only
   rw [Tre.aG,decide_eq_true (by omega),cond_true,Tre.run_ite,if_pos (by omega),Int.toNat_natCast,ah hai,ah hai,Tre.run_ite,if_pos (by omega),ah hai,Int.toNat_natCast,ah hx,Tre.aG]
   by_cases h1:i=k
   ·rw [decide_eq_true (show (i:Int)=(k:Int) by omega),Bool.not_true,cond_false,Tre.aL,aX (by omega)]
    simp only [ou,hx,h1,decide_true,Bool.true_or,cond_true]
    rw [← h1,hset]
   ·rw [decide_eq_false (show ¬ (i:Int)=(k:Int) by omega),Bool.not_false,cond_true,Tre.aG]
    by_cases h2:x=0
    ·rw [decide_eq_true h2,Bool.not_true,cond_false,Tre.aL,aX (by omega)]
     simp only [ou,hx,h2,decide_true,Bool.or_true,cond_true]
     rw [hset]
    ·rw [decide_eq_false h2,Bool.not_false,cond_true,ah hai,ah (asP hf (fun h=>h1 h.symm) hi.2.2 hai hr1 (by omega) hown.2 (hr2 _ (List.mem_of_getElem? hx))),Tre.aL,aX (by omega)]
     simp only [ou,hx,h1,h2,decide_false,Bool.or_self,cond_false]
  ·cases ha
   refine ⟨by simp [hi.1],?_,?_⟩
   ·rw [List.drop_set_of_lt (by omega),← List.drop_drop,← List.drop_drop,hi.2.1]
   ·by_cases h1:i=k
    ·subst h1
     rw [List.getElem?_set_self (by omega)]
     rw [hr] at hk;cases hk
     simp only [ou,hx,decide_true,Bool.true_or,cond_true]
    ·rw [List.getElem?_set_ne h1];exact hi.2.2) (by
  intro acc _
  unfold eH
  dsimp only
  rw [Tre.aG,decide_eq_false (by omega),cond_false]
  rfl) L 0 L rfl (Nat.zero_le _) ⟨rfl,rfl,hk⟩
 rw [ag7 _ _ _ _ _ (by simp)] at key
 simpa using key
theorem auY {rows:List (List Int)} (hl:rows.length≤1000000) (hr:∀ r∈rows,r.length≤1000000):aR (gV rows (rows.length:Int)) (0,[])=some rows:=by
 have key:=lY (xs:=rows) (step:=gV rows (rows.length:Int)) (fun (i:Nat) (acc:List (List Int))=>((i:Int),acc)) (fun _ acc r=>.inl (acc++[id r])) id (fun i acc=>acc.length=i) (by
  intro i acc r h hi
  have hlt:=(List.getElem?_eq_some_iff.1 h).1
  refine ⟨?_,fun a ha=>?_⟩
  ·unfold gV
   dsimp only
   rw [Tre.aG,decide_eq_true (by omega),cond_true,Tre.run_ite,if_pos (by omega),Int.toNat_natCast,ah h,ah (show fD r=some r from JG (by have:=hr r (List.mem_of_getElem? h);omega)),Tre.run_ite,if_pos (by unfold bM;omega),Tre.aL,aX (by omega)]
   rfl
  ·cases ha;simp [hi]) (by
  intro acc _
  unfold gV
  dsimp only
  rw [Tre.aG,decide_eq_false (by omega),cond_false]
  rfl) rows 0 [] rfl (Nat.zero_le _) rfl
 rw [ach,List.map_id] at key
 exact key
theorem au0 {f:TF3} (hf:aN f=true) {n c:Nat} (hc:c < n) (hn:n≤1000000) (s:Nat×List (List Int)) (h:GR f n s.2) (hL:s.2.length≤1000000) (ha:s.1≤s.2.length) :
  (fC (n:Int) f ((s.1:Int),(c:Int),s.2)).run some=some (.inl (((jh f c s).1:Int),((c+1:Nat):Int),(jh f c s).2)):=by
 obtain ⟨a,L⟩:=s
 dsimp only at h hL ha
 unfold fC
 dsimp only
 have htk:(L.drop a).take (((L.length:Int) - (a:Int)).toNat)=L.drop a:=List.take_of_length_le (by rw [List.length_drop];omega)
 rw [Tre.aG,decide_eq_true (by omega),cond_true,Tre.run_ite,if_pos (by omega),Int.toNat_natCast,htk,ah (awC (fun r hr=>by rw [(h r (List.mem_of_mem_drop hr)).1];exact hc) (by rw [List.length_drop];omega)),Tre.aG]
 unfold jh
 dsimp only
 rcases zw (CY c) (L.drop a) 0 with ⟨h1,_⟩ | ⟨k,row,h1,h2,h3⟩
 ·have h4:=an7 (CY c) (L.drop a) a 0
  rw [h1,if_pos (by decide)] at h4
  simp only [Nat.add_zero] at h4
  rw [h1,h4]
  simp only [show decide ((-1:Int) < 0)=true from rfl,cond_true]
  rw [Tre.aL,aX (by omega)]
 ·have h4:=an7 (CY c) (L.drop a) a 0
  rw [h3,if_neg (by omega)] at h4
  simp only [Nat.add_zero,Nat.zero_add] at h4
  have h4:nR (CY c) a (L.drop a)=((a+k:Nat):Int):=by rw [h4];omega
  have hak:L[a+k]?=some row:=by rw [← h1,List.getElem?_drop]
  have hlt:=(List.getElem?_eq_some_iff.1 hak).1
  obtain ⟨r0,hr0⟩:∃ r0,L[a]?=some r0:=⟨_,List.getElem?_eq_getElem (by omega)⟩
  obtain ⟨hrl,hrf⟩:=DV h hak
  obtain ⟨x,hx,hx0⟩:=amk h2
  have hxf:=hrf x (List.mem_of_getElem? hx)
  have hsw:Fj (a+k) a L=(L.set (a+k) r0).set a row:=by unfold Fj;rw [hak,hr0]
  have hva:((L.set (a+k) r0).set a row)[a]?=some row:=List.getElem?_set_self (by simp;omega)
  rw [h3,h4]
  simp only [Nat.zero_add]
  have hw:aO .i64 ((a:Int)+(k:Int))=((a+k:Nat):Int):=by rw [dN (by omega) (by omega)];omega
  rw [hw,Int.toNat_natCast,hsw,decide_eq_false (by omega),decide_eq_false (by omega),cond_false,cond_false]
  rw [Tre.run_ite,if_pos (by omega),ah hak,Tre.run_ite,if_pos (by omega),ah hr0,Tre.run_ite,if_pos (by omega),Tre.run_ite,if_pos (by omega),Tre.run_ite,if_pos (by simp)]
  simp only [List.length_set]
  rw [Tre.run_ite,if_pos (by omega),ah hva,Tre.run_ite,if_pos (by omega),ah hva,ah hva,Tre.run_ite,if_pos (by omega),ah hva,Int.toNat_natCast,ah hx,ah (aqX hf hxf),ah hva]
  rw [ah (asQ hf hva (by omega) hrf (vF hf hxf).1),List.set_set]
  have hp:Sj f c (a+k) a L=(L.set (a+k) r0).set a (row.map fun y=>gu f y (Ag f x)):=by
   unfold Sj Zi
   rw [hak,hr0]
   simp only [hx]
  have hpg:=agw (c:=c) (k:=a+k) (a:=a) hf h
  rw [hp] at hpg ⊢
  have hpa:((L.set (a+k) r0).set a (row.map fun y=>gu f y (Ag f x)))[a]?=some (row.map fun y=>gu f y (Ag f x)):=List.getElem?_set_self (by simp;omega)
  generalize hG:(L.set (a+k) r0).set a (row.map fun y=>gu f y (Ag f x))=G at hpg hpa
  have hown:=DV hpg.1 hpa
  have hcl:aR (eH (a:Int) a (G.length:Int) f (c:Int)) (0,G)=some (G.mapIdx (ou f c a (row.map fun y=>gu f y (Ag f x)))) :=
   awy hf hpa (by omega) (by omega) (by omega) (fun r hr=>by rw [hown.1];exact hpg.1 r hr)
  rw [ah hcl,Tre.aL,aX (by omega),aX (by omega)]
  unfold Fp
  rw [hpa]
theorem auZ {f:TF3} (hf:aN f=true) {n:Nat} (hn:n≤1000000):∀ (m c:Nat) (s:Nat×List (List Int)),c+m=n→GR f n s.2→s.2.length≤1000000→s.1≤s.2.length→aR (fC (n:Int) f) ((s.1:Int),(c:Int),s.2)=some (((gT f c m s).1:Int),(gT f c m s).2):=by
 intro m
 induction m with
 |zero =>
  intro c s hc h hL ha
  have hc:c=n:=hc
  subst hc
  refine fu ?_
  unfold fC
  exact dF
 |succ m ih =>
  intro c s hc h hL ha
  rw [mJ (au0 hf (by omega) hn s h hL ha)]
  have h1:=Ir (c:=c) hf h ha
  exact ih (c+1) _ (by omega) h1.1 (by omega) (by omega)
theorem aq1 {f:TF3} (hf:aN f=true) {n:Nat} (hn:n≤1000000) {L:List (List Int)} (h:GR f n L) (hL:L.length≤1000000):pF f (n:Int) L=some (DY f n L):=by
 have hl:=auZ hf hn n 0 (0,L) (by omega) h hL (Nat.zero_le _)
 have hk:=O8 hf n 0 (0,L) h (Nat.zero_le _)
 have hl:aR (fC (n:Int) f) (0,0,L)=_:=hl
 unfold pF IG
 rw [ah (auY hL (fun r hr=>by rw [(h r hr).1];exact hn)),ah hl,Tre.run_ite,if_pos (by have:=hk.2.1;have:=hk.2.2;dsimp only at *;omega),Tre.aL]
 unfold DY
 simp
noncomputable def dL:Env:=⟨tau,[(65,kH),(122,axM),(76,Ar),(75,ow)],[]⟩
noncomputable def dR:Code:=(Tryz.f96.body).getD .skip
noncomputable def uV (z3_0:Bool) (h3_0_0:Int) (h3_0_1:Int) (h3_0_2:(List (List Int))) (h3_0_3:Int) (h3_0_5:(Int×(Int×Unit))):(Int×(List (List Int)))→St:=fun x=>bR [(1,(.imm true (.int .i64) h3_0_0)),(3,(.ptr (5,0) [])),(7,(.ref (9,0) [])),(8,(.imm true (.int .i64) h3_0_1)),(21,(.imm z3_0 (.sl (.sl (.int .i64))) h3_0_2)),(22,(.imm true (.int .i64) h3_0_3)),(23,(.imm true (.int .i64) x.1))] [((5,0),some ⟨true,aM,.own,h3_0_5⟩),((9,0),some ⟨false,(.sl (.sl (.int .i64))),.own,x.2⟩)]
noncomputable def tL (_z3_0:Bool) (h3_0_0:Int) (h3_0_1:Int) (_h3_0_2:(List (List Int))) (_h3_0_3:Int) (h3_0_5:(Int×(Int×Unit))):(List (List Int))→Ex×St:=fun x=>(.exit 0,bR [(1,(.imm true (.int .i64) h3_0_0)),(3,(.ptr (5,0) [])),(7,(.ref (9,0) [])),(8,(.imm true (.int .i64) h3_0_1))] [((5,0),some ⟨true,aM,.own,h3_0_5⟩),((9,0),some ⟨false,(.sl (.sl (.int .i64))),.own,x⟩)])
noncomputable def Gq (s:St):Tre (Ex×St) :=
 aC true (.int .i64) (s.tmps 1) fun d2 =>
 dW (5,0) [] (s.tmps 3) <|
 dz (9,0) [] (s.tmps 7) <|
 aC true (.int .i64) (s.tmps 8) fun d6 =>
 bH (.sl (.sl (.int .i64))) (s.tmps 21) fun z9 d8 =>
 aC true (.int .i64) (s.tmps 22) fun d11 =>
 aC true (.int .i64) (s.tmps 23) fun d13 =>
 bD true aM (s.roots (5,0)) fun m15 d16 =>
 asM .own m15 <|
 bD false (.sl (.sl (.int .i64))) (s.roots (9,0)) fun m18 d19 =>
 asM .own m18 <|
 .mat (aR (gV d8 d11) (d13,d19)) fun x=>.ret (tL z9 d2 d6 d8 d11 d16 x)
noncomputable def jy:bJ:=⟨([1,3,7,8,21,22,23],[(5,0),(9,0)]),([1,3,7,8],[(5,0),(9,0)]),Gq⟩
noncomputable def tH (h15_0_0:Int) (h15_0_1:Nat) (h15_0_2:Int) (h15_0_3:Int) (h15_0_4:Int) (h15_0_5:Int) (h15_0_7:(Int×(Int×Unit))) (h15_0_9:Int):(Int×(List (List Int)))→St:=fun x=>bR [(3,(.ptr (5,0) [])),(7,(.ref (9,0) [])),(8,(.imm true (.int .i64) h15_0_0)),(11,(.ptr (13,0) [])),(13,(.ref (9,0) [.idx h15_0_1])),(14,(.imm true (.int .i64) h15_0_2)),(33,(.imm true (.int .i64) h15_0_3)),(34,(.imm true (.int .i64) h15_0_4)),(76,(.imm true (.int .i64) h15_0_5)),(77,(.imm true (.int .i64) x.1))] [((5,0),some ⟨true,aM,.own,h15_0_7⟩),((9,0),some ⟨false,(.sl (.sl (.int .i64))),.own,x.2⟩),((13,0),some ⟨true,(.int .i64),.own,h15_0_9⟩)]
noncomputable def qM (h15_0_0:Int) (h15_0_1:Nat) (_h15_0_2:Int) (h15_0_3:Int) (h15_0_4:Int) (_h15_0_5:Int) (h15_0_7:(Int×(Int×Unit))) (h15_0_9:Int):(List (List Int))→Ex×St:=fun x=>(.exit 4,bR [(3,(.ptr (5,0) [])),(7,(.ref (9,0) [])),(8,(.imm true (.int .i64) h15_0_0)),(11,(.ptr (13,0) [])),(13,(.ref (9,0) [.idx h15_0_1])),(33,(.imm true (.int .i64) h15_0_3)),(34,(.imm true (.int .i64) h15_0_4))] [((5,0),some ⟨true,aM,.own,h15_0_7⟩),((9,0),some ⟨false,(.sl (.sl (.int .i64))),.own,x⟩),((13,0),some ⟨true,(.int .i64),.own,h15_0_9⟩)])
noncomputable def Ec (s:St):Tre (Ex×St) :=
 dW (5,0) [] (s.tmps 3) <|
 dz (9,0) [] (s.tmps 7) <|
 aC true (.int .i64) (s.tmps 8) fun d4 =>
 dW (13,0) [] (s.tmps 11) <|
 abZ (9,0) [.idx 0] (s.tmps 13) fun i7 =>
 aC true (.int .i64) (s.tmps 14) fun d9 =>
 aC true (.int .i64) (s.tmps 33) fun d11 =>
 aC true (.int .i64) (s.tmps 34) fun d13 =>
 aC true (.int .i64) (s.tmps 76) fun d15 =>
 aC true (.int .i64) (s.tmps 77) fun d17 =>
 bD true aM (s.roots (5,0)) fun m19 d20 =>
 asM .own m19 <|
 bD false (.sl (.sl (.int .i64))) (s.roots (9,0)) fun m22 d23 =>
 asM .own m22 <|
 bD true (.int .i64) (s.roots (13,0)) fun m25 d26 =>
 asM .own m25 <|
 .mat (aR (fI i7 d9 d15 d20) (d17,d23)) fun x=>.ret (qM d4 i7 d9 d11 d13 d15 d20 d26 x)
noncomputable def iT:bJ:=⟨([3,7,8,11,13,14,33,34,76,77],[(5,0),(9,0),(13,0)]),([3,7,8,11,13,33,34],[(5,0),(9,0),(13,0)]),Ec⟩
noncomputable def tK (h25_0_0:Int) (h25_0_1:Nat) (h25_0_2:Nat) (h25_0_3:Int) (h25_0_4:Int) (h25_0_5:Int) (h25_0_6:Int) (h25_0_7:Int) (h25_0_8:Int) (h25_0_10:(Int×(Int×Unit))) (h25_0_12:Int):(Int×(List (List Int)))→St:=fun x=>bR [(3,(.ptr (5,0) [])),(7,(.ref (9,0) [])),(8,(.imm true (.int .i64) h25_0_0)),(11,(.ptr (13,0) [])),(13,(.ref (9,0) [.idx h25_0_1])),(17,(.ref (9,0) [.idx h25_0_2])),(18,(.imm true (.int .i64) h25_0_3)),(33,(.imm true (.int .i64) h25_0_4)),(34,(.imm true (.int .i64) h25_0_5)),(91,(.ref (9,0) [])),(92,(.imm true (.int .i64) h25_0_6)),(93,(.imm true (.int .i64) h25_0_7)),(110,(.imm true (.int .i64) h25_0_8)),(111,(.imm true (.int .i64) x.1))] [((5,0),some ⟨true,aM,.own,h25_0_10⟩),((9,0),some ⟨false,(.sl (.sl (.int .i64))),.own,x.2⟩),((13,0),some ⟨true,(.int .i64),.own,h25_0_12⟩)]
noncomputable def qO (h25_0_0:Int) (h25_0_1:Nat) (_h25_0_2:Nat) (_h25_0_3:Int) (h25_0_4:Int) (h25_0_5:Int) (h25_0_6:Int) (h25_0_7:Int) (_h25_0_8:Int) (h25_0_10:(Int×(Int×Unit))) (h25_0_12:Int):(List (List Int))→Ex×St:=fun x=>(.exit 8,bR [(3,(.ptr (5,0) [])),(7,(.ref (9,0) [])),(8,(.imm true (.int .i64) h25_0_0)),(11,(.ptr (13,0) [])),(13,(.ref (9,0) [.idx h25_0_1])),(33,(.imm true (.int .i64) h25_0_4)),(34,(.imm true (.int .i64) h25_0_5)),(91,(.ref (9,0) [])),(92,(.imm true (.int .i64) h25_0_6)),(93,(.imm true (.int .i64) h25_0_7))] [((5,0),some ⟨true,aM,.own,h25_0_10⟩),((9,0),some ⟨false,(.sl (.sl (.int .i64))),.own,x⟩),((13,0),some ⟨true,(.int .i64),.own,h25_0_12⟩)])
noncomputable def Ee (s:St):Tre (Ex×St) :=
 dW (5,0) [] (s.tmps 3) <|
 dz (9,0) [] (s.tmps 7) <|
 aC true (.int .i64) (s.tmps 8) fun d4 =>
 dW (13,0) [] (s.tmps 11) <|
 abZ (9,0) [.idx 0] (s.tmps 13) fun i7 =>
 abZ (9,0) [.idx 0] (s.tmps 17) fun i9 =>
 aC true (.int .i64) (s.tmps 18) fun d11 =>
 aC true (.int .i64) (s.tmps 33) fun d13 =>
 aC true (.int .i64) (s.tmps 34) fun d15 =>
 dz (9,0) [] (s.tmps 91) <|
 aC true (.int .i64) (s.tmps 92) fun d18 =>
 aC true (.int .i64) (s.tmps 93) fun d20 =>
 aC true (.int .i64) (s.tmps 110) fun d22 =>
 aC true (.int .i64) (s.tmps 111) fun d24 =>
 bD true aM (s.roots (5,0)) fun m26 d27 =>
 asM .own m26 <|
 bD false (.sl (.sl (.int .i64))) (s.roots (9,0)) fun m29 d30 =>
 asM .own m29 <|
 bD true (.int .i64) (s.roots (13,0)) fun m32 d33 =>
 asM .own m32 <|
 .mat (aR (fJ i7 i9 d11 d22 d27) (d24,d30)) fun x=>.ret (qO d4 i7 i9 d11 d13 d15 d18 d20 d22 d27 d33 x)
noncomputable def iV:bJ:=⟨([3,7,8,11,13,17,18,33,34,91,92,93,110,111],[(5,0),(9,0),(13,0)]),([3,7,8,11,13,33,34,91,92,93],[(5,0),(9,0),(13,0)]),Ee⟩
noncomputable def tJ (h20_0_0:Int) (h20_0_1:Nat) (h20_0_2:Int) (h20_0_3:Int) (h20_0_4:Int) (h20_0_6:(Int×(Int×Unit))) (h20_0_8:Int):(Int×(List (List Int)))→St:=fun x=>bR [(3,(.ptr (5,0) [])),(7,(.ref (9,0) [])),(8,(.imm true (.int .i64) h20_0_0)),(11,(.ptr (13,0) [])),(13,(.ref (9,0) [.idx h20_0_1])),(33,(.imm true (.int .i64) h20_0_2)),(34,(.imm true (.int .i64) h20_0_3)),(91,(.ref (9,0) [])),(92,(.imm true (.int .i64) h20_0_4)),(93,(.imm true (.int .i64) x.1))] [((5,0),some ⟨true,aM,.own,h20_0_6⟩),((9,0),some ⟨false,(.sl (.sl (.int .i64))),.own,x.2⟩),((13,0),some ⟨true,(.int .i64),.own,h20_0_8⟩)]
noncomputable def qN (h20_0_0:Int) (_h20_0_1:Nat) (h20_0_2:Int) (h20_0_3:Int) (_h20_0_4:Int) (h20_0_6:(Int×(Int×Unit))) (_h20_0_8:Int):(List (List Int))→Ex×St:=fun x=>(.exit 6,bR [(3,(.ptr (5,0) [])),(7,(.ref (9,0) [])),(8,(.imm true (.int .i64) h20_0_0)),(33,(.imm true (.int .i64) h20_0_2)),(34,(.imm true (.int .i64) h20_0_3))] [((5,0),some ⟨true,aM,.own,h20_0_6⟩),((9,0),some ⟨false,(.sl (.sl (.int .i64))),.own,x⟩)])
noncomputable def Ed (s:St):Tre (Ex×St) :=
 dW (5,0) [] (s.tmps 3) <|
 dz (9,0) [] (s.tmps 7) <|
 aC true (.int .i64) (s.tmps 8) fun d4 =>
 dW (13,0) [] (s.tmps 11) <|
 abZ (9,0) [.idx 0] (s.tmps 13) fun i7 =>
 aC true (.int .i64) (s.tmps 33) fun d9 =>
 aC true (.int .i64) (s.tmps 34) fun d11 =>
 dz (9,0) [] (s.tmps 91) <|
 aC true (.int .i64) (s.tmps 92) fun d14 =>
 aC true (.int .i64) (s.tmps 93) fun d16 =>
 bD true aM (s.roots (5,0)) fun m18 d19 =>
 asM .own m18 <|
 bD false (.sl (.sl (.int .i64))) (s.roots (9,0)) fun m21 d22 =>
 asM .own m21 <|
 bD true (.int .i64) (s.roots (13,0)) fun m24 d25 =>
 asM .own m24 <|
 .mat (aR (eH d4 i7 d14 d19 d25) (d16,d22)) fun x=>.ret (qN d4 i7 d9 d11 d14 d19 d25 x)
noncomputable def iU:bJ:=⟨([3,7,8,11,13,33,34,91,92,93],[(5,0),(9,0),(13,0)]),([3,7,8,33,34],[(5,0),(9,0)]),Ed⟩
noncomputable def uW (h8_0_1:Int) (h8_0_3:(Int×(Int×Unit))):(Int×Int×(List (List Int)))→St:=fun x=>bR [(3,(.ptr (5,0) [])),(7,(.ref (9,0) [])),(8,(.imm true (.int .i64) x.1)),(33,(.imm true (.int .i64) h8_0_1)),(34,(.imm true (.int .i64) x.2.1))] [((5,0),some ⟨true,aM,.own,h8_0_3⟩),((9,0),some ⟨false,(.sl (.sl (.int .i64))),.own,x.2.2⟩)]
noncomputable def tN (_h8_0_1:Int) (_h8_0_3:(Int×(Int×Unit))):(Int×(List (List Int)))→Ex×St:=fun x=>(.exit 2,bR [(7,(.ref (9,0) [])),(8,(.imm true (.int .i64) x.1))] [((9,0),some ⟨false,(.sl (.sl (.int .i64))),.own,x.2⟩)])
noncomputable def Gr (s:St):Tre (Ex×St) :=
 dW (5,0) [] (s.tmps 3) <|
 dz (9,0) [] (s.tmps 7) <|
 aC true (.int .i64) (s.tmps 8) fun d4 =>
 aC true (.int .i64) (s.tmps 33) fun d6 =>
 aC true (.int .i64) (s.tmps 34) fun d8 =>
 bD true aM (s.roots (5,0)) fun m10 d11 =>
 asM .own m10 <|
 bD false (.sl (.sl (.int .i64))) (s.roots (9,0)) fun m13 d14 =>
 asM .own m13 <|
 .mat (aR (fC d6 d11) (d4,d8,d14)) fun x=>.ret (tN d6 d11 x)
noncomputable def jA:bJ:=⟨([3,7,8,33,34],[(5,0),(9,0)]),([7,8],[(9,0)]),Gr⟩
noncomputable def dQ:List (Nat×bJ):=[(3,jy),(15,iT),(25,iV),(20,iU),(8,jA)]
theorem Pd:∀ (z3_0:Bool) (h3_0_0:Int) (h3_0_1:Int) (h3_0_2:(List (List Int))) (h3_0_3:Int) (h3_0_5:(Int×(Int×Unit))) (x:(Int×(List (List Int)))) (c:St→Option (Ex×St)),den dL dQ (aY dR 0) (uV z3_0 h3_0_0 h3_0_1 h3_0_2 h3_0_3 h3_0_5 x) (bV jy.kp jy.kx c)=(gV h3_0_2 h3_0_3 x).run (bW (uV z3_0 h3_0_0 h3_0_1 h3_0_2 h3_0_3 h3_0_5) (tL z3_0 h3_0_0 h3_0_1 h3_0_2 h3_0_3 h3_0_5) c):=fun _ _ _ _ _ _ _ _=>by
 kernel_rfl
theorem Tc:bS dL dQ (aY dR 0) jy:=bA fun s e s' h=>by
 generalize hs:restrict jy.kp s=s1 at h
 have h:(Gq s1).run some=some (e,s'):=h
 obtain ⟨d2,e1,h_0⟩:=ak h
 obtain ⟨e3,h_1⟩:=bI h_0
 obtain ⟨e4,h_2⟩:=bf h_1
 obtain ⟨d6,e5,h_3⟩:=ak h_2
 obtain ⟨z9,d8,e7,h_4⟩:=aF h_3
 obtain ⟨d11,e10,h_5⟩:=ak h_4
 obtain ⟨d13,e12,h_6⟩:=ak h_5
 obtain ⟨m15,d16,e14,h_7⟩:=aH h_6
 obtain ⟨rfl,h_8⟩:=aQ h_7
 obtain ⟨m18,d19,e17,h_9⟩:=aH h_8
 obtain ⟨rfl,h_10⟩:=aQ h_9
 obtain ⟨y,hy,hz⟩:=bT h_10
 refine ⟨_,_,uV z9 d2 d6 d8 d11 d16,tL z9 d2 d6 d8 d11 d16,gV d8 d11,(d13,d19),y,?_,hy,?_,Pd z9 d2 d6 d8 d11 d16⟩
 ·subst hs;exact aT (T:=[(1,(.imm true (.int .i64) d2)),(3,(.ptr (5,0) [])),(7,(.ref (9,0) [])),(8,(.imm true (.int .i64) d6)),(21,(.imm z9 (.sl (.sl (.int .i64))) d8)),(22,(.imm true (.int .i64) d11)),(23,(.imm true (.int .i64) d13))]) (U:=[((5,0),some ⟨true,aM,.own,d16⟩),((9,0),some ⟨false,(.sl (.sl (.int .i64))),.own,d19⟩)]) rfl rfl ⟨e1,e3,e4,e5,e7,e10,e12,trivial⟩ ⟨e14,e17,trivial⟩
 ·exact Option.some.inj hz
theorem NG:∀ (h15_0_0:Int) (h15_0_1:Nat) (h15_0_2:Int) (h15_0_3:Int) (h15_0_4:Int) (h15_0_5:Int) (h15_0_7:(Int×(Int×Unit))) (h15_0_9:Int) (x:(Int×(List (List Int)))) (c:St→Option (Ex×St)),den dL dQ (aY dR 2) (tH h15_0_0 h15_0_1 h15_0_2 h15_0_3 h15_0_4 h15_0_5 h15_0_7 h15_0_9 x) (bV iT.kp iT.kx c)=(fI h15_0_1 h15_0_2 h15_0_5 h15_0_7 x).run (bW (tH h15_0_0 h15_0_1 h15_0_2 h15_0_3 h15_0_4 h15_0_5 h15_0_7 h15_0_9) (qM h15_0_0 h15_0_1 h15_0_2 h15_0_3 h15_0_4 h15_0_5 h15_0_7 h15_0_9) c):=fun _ _ _ _ _ _ _ _ _ _=>by
 kernel_rfl
theorem RS:bS dL dQ (aY dR 2) iT:=bA fun s e s' h=>by
 generalize hs:restrict iT.kp s=s1 at h
 have h:(Ec s1).run some=some (e,s'):=h
 obtain ⟨e1,h_0⟩:=bI h
 obtain ⟨e2,h_1⟩:=bf h_0
 obtain ⟨d4,e3,h_2⟩:=ak h_1
 obtain ⟨e5,h_3⟩:=bI h_2
 obtain ⟨i7,e6,h_4⟩:=KR h_3
 obtain ⟨d9,e8,h_5⟩:=ak h_4
 obtain ⟨d11,e10,h_6⟩:=ak h_5
 obtain ⟨d13,e12,h_7⟩:=ak h_6
 obtain ⟨d15,e14,h_8⟩:=ak h_7
 obtain ⟨d17,e16,h_9⟩:=ak h_8
 obtain ⟨m19,d20,e18,h_10⟩:=aH h_9
 obtain ⟨rfl,h_11⟩:=aQ h_10
 obtain ⟨m22,d23,e21,h_12⟩:=aH h_11
 obtain ⟨rfl,h_13⟩:=aQ h_12
 obtain ⟨m25,d26,e24,h_14⟩:=aH h_13
 obtain ⟨rfl,h_15⟩:=aQ h_14
 obtain ⟨y,hy,hz⟩:=bT h_15
 refine ⟨_,_,tH d4 i7 d9 d11 d13 d15 d20 d26,qM d4 i7 d9 d11 d13 d15 d20 d26,fI i7 d9 d15 d20,(d17,d23),y,?_,hy,?_,NG d4 i7 d9 d11 d13 d15 d20 d26⟩
 ·subst hs;exact aT (T:=[(3,(.ptr (5,0) [])),(7,(.ref (9,0) [])),(8,(.imm true (.int .i64) d4)),(11,(.ptr (13,0) [])),(13,(.ref (9,0) [.idx i7])),(14,(.imm true (.int .i64) d9)),(33,(.imm true (.int .i64) d11)),(34,(.imm true (.int .i64) d13)),(76,(.imm true (.int .i64) d15)),(77,(.imm true (.int .i64) d17))]) (U:=[((5,0),some ⟨true,aM,.own,d20⟩),((9,0),some ⟨false,(.sl (.sl (.int .i64))),.own,d23⟩),((13,0),some ⟨true,(.int .i64),.own,d26⟩)]) rfl rfl ⟨e1,e2,e3,e5,e6,e8,e10,e12,e14,e16,trivial⟩ ⟨e18,e21,e24,trivial⟩
 ·exact Option.some.inj hz
theorem NI:∀ (h25_0_0:Int) (h25_0_1:Nat) (h25_0_2:Nat) (h25_0_3:Int) (h25_0_4:Int) (h25_0_5:Int) (h25_0_6:Int) (h25_0_7:Int) (h25_0_8:Int) (h25_0_10:(Int×(Int×Unit))) (h25_0_12:Int) (x:(Int×(List (List Int)))) (c:St→Option (Ex×St)),den dL dQ (aY dR 4) (tK h25_0_0 h25_0_1 h25_0_2 h25_0_3 h25_0_4 h25_0_5 h25_0_6 h25_0_7 h25_0_8 h25_0_10 h25_0_12 x) (bV iV.kp iV.kx c)=(fJ h25_0_1 h25_0_2 h25_0_3 h25_0_8 h25_0_10 x).run (bW (tK h25_0_0 h25_0_1 h25_0_2 h25_0_3 h25_0_4 h25_0_5 h25_0_6 h25_0_7 h25_0_8 h25_0_10 h25_0_12) (qO h25_0_0 h25_0_1 h25_0_2 h25_0_3 h25_0_4 h25_0_5 h25_0_6 h25_0_7 h25_0_8 h25_0_10 h25_0_12) c):=fun _ _ _ _ _ _ _ _ _ _ _ _ _=>by
 kernel_rfl
theorem RV:bS dL dQ (aY dR 4) iV:=bA fun s e s' h=>by
 generalize hs:restrict iV.kp s=s1 at h
 have h:(Ee s1).run some=some (e,s'):=h
 obtain ⟨e1,h_0⟩:=bI h
 obtain ⟨e2,h_1⟩:=bf h_0
 obtain ⟨d4,e3,h_2⟩:=ak h_1
 obtain ⟨e5,h_3⟩:=bI h_2
 obtain ⟨i7,e6,h_4⟩:=KR h_3
 obtain ⟨i9,e8,h_5⟩:=KR h_4
 obtain ⟨d11,e10,h_6⟩:=ak h_5
 obtain ⟨d13,e12,h_7⟩:=ak h_6
 obtain ⟨d15,e14,h_8⟩:=ak h_7
 obtain ⟨e16,h_9⟩:=bf h_8
 obtain ⟨d18,e17,h_10⟩:=ak h_9
 obtain ⟨d20,e19,h_11⟩:=ak h_10
 obtain ⟨d22,e21,h_12⟩:=ak h_11
 obtain ⟨d24,e23,h_13⟩:=ak h_12
 obtain ⟨m26,d27,e25,h_14⟩:=aH h_13
 obtain ⟨rfl,h_15⟩:=aQ h_14
 obtain ⟨m29,d30,e28,h_16⟩:=aH h_15
 obtain ⟨rfl,h_17⟩:=aQ h_16
 obtain ⟨m32,d33,e31,h_18⟩:=aH h_17
 obtain ⟨rfl,h_19⟩:=aQ h_18
 obtain ⟨y,hy,hz⟩:=bT h_19
 refine ⟨_,_,tK d4 i7 i9 d11 d13 d15 d18 d20 d22 d27 d33,qO d4 i7 i9 d11 d13 d15 d18 d20 d22 d27 d33,fJ i7 i9 d11 d22 d27,(d24,d30),y,?_,hy,?_,NI d4 i7 i9 d11 d13 d15 d18 d20 d22 d27 d33⟩
 ·subst hs;exact aT (T:=[(3,(.ptr (5,0) [])),(7,(.ref (9,0) [])),(8,(.imm true (.int .i64) d4)),(11,(.ptr (13,0) [])),(13,(.ref (9,0) [.idx i7])),(17,(.ref (9,0) [.idx i9])),(18,(.imm true (.int .i64) d11)),(33,(.imm true (.int .i64) d13)),(34,(.imm true (.int .i64) d15)),(91,(.ref (9,0) [])),(92,(.imm true (.int .i64) d18)),(93,(.imm true (.int .i64) d20)),(110,(.imm true (.int .i64) d22)),(111,(.imm true (.int .i64) d24))]) (U:=[((5,0),some ⟨true,aM,.own,d27⟩),((9,0),some ⟨false,(.sl (.sl (.int .i64))),.own,d30⟩),((13,0),some ⟨true,(.int .i64),.own,d33⟩)]) rfl rfl ⟨e1,e2,e3,e5,e6,e8,e10,e12,e14,e16,e17,e19,e21,e23,trivial⟩ ⟨e25,e28,e31,trivial⟩
 ·exact Option.some.inj hz
theorem NH:∀ (h20_0_0:Int) (h20_0_1:Nat) (h20_0_2:Int) (h20_0_3:Int) (h20_0_4:Int) (h20_0_6:(Int×(Int×Unit))) (h20_0_8:Int) (x:(Int×(List (List Int)))) (c:St→Option (Ex×St)),den dL dQ (aY dR 3) (tJ h20_0_0 h20_0_1 h20_0_2 h20_0_3 h20_0_4 h20_0_6 h20_0_8 x) (bV iU.kp iU.kx c)=(eH h20_0_0 h20_0_1 h20_0_4 h20_0_6 h20_0_8 x).run (bW (tJ h20_0_0 h20_0_1 h20_0_2 h20_0_3 h20_0_4 h20_0_6 h20_0_8) (qN h20_0_0 h20_0_1 h20_0_2 h20_0_3 h20_0_4 h20_0_6 h20_0_8) c):=fun _ _ _ _ _ _ _ _ _=>by
 kernel_rfl
theorem RU:bS dL dQ (aY dR 3) iU:=bA fun s e s' h=>by
 generalize hs:restrict iU.kp s=s1 at h
 have h:(Ed s1).run some=some (e,s'):=h
 obtain ⟨e1,h_0⟩:=bI h
 obtain ⟨e2,h_1⟩:=bf h_0
 obtain ⟨d4,e3,h_2⟩:=ak h_1
 obtain ⟨e5,h_3⟩:=bI h_2
 obtain ⟨i7,e6,h_4⟩:=KR h_3
 obtain ⟨d9,e8,h_5⟩:=ak h_4
 obtain ⟨d11,e10,h_6⟩:=ak h_5
 obtain ⟨e12,h_7⟩:=bf h_6
 obtain ⟨d14,e13,h_8⟩:=ak h_7
 obtain ⟨d16,e15,h_9⟩:=ak h_8
 obtain ⟨m18,d19,e17,h_10⟩:=aH h_9
 obtain ⟨rfl,h_11⟩:=aQ h_10
 obtain ⟨m21,d22,e20,h_12⟩:=aH h_11
 obtain ⟨rfl,h_13⟩:=aQ h_12
 obtain ⟨m24,d25,e23,h_14⟩:=aH h_13
 obtain ⟨rfl,h_15⟩:=aQ h_14
 obtain ⟨y,hy,hz⟩:=bT h_15
 refine ⟨_,_,tJ d4 i7 d9 d11 d14 d19 d25,qN d4 i7 d9 d11 d14 d19 d25,eH d4 i7 d14 d19 d25,(d16,d22),y,?_,hy,?_,NH d4 i7 d9 d11 d14 d19 d25⟩
 ·subst hs;exact aT (T:=[(3,(.ptr (5,0) [])),(7,(.ref (9,0) [])),(8,(.imm true (.int .i64) d4)),(11,(.ptr (13,0) [])),(13,(.ref (9,0) [.idx i7])),(33,(.imm true (.int .i64) d9)),(34,(.imm true (.int .i64) d11)),(91,(.ref (9,0) [])),(92,(.imm true (.int .i64) d14)),(93,(.imm true (.int .i64) d16))]) (U:=[((5,0),some ⟨true,aM,.own,d19⟩),((9,0),some ⟨false,(.sl (.sl (.int .i64))),.own,d22⟩),((13,0),some ⟨true,(.int .i64),.own,d25⟩)]) rfl rfl ⟨e1,e2,e3,e5,e6,e8,e10,e12,e13,e15,trivial⟩ ⟨e17,e20,e23,trivial⟩
 ·exact Option.some.inj hz
theorem Pe:∀ (h8_0_1:Int) (h8_0_3:(Int×(Int×Unit))) (x:(Int×Int×(List (List Int)))) (c:St→Option (Ex×St)),den dL dQ (aY dR 1) (uW h8_0_1 h8_0_3 x) (bV jA.kp jA.kx c)=(fC h8_0_1 h8_0_3 x).run (bW (uW h8_0_1 h8_0_3) (tN h8_0_1 h8_0_3) c):=fun _ _ _ _=>by
 kernel_rfl
theorem Td:bS dL dQ (aY dR 1) jA:=bA fun s e s' h=>by
 generalize hs:restrict jA.kp s=s1 at h
 have h:(Gr s1).run some=some (e,s'):=h
 obtain ⟨e1,h_0⟩:=bI h
 obtain ⟨e2,h_1⟩:=bf h_0
 obtain ⟨d4,e3,h_2⟩:=ak h_1
 obtain ⟨d6,e5,h_3⟩:=ak h_2
 obtain ⟨d8,e7,h_4⟩:=ak h_3
 obtain ⟨m10,d11,e9,h_5⟩:=aH h_4
 obtain ⟨rfl,h_6⟩:=aQ h_5
 obtain ⟨m13,d14,e12,h_7⟩:=aH h_6
 obtain ⟨rfl,h_8⟩:=aQ h_7
 obtain ⟨y,hy,hz⟩:=bT h_8
 refine ⟨_,_,uW d6 d11,tN d6 d11,fC d6 d11,(d4,d8,d14),y,?_,hy,?_,Pe d6 d11⟩
 ·subst hs;exact aT (T:=[(3,(.ptr (5,0) [])),(7,(.ref (9,0) [])),(8,(.imm true (.int .i64) d4)),(33,(.imm true (.int .i64) d6)),(34,(.imm true (.int .i64) d8))]) (U:=[((5,0),some ⟨true,aM,.own,d11⟩),((9,0),some ⟨false,(.sl (.sl (.int .i64))),.own,d14⟩)]) rfl rfl ⟨e1,e2,e3,e5,e7,trivial⟩ ⟨e9,e12,trivial⟩
 ·exact Option.some.inj hz
noncomputable def ND:FnI:=⟨dR,Tryz.f96.results.toList,Tryz.f96.resultTypes.toList,dQ⟩
noncomputable def II (_zp0:Bool) (_p0:(Int×(Int×Unit))) (_p1:Int) (_p2:(List (List Int))):(List (List Int))→aB:=fun r=>⟨(.ref (1,0) []),[],[⟨false,(.sl (.sl (.int .i64))),.own,r⟩]⟩
theorem ZK:∀ (zp0:Bool) (p0:(Int×(Int×Unit))) (p1:Int) (p2:(List (List Int))),bQ dL ND ⟨[(.imm true aM p0),(.imm true (.int .i64) p1),(.imm zp0 (.sl (.sl (.int .i64))) p2)],[]⟩=(IG p0 p1 p2).run fun r=>some (II zp0 p0 p1 p2 r):=fun _ _ _ _=>by kernel_rfl
noncomputable def NC (av:List AV) (rs:List Root):Tre aB :=
 aJ av fun a0_ av0 =>
 aJ av0 fun a1_ av1 =>
 aJ av1 fun a2_ av2 =>
 aU av2 <|
 aU rs <|
 aC true aM a0_ fun d1 =>
 aC true (.int .i64) a1_ fun d2 =>
 bH (.sl (.sl (.int .i64))) a2_ fun z4 d3 =>
 .mat (pF d1 d2 d3) fun r=>.ret (II z4 d1 d2 d3 r)
noncomputable def Cv:Ctr:=⟨[],fun ci=>NC ci.args ci.roots,false⟩
theorem Yz:bP Tryz.prog .none dL:=(aA mU aqR (aA ayN at0 (aA Iz axu (aA pE akE aP))))
theorem Lc:Contract Tryz.prog .none 96 Cv:=by
 have hl:aZ dL dQ dR:=(bC (n:=5) (by kernel_rfl) fun k hk=>by
   match k,hk with
   |0,_=>exact bq (id:=3) (L:=jy) (by kernel_rfl) (by kernel_rfl) Tc
   |1,_=>exact bq (id:=8) (L:=jA) (by kernel_rfl) (by kernel_rfl) Td
   |2,_=>exact bq (id:=15) (L:=iT) (by kernel_rfl) (by kernel_rfl) RS
   |3,_=>exact bq (id:=20) (L:=iU) (by kernel_rfl) (by kernel_rfl) RU
   |4,_=>exact bq (id:=25) (L:=iV) (by kernel_rfl) (by kernel_rfl) RV)
 refine (aI (F:=ND) bn Yz Tryz.func96 (by kernel_rfl) (by kernel_rfl) (by kernel_rfl) hl []).weaken ?_
 rintro ⟨av,rs⟩ co h
 have h:(NC av rs).run some=some co:=h
 obtain ⟨a0_,av0,rfl,h_0⟩:=au h
 obtain ⟨a1_,av1,rfl,h_1⟩:=au h_0
 obtain ⟨a2_,av2,rfl,h_2⟩:=au h_1
 obtain ⟨rfl,h_3⟩:=ay h_2
 obtain ⟨rfl,h_4⟩:=ay h_3
 obtain ⟨d1,rfl,h_5⟩:=ak h_4
 obtain ⟨d2,rfl,h_6⟩:=ak h_5
 obtain ⟨z4,d3,rfl,h_7⟩:=aF h_6
 exact bK (ZK z4 d1 d2 d3) h_7
noncomputable def Xp (p0:(List (List Int))):Tre Int :=
 .ret (p0.length:Int)
noncomputable def afH (p0:(List (List Int))):Option Int:=(Xp p0).run some
theorem YK (p0:(List (List Int))):afH p0=some (p0.length:Int):=rfl
noncomputable def FC:Env:=⟨tau,[],[]⟩
noncomputable def QU:Code:=(Tryz.f97.body).getD .skip
noncomputable def QT:FnI:=⟨QU,Tryz.f97.results.toList,Tryz.f97.resultTypes.toList,[]⟩
noncomputable def Ll (_zp0:Bool) (_p0:(List (List Int))):Int→aB:=fun r=>⟨(.imm true (.int .i64) r),[],[]⟩
theorem acD:∀ (zp0:Bool) (p0:(List (List Int))),bQ FC QT ⟨[(.imm zp0 (.sl (.sl (.int .i64))) p0)],[]⟩=(Xp p0).run fun r=>some (Ll zp0 p0 r):=fun _ _=>by kernel_rfl
noncomputable def QS (av:List AV) (rs:List Root):Tre aB :=
 aJ av fun a0_ av0 =>
 aU av0 <|
 aU rs <|
 bH (.sl (.sl (.int .i64))) a0_ fun z2 d1 =>
 .ret (Ll z2 d1 (d1.length:Int))
noncomputable def QV:Ctr:=⟨[],fun ci=>QS ci.args ci.roots,false⟩
theorem Z5:bP Tryz.prog .none FC:=aP
theorem acE:Contract Tryz.prog .none 97 QV:=by
 have hl:aZ FC [] QU:=bB (by kernel_rfl)
 refine (aI (F:=QT) bn Z5 Tryz.func97 (by kernel_rfl) (by kernel_rfl) (by kernel_rfl) hl []).weaken ?_
 rintro ⟨av,rs⟩ co h
 have h:(QS av rs).run some=some co:=h
 obtain ⟨a0_,av0,rfl,h_0⟩:=au h
 obtain ⟨rfl,h_1⟩:=ay h_0
 obtain ⟨rfl,h_2⟩:=ay h_1
 obtain ⟨z2,d1,rfl,h_3⟩:=aF h_2
 exact wE (acD z2 d1) (YK d1) h_3
noncomputable def Jf (p0:Int):Tre Bool :=
 .ret (!decide (p0=0))
noncomputable def Tt (p0:Int):Option Bool:=(Jf p0).run some
theorem NU (p0:Int):Tt p0=some (!decide (p0=0)):=rfl
noncomputable def vo:Env:=⟨tau,[],[]⟩
noncomputable def ED:Code:=(Tryz.f137.body).getD .skip
noncomputable def EC:FnI:=⟨ED,Tryz.f137.results.toList,Tryz.f137.resultTypes.toList,[]⟩
noncomputable def AB (_p0:Int):Bool→aB:=fun r=>⟨(.imm true .bool r),[],[]⟩
theorem R9:∀ (p0:Int),bQ vo EC ⟨[(.imm true (.int .i64) p0)],[]⟩=(Jf p0).run fun r=>some (AB p0 r):=fun _=>by kernel_rfl
noncomputable def EB (av:List AV) (rs:List Root):Tre aB :=
 aJ av fun a0_ av0 =>
 aU av0 <|
 aU rs <|
 aC true (.int .i64) a0_ fun d1 =>
 .ret (AB d1 (!decide (d1=0)))
noncomputable def EF:Ctr:=⟨[],fun ci=>EB ci.args ci.roots,false⟩
theorem Pv:bP Tryz.prog .none vo:=aP
theorem Sb:Contract Tryz.prog .none 137 EF:=by
 have hl:aZ vo [] ED:=bB (by kernel_rfl)
 refine (aI (F:=EC) bn Pv Tryz.func137 (by kernel_rfl) (by kernel_rfl) (by kernel_rfl) hl []).weaken ?_
 rintro ⟨av,rs⟩ co h
 have h:(EB av rs).run some=some co:=h
 obtain ⟨a0_,av0,rfl,h_0⟩:=au h
 obtain ⟨rfl,h_1⟩:=ay h_0
 obtain ⟨rfl,h_2⟩:=ay h_1
 obtain ⟨d1,rfl,h_3⟩:=ak h_2
 exact wE (R9 d1) (NU d1) h_3
noncomputable def YW (h2_0_0:(List Int)) (h2_0_1:Int):Int→Tre (Int ⊕ (Int ⊕ Unit)):=fun s2 =>
 .cond (decide (s2 < h2_0_1))
  (.ite (0≤s2∧s2 < (h2_0_0.length:Int)) <|
  .mat (h2_0_0[s2.toNat]?) fun x1 =>
  .cond (!decide (x1=0))
   (.ret (.inr (.inl s2)))
   (.ret (.inl (aO .i64 (s2+1)))))
  (.ret (.inr (.inr ())))
noncomputable def nm1 (p0:(List Int)):Tre Int :=
 .mat (aR (YW p0 (p0.length:Int)) 0) fun l2 =>
 .alt l2
  (fun a3 =>
   .ret a3)
  (fun _ =>
   .ret (-1))
noncomputable def arb (p0:(List Int)):Option Int:=(nm1 p0).run some
noncomputable def aor:Env:=⟨tau,[(137,EF)],[]⟩
noncomputable def ard:Code:=(Tryz.f99.body).getD .skip
noncomputable def acW (z2_0:Bool) (h2_0_0:(List Int)) (h2_0_1:Int):Int→St:=fun x=>bR [(0,(.imm z2_0 (.sl (.int .i64)) h2_0_0)),(1,(.fn 137 [])),(7,(.imm true (.int .i64) h2_0_1)),(8,(.imm true (.int .i64) x))] []
noncomputable def PU (_z2_0:Bool) (_h2_0_0:(List Int)) (_h2_0_1:Int):(Int ⊕ Unit)→Ex×St
 |.inl x=>(.ret,bR [(4,(.imm true (.int .i64) x))] [])
 |.inr _=>(.exit 0,bR [(4,.dead)] [])
noncomputable def aos (s:St):Tre (Ex×St) :=
 bH (.sl (.int .i64)) (s.tmps 0) fun z3 d2 =>
 Zq 137 [] (s.tmps 1) <|
 aC true (.int .i64) (s.tmps 7) fun d6 =>
 aC true (.int .i64) (s.tmps 8) fun d8 =>
 .mat (aR (YW d2 d6) d8) fun x=>.alt x (fun a0=>.ret (PU z3 d2 d6 (.inl a0))) (fun b0=>.ret (PU z3 d2 d6 (.inr b0)))
noncomputable def Od:bJ:=⟨([0,1,7,8],[]),([4],[]),aos⟩
noncomputable def ara:List (Nat×bJ):=[(2,Od)]
theorem aot:∀ (z2_0:Bool) (h2_0_0:(List Int)) (h2_0_1:Int) (x:Int) (c:St→Option (Ex×St)),den aor ara (aY ard 0) (acW z2_0 h2_0_0 h2_0_1 x) (bV Od.kp Od.kx c)=(YW h2_0_0 h2_0_1 x).run (bW (acW z2_0 h2_0_0 h2_0_1) (PU z2_0 h2_0_0 h2_0_1) c):=fun _ _ _ _ _=>by
 kernel_rfl
theorem asG:bS aor ara (aY ard 0) Od:=bA fun s e s' h=>by
 generalize hs:restrict Od.kp s=s1 at h
 have h:(aos s1).run some=some (e,s'):=h
 obtain ⟨z3,d2,e1,h_0⟩:=aF h
 obtain ⟨e4,h_1⟩:=nk h_0
 obtain ⟨d6,e5,h_2⟩:=ak h_1
 obtain ⟨d8,e7,h_3⟩:=ak h_2
 obtain ⟨y,hy,hz⟩:=kE h_3
 refine ⟨_,_,acW z3 d2 d6,PU z3 d2 d6,YW d2 d6,d8,y,?_,hy,?_,aot z3 d2 d6⟩
 ·subst hs;exact aT (T:=[(0,(.imm z3 (.sl (.int .i64)) d2)),(1,(.fn 137 [])),(7,(.imm true (.int .i64) d6)),(8,(.imm true (.int .i64) d8))]) (U:=[]) rfl rfl ⟨e1,e4,e5,e7,trivial⟩ trivial
 ·rcases y with x | x <;> exact Option.some.inj hz
noncomputable def axF:FnI:=⟨ard,Tryz.f99.results.toList,Tryz.f99.resultTypes.toList,ara⟩
noncomputable def arf (_zp0:Bool) (_p0:(List Int)):Int→aB:=fun r=>⟨(.imm true (.int .i64) r),[],[]⟩
theorem ayI:∀ (zp0:Bool) (p0:(List Int)),bQ aor axF ⟨[(.imm zp0 (.sl (.int .i64)) p0),(.fn 137 [])],[]⟩=(nm1 p0).run fun r=>some (arf zp0 p0 r):=fun _ _=>by kernel_rfl
noncomputable def axE (av:List AV) (rs:List Root):Tre aB :=
 aJ av fun a0_ av0 =>
 aJ av0 fun a1_ av1 =>
 aU av1 <|
 aU rs <|
 bH (.sl (.int .i64)) a0_ fun z2 d1 =>
 Zq 137 [] a1_ <|
 .mat (arb d1) fun r=>.ret (arf z2 d1 r)
noncomputable def axG:Ctr:=⟨[],fun ci=>axE ci.args ci.roots,false⟩
theorem awo:bP Tryz.prog .none aor:=(aA Sb ayu aP)
theorem ayJ:Contract Tryz.prog .none 99 axG:=by
 have hl:aZ aor ara ard:=(bC (n:=1) (by kernel_rfl) fun k hk=>by
   match k,hk with
   |0,_=>exact bq (id:=2) (L:=Od) (by kernel_rfl) (by kernel_rfl) asG)
 refine (aI (F:=axF) bn awo Tryz.func99 (by kernel_rfl) (by kernel_rfl) (by kernel_rfl) hl []).weaken ?_
 rintro ⟨av,rs⟩ co h
 have h:(axE av rs).run some=some co:=h
 obtain ⟨a0_,av0,rfl,h_0⟩:=au h
 obtain ⟨a1_,av1,rfl,h_1⟩:=au h_0
 obtain ⟨rfl,h_2⟩:=ay h_1
 obtain ⟨rfl,h_3⟩:=ay h_2
 obtain ⟨z2,d1,rfl,h_4⟩:=aF h_3
 obtain ⟨rfl,h_5⟩:=nk h_4
 exact bK (ayI z2 d1) h_5
noncomputable def gL (h3_0_0:(List (List Int))) (h3_0_1:Int):(Int×(List Int))→Tre ((Int×(List Int)) ⊕ (List Int)):=fun s3 =>
 .cond (decide (s3.1 < h3_0_1))
  (.ite (0≤s3.1∧s3.1 < (h3_0_0.length:Int)) <|
  .mat (h3_0_0[s3.1.toNat]?) fun x1 =>
  .mat (arb x1) fun r2 =>
  .ite ((s3.2.length+1) * 8≤bM∧1≤8) <|
  .ret (.inl (aO .i64 (s3.1+1),s3.2++([r2]))))
  (.ret (.inr s3.2))
noncomputable def Cx (p0:dP):Tre (List Int) :=
 .mat (aR (gL p0.2.2.1 (p0.2.2.1.length:Int)) (0,[])) fun l3 =>
 .ret l3
noncomputable def qW (p0:dP):Option (List Int):=(Cx p0).run some
noncomputable def mG:Env:=⟨tau,[(99,axG)],[]⟩
noncomputable def qX:Code:=(Tryz.f124.body).getD .skip
noncomputable def qY (z3_0:Bool) (h3_0_0:(List (List Int))) (h3_0_1:Int):(Int×(List Int))→St:=fun x=>bR [(3,(.ref (5,0) [])),(8,(.imm z3_0 (.sl (.sl (.int .i64))) h3_0_0)),(9,(.imm true (.int .i64) h3_0_1)),(10,(.imm true (.int .i64) x.1))] [((5,0),some ⟨false,(.sl (.int .i64)),.own,x.2⟩)]
noncomputable def pR (_z3_0:Bool) (_h3_0_0:(List (List Int))) (_h3_0_1:Int):(List Int)→Ex×St:=fun x=>(.exit 0,bR [(3,(.ref (5,0) []))] [((5,0),some ⟨false,(.sl (.int .i64)),.own,x⟩)])
noncomputable def BU (s:St):Tre (Ex×St) :=
 dz (5,0) [] (s.tmps 3) <|
 bH (.sl (.sl (.int .i64))) (s.tmps 8) fun z4 d3 =>
 aC true (.int .i64) (s.tmps 9) fun d6 =>
 aC true (.int .i64) (s.tmps 10) fun d8 =>
 bD false (.sl (.int .i64)) (s.roots (5,0)) fun m10 d11 =>
 asM .own m10 <|
 .mat (aR (gL d3 d6) (d8,d11)) fun x=>.ret (pR z4 d3 d6 x)
noncomputable def gZ:bJ:=⟨([3,8,9,10],[(5,0)]),([3],[(5,0)]),BU⟩
noncomputable def qV:List (Nat×bJ):=[(3,gZ)]
theorem MO:∀ (z3_0:Bool) (h3_0_0:(List (List Int))) (h3_0_1:Int) (x:(Int×(List Int))) (c:St→Option (Ex×St)),den mG qV (aY qX 0) (qY z3_0 h3_0_0 h3_0_1 x) (bV gZ.kp gZ.kx c)=(gL h3_0_0 h3_0_1 x).run (bW (qY z3_0 h3_0_0 h3_0_1) (pR z3_0 h3_0_0 h3_0_1) c):=fun _ _ _ _ _=>by
 kernel_rfl
theorem Pt:bS mG qV (aY qX 0) gZ:=bA fun s e s' h=>by
 generalize hs:restrict gZ.kp s=s1 at h
 have h:(BU s1).run some=some (e,s'):=h
 obtain ⟨e1,h_0⟩:=bf h
 obtain ⟨z4,d3,e2,h_1⟩:=aF h_0
 obtain ⟨d6,e5,h_2⟩:=ak h_1
 obtain ⟨d8,e7,h_3⟩:=ak h_2
 obtain ⟨m10,d11,e9,h_4⟩:=aH h_3
 obtain ⟨rfl,h_5⟩:=aQ h_4
 obtain ⟨y,hy,hz⟩:=bT h_5
 refine ⟨_,_,qY z4 d3 d6,pR z4 d3 d6,gL d3 d6,(d8,d11),y,?_,hy,?_,MO z4 d3 d6⟩
 ·subst hs;exact aT (T:=[(3,(.ref (5,0) [])),(8,(.imm z4 (.sl (.sl (.int .i64))) d3)),(9,(.imm true (.int .i64) d6)),(10,(.imm true (.int .i64) d8))]) (U:=[((5,0),some ⟨false,(.sl (.int .i64)),.own,d11⟩)]) rfl rfl ⟨e1,e2,e5,e7,trivial⟩ ⟨e9,trivial⟩
 ·exact Option.some.inj hz
noncomputable def Jd:FnI:=⟨qX,Tryz.f124.results.toList,Tryz.f124.resultTypes.toList,qV⟩
noncomputable def EA (_zp0:Bool) (_p0:dP):(List Int)→aB:=fun r=>⟨(.ref (1,0) []),[],[⟨false,(.sl (.int .i64)),.own,r⟩]⟩
theorem Wv:∀ (zp0:Bool) (p0:dP),bQ mG Jd ⟨[(.imm zp0 dY p0)],[]⟩=(Cx p0).run fun r=>some (EA zp0 p0 r):=fun _ _=>by kernel_rfl
noncomputable def Jc (av:List AV) (rs:List Root):Tre aB :=
 aJ av fun a0_ av0 =>
 aU av0 <|
 aU rs <|
 bH dY a0_ fun z2 d1 =>
 .mat (qW d1) fun r=>.ret (EA z2 d1 r)
noncomputable def Je:Ctr:=⟨[],fun ci=>Jc ci.args ci.roots,false⟩
theorem Tq:bP Tryz.prog .none mG:=(aA ayJ at7 aP)
theorem Ww:Contract Tryz.prog .none 124 Je:=by
 have hl:aZ mG qV qX:=(bC (n:=1) (by kernel_rfl) fun k hk=>by
   match k,hk with
   |0,_=>exact bq (id:=3) (L:=gZ) (by kernel_rfl) (by kernel_rfl) Pt)
 refine (aI (F:=Jd) bn Tq Tryz.func124 (by kernel_rfl) (by kernel_rfl) (by kernel_rfl) hl []).weaken ?_
 rintro ⟨av,rs⟩ co h
 have h:(Jc av rs).run some=some co:=h
 obtain ⟨a0_,av0,rfl,h_0⟩:=au h
 obtain ⟨rfl,h_1⟩:=ay h_0
 obtain ⟨rfl,h_2⟩:=ay h_1
 obtain ⟨z2,d1,rfl,h_3⟩:=aF h_2
 exact bK (Wv z2 d1) h_3
noncomputable def jE (h2_0_0:(List Int)) (h2_0_1:Int) (h2_0_2:Int):Int→Tre (Int ⊕ (Int ⊕ Unit)):=fun s2 =>
 .cond (decide (s2 < h2_0_2))
  (.ite (0≤s2∧s2 < (h2_0_0.length:Int)) <|
  .mat (h2_0_0[s2.toNat]?) fun x1 =>
  .cond (decide (h2_0_1=x1))
   (.ret (.inr (.inl s2)))
   (.ret (.inl (aO .i64 (s2+1)))))
  (.ret (.inr (.inr ())))
noncomputable def slices_Index_int (p0:(List Int)) (p1:Int):Tre Int :=
 .mat (aR (jE p0 p1 (p0.length:Int)) 0) fun l2 =>
 .alt l2
  (fun a3 =>
   .ret a3)
  (fun _ =>
   .ret (-1))
noncomputable def rM (p0:(List Int)) (p1:Int):Option Int:=(slices_Index_int p0 p1).run some
noncomputable def mR:Env:=⟨tau,[],[]⟩
noncomputable def rO:Code:=(Tryz.f138.body).getD .skip
noncomputable def rP (z2_0:Bool) (h2_0_0:(List Int)) (h2_0_1:Int) (h2_0_2:Int):Int→St:=fun x=>bR [(0,(.imm z2_0 (.sl (.int .i64)) h2_0_0)),(1,(.imm true (.int .i64) h2_0_1)),(7,(.imm true (.int .i64) h2_0_2)),(8,(.imm true (.int .i64) x))] []
noncomputable def kZ (_z2_0:Bool) (_h2_0_0:(List Int)) (_h2_0_1:Int) (_h2_0_2:Int):(Int ⊕ Unit)→Ex×St
 |.inl x=>(.ret,bR [(4,(.imm true (.int .i64) x))] [])
 |.inr _=>(.exit 0,bR [(4,.dead)] [])
noncomputable def Ck (s:St):Tre (Ex×St) :=
 bH (.sl (.int .i64)) (s.tmps 0) fun z3 d2 =>
 aC true (.int .i64) (s.tmps 1) fun d5 =>
 aC true (.int .i64) (s.tmps 7) fun d7 =>
 aC true (.int .i64) (s.tmps 8) fun d9 =>
 .mat (aR (jE d2 d5 d7) d9) fun x=>.alt x (fun a0=>.ret (kZ z3 d2 d5 d7 (.inl a0))) (fun b0=>.ret (kZ z3 d2 d5 d7 (.inr b0)))
noncomputable def iy:bJ:=⟨([0,1,7,8],[]),([4],[]),Ck⟩
noncomputable def rJ:List (Nat×bJ):=[(2,iy)]
theorem Ng:∀ (z2_0:Bool) (h2_0_0:(List Int)) (h2_0_1:Int) (h2_0_2:Int) (x:Int) (c:St→Option (Ex×St)),den mR rJ (aY rO 0) (rP z2_0 h2_0_0 h2_0_1 h2_0_2 x) (bV iy.kp iy.kx c)=(jE h2_0_0 h2_0_1 h2_0_2 x).run (bW (rP z2_0 h2_0_0 h2_0_1 h2_0_2) (kZ z2_0 h2_0_0 h2_0_1 h2_0_2) c):=fun _ _ _ _ _ _=>by
 kernel_rfl
theorem Qt:bS mR rJ (aY rO 0) iy:=bA fun s e s' h=>by
 generalize hs:restrict iy.kp s=s1 at h
 have h:(Ck s1).run some=some (e,s'):=h
 obtain ⟨z3,d2,e1,h_0⟩:=aF h
 obtain ⟨d5,e4,h_1⟩:=ak h_0
 obtain ⟨d7,e6,h_2⟩:=ak h_1
 obtain ⟨d9,e8,h_3⟩:=ak h_2
 obtain ⟨y,hy,hz⟩:=kE h_3
 refine ⟨_,_,rP z3 d2 d5 d7,kZ z3 d2 d5 d7,jE d2 d5 d7,d9,y,?_,hy,?_,Ng z3 d2 d5 d7⟩
 ·subst hs;exact aT (T:=[(0,(.imm z3 (.sl (.int .i64)) d2)),(1,(.imm true (.int .i64) d5)),(7,(.imm true (.int .i64) d7)),(8,(.imm true (.int .i64) d9))]) (U:=[]) rfl rfl ⟨e1,e4,e6,e8,trivial⟩ trivial
 ·rcases y with x | x <;> exact Option.some.inj hz
noncomputable def KA:FnI:=⟨rO,Tryz.f138.results.toList,Tryz.f138.resultTypes.toList,rJ⟩
noncomputable def Fh (_zp0:Bool) (_p0:(List Int)) (_p1:Int):Int→aB:=fun r=>⟨(.imm true (.int .i64) r),[],[]⟩
theorem WZ:∀ (zp0:Bool) (p0:(List Int)) (p1:Int),bQ mR KA ⟨[(.imm zp0 (.sl (.int .i64)) p0),(.imm true (.int .i64) p1)],[]⟩=(slices_Index_int p0 p1).run fun r=>some (Fh zp0 p0 p1 r):=fun _ _ _=>by kernel_rfl
noncomputable def Kz (av:List AV) (rs:List Root):Tre aB :=
 aJ av fun a0_ av0 =>
 aJ av0 fun a1_ av1 =>
 aU av1 <|
 aU rs <|
 bH (.sl (.int .i64)) a0_ fun z2 d1 =>
 aC true (.int .i64) a1_ fun d3 =>
 .mat (rM d1 d3) fun r=>.ret (Fh z2 d1 d3 r)
noncomputable def KC:Ctr:=⟨[],fun ci=>Kz ci.args ci.roots,false⟩
theorem VA:bP Tryz.prog .none mR:=aP
theorem W9:Contract Tryz.prog .none 138 KC:=by
 have hl:aZ mR rJ rO:=(bC (n:=1) (by kernel_rfl) fun k hk=>by
   match k,hk with
   |0,_=>exact bq (id:=2) (L:=iy) (by kernel_rfl) (by kernel_rfl) Qt)
 refine (aI (F:=KA) bn VA Tryz.func138 (by kernel_rfl) (by kernel_rfl) (by kernel_rfl) hl []).weaken ?_
 rintro ⟨av,rs⟩ co h
 have h:(Kz av rs).run some=some co:=h
 obtain ⟨a0_,av0,rfl,h_0⟩:=au h
 obtain ⟨a1_,av1,rfl,h_1⟩:=au h_0
 obtain ⟨rfl,h_2⟩:=ay h_1
 obtain ⟨rfl,h_3⟩:=ay h_2
 obtain ⟨z2,d1,rfl,h_4⟩:=aF h_3
 obtain ⟨d3,rfl,h_5⟩:=ak h_4
 exact bK (WZ z2 d1 d3) h_5
noncomputable def slices_Contains_int (p0:(List Int)) (p1:Int):Tre Bool :=
 .mat (rM p0 p1) fun r1 =>
 .ret (decide (r1 ≥ 0))
noncomputable def mV (p0:(List Int)) (p1:Int):Option Bool:=(slices_Contains_int p0 p1).run some
noncomputable def ug:Env:=⟨tau,[(138,KC)],[]⟩
noncomputable def Ci:Code:=(Tryz.f125.body).getD .skip
noncomputable def Ch:FnI:=⟨Ci,Tryz.f125.results.toList,Tryz.f125.resultTypes.toList,[]⟩
noncomputable def Af (_zp0:Bool) (_p0:(List Int)) (_p1:Int):Bool→aB:=fun r=>⟨(.imm true .bool r),[],[]⟩
theorem Qr:∀ (zp0:Bool) (p0:(List Int)) (p1:Int),bQ ug Ch ⟨[(.imm zp0 (.sl (.int .i64)) p0),(.imm true (.int .i64) p1)],[]⟩=(slices_Contains_int p0 p1).run fun r=>some (Af zp0 p0 p1 r):=fun _ _ _=>by kernel_rfl
noncomputable def Cg (av:List AV) (rs:List Root):Tre aB :=
 aJ av fun a0_ av0 =>
 aJ av0 fun a1_ av1 =>
 aU av1 <|
 aU rs <|
 bH (.sl (.int .i64)) a0_ fun z2 d1 =>
 aC true (.int .i64) a1_ fun d3 =>
 .mat (mV d1 d3) fun r=>.ret (Af z2 d1 d3 r)
noncomputable def Cj:Ctr:=⟨[],fun ci=>Cg ci.args ci.roots,false⟩
theorem OP:bP Tryz.prog .none ug:=(aA W9 ayv aP)
theorem Qs:Contract Tryz.prog .none 125 Cj:=by
 have hl:aZ ug [] Ci:=bB (by kernel_rfl)
 refine (aI (F:=Ch) bn OP Tryz.func125 (by kernel_rfl) (by kernel_rfl) (by kernel_rfl) hl []).weaken ?_
 rintro ⟨av,rs⟩ co h
 have h:(Cg av rs).run some=some co:=h
 obtain ⟨a0_,av0,rfl,h_0⟩:=au h
 obtain ⟨a1_,av1,rfl,h_1⟩:=au h_0
 obtain ⟨rfl,h_2⟩:=ay h_1
 obtain ⟨rfl,h_3⟩:=ay h_2
 obtain ⟨z2,d1,rfl,h_4⟩:=aF h_3
 obtain ⟨d3,rfl,h_5⟩:=ak h_4
 exact bK (Qr z2 d1 d3) h_5
noncomputable def gK (h9_0_0:Int) (h9_0_3:Int) (h9_0_5:dP) (h9_0_7:(List Int)):(Int×(List Int))→Tre ((Int×(List Int)) ⊕ (List Int)):=fun s9 =>
 .cond (decide (s9.1 < h9_0_3))
  (.ite (0≤s9.1∧s9.1 < (h9_0_7.length:Int)) <|
  .mat (h9_0_7[s9.1.toNat]?) fun x5 =>
  .ite (0≤s9.1∧s9.1 < (h9_0_5.2.2.1.length:Int)) <|
  .mat (h9_0_5.2.2.1[s9.1.toNat]?) fun x6 =>
  .ite (0≤h9_0_0∧h9_0_0 < (x6.length:Int)) <|
  .mat (x6[h9_0_0.toNat]?) fun x7 =>
  .ite (0≤x5∧x5 < (s9.2.length:Int)) <|
  .mat (s9.2[x5.toNat]?) fun _ =>
  .ret (.inl (aO .i64 (s9.1+1),s9.2.set x5.toNat x7)))
  (.ret (.inr s9.2))
noncomputable def gJ (h3_0_0:Int) (h3_0_2:dP) (h3_0_4:(List Int)):(Int×(List (List Int)))→Tre ((Int×(List (List Int))) ⊕ (List (List Int))):=fun s3 =>
 .cond (decide (s3.1 < h3_0_0))
  (.mat (mV h3_0_4 s3.1) fun r2 =>
  .cond r2
   (.ret (.inl (aO .i64 (s3.1+1),s3.2)))
   (.ite (((.int .i64):K)=(.int .i64)∧0≤h3_0_2.2.1∧h3_0_2.2.1=h3_0_2.2.1∧h3_0_2.2.1 * (8:Nat)≤140737488355328∧1≤8) <|
   .ite (0≤s3.1∧s3.1 < ((List.replicate h3_0_2.2.1.toNat (0:Int)).length:Int)) <|
   .mat ((List.replicate h3_0_2.2.1.toNat (0:Int))[s3.1.toNat]?) fun _ =>
   let v4:=(List.replicate h3_0_2.2.1.toNat (0:Int)).set s3.1.toNat 1
   .mat (aR (gK s3.1 (h3_0_4.length:Int) h3_0_2 h3_0_4) (0,v4)) fun l9 =>
   .ite ((s3.2.length+1) * 24≤bM∧1≤24) <|
   .ret (.inl (aO .i64 (s3.1+1),s3.2++([l9])))))
  (.ret (.inr s3.2))
noncomputable def Cw (p0:dP):Tre dP :=
 .mat (qW p0) fun r1 =>
 .mat (aR (gJ p0.2.1 p0 r1) (0,[])) fun l10 =>
 .mat (pF p0.1 p0.2.1 l10) fun r11 =>
 .ret (p0.1,(p0.2.1,(r11,())))
noncomputable def qQ (p0:dP):Option dP:=(Cw p0).run some
noncomputable def iO:Env:=⟨tau,[(124,Je),(125,Cj),(96,Cv)],[(1000000,[((4,0),[.snd,.snd,.fst],false)])]⟩
noncomputable def jT:Code:=(Tryz.f98.body).getD .skip
noncomputable def qU (z9_0:Bool) (h9_0_0:Int) (h9_0_1:Int) (h9_0_2:Int) (h9_0_3:Int) (h9_0_5:dP) (h9_0_6:dP) (h9_0_7:(List Int)) (h9_0_8:(List (List Int))):(Int×(List Int))→St:=fun x=>bR [(1,(.ptr (3,0) [])),(2,(.ptr (4,0) [])),(3,(.ref (5,0) [])),(4,(.ref (6,0) [])),(5,(.imm true (.int .i64) h9_0_0)),(6,(.ref (8,0) [])),(13,(.imm true (.int .i64) h9_0_1)),(14,(.imm true (.int .i64) h9_0_2)),(26,(.ref (5,0) [])),(27,(.imm true (.int .i64) h9_0_3)),(28,(.imm true (.int .i64) x.1))] [((3,0),some ⟨true,dY,(.imm z9_0),h9_0_5⟩),((4,0),some ⟨true,dY,.own,h9_0_6⟩),((5,0),some ⟨false,(.sl (.int .i64)),.own,h9_0_7⟩),((6,0),some ⟨false,(.sl (.sl (.int .i64))),.own,h9_0_8⟩),((8,0),some ⟨false,(.sl (.int .i64)),.own,x.2⟩)]
noncomputable def pQ (z9_0:Bool) (_h9_0_0:Int) (h9_0_1:Int) (h9_0_2:Int) (_h9_0_3:Int) (h9_0_5:dP) (h9_0_6:dP) (h9_0_7:(List Int)) (h9_0_8:(List (List Int))):(List Int)→Ex×St:=fun x=>(.exit 2,bR [(1,(.ptr (3,0) [])),(2,(.ptr (4,0) [])),(3,(.ref (5,0) [])),(4,(.ref (6,0) [])),(6,(.ref (8,0) [])),(13,(.imm true (.int .i64) h9_0_1)),(14,(.imm true (.int .i64) h9_0_2))] [((3,0),some ⟨true,dY,(.imm z9_0),h9_0_5⟩),((4,0),some ⟨true,dY,.own,h9_0_6⟩),((5,0),some ⟨false,(.sl (.int .i64)),.own,h9_0_7⟩),((6,0),some ⟨false,(.sl (.sl (.int .i64))),.own,h9_0_8⟩),((8,0),some ⟨false,(.sl (.int .i64)),.own,x⟩)])
noncomputable def BR (s:St):Tre (Ex×St) :=
 dW (3,0) [] (s.tmps 1) <|
 dW (4,0) [] (s.tmps 2) <|
 dz (5,0) [] (s.tmps 3) <|
 dz (6,0) [] (s.tmps 4) <|
 aC true (.int .i64) (s.tmps 5) fun d6 =>
 dz (8,0) [] (s.tmps 6) <|
 aC true (.int .i64) (s.tmps 13) fun d9 =>
 aC true (.int .i64) (s.tmps 14) fun d11 =>
 dz (5,0) [] (s.tmps 26) <|
 aC true (.int .i64) (s.tmps 27) fun d14 =>
 aC true (.int .i64) (s.tmps 28) fun d16 =>
 bD true dY (s.roots (3,0)) fun m18 d19 =>
 uQ m18 fun z20 =>
 bD true dY (s.roots (4,0)) fun m22 d23 =>
 asM .own m22 <|
 bD false (.sl (.int .i64)) (s.roots (5,0)) fun m25 d26 =>
 asM .own m25 <|
 bD false (.sl (.sl (.int .i64))) (s.roots (6,0)) fun m28 d29 =>
 asM .own m28 <|
 bD false (.sl (.int .i64)) (s.roots (8,0)) fun m31 d32 =>
 asM .own m31 <|
 .mat (aR (gK d6 d14 d19 d26) (d16,d32)) fun x=>.ret (pQ z20 d6 d9 d11 d14 d19 d23 d26 d29 x)
noncomputable def gY:bJ:=⟨([1,2,3,4,5,6,13,14,26,27,28],[(3,0),(4,0),(5,0),(6,0),(8,0)]),([1,2,3,4,6,13,14],[(3,0),(4,0),(5,0),(6,0),(8,0)]),BR⟩
noncomputable def qR (z3_0:Bool) (h3_0_0:Int) (h3_0_2:dP) (h3_0_3:dP) (h3_0_4:(List Int)):(Int×(List (List Int)))→St:=fun x=>bR [(1,(.ptr (3,0) [])),(2,(.ptr (4,0) [])),(3,(.ref (5,0) [])),(4,(.ref (6,0) [])),(13,(.imm true (.int .i64) h3_0_0)),(14,(.imm true (.int .i64) x.1))] [((3,0),some ⟨true,dY,(.imm z3_0),h3_0_2⟩),((4,0),some ⟨true,dY,.own,h3_0_3⟩),((5,0),some ⟨false,(.sl (.int .i64)),.own,h3_0_4⟩),((6,0),some ⟨false,(.sl (.sl (.int .i64))),.own,x.2⟩)]
noncomputable def pO (z3_0:Bool) (_h3_0_0:Int) (h3_0_2:dP) (h3_0_3:dP) (_h3_0_4:(List Int)):(List (List Int))→Ex×St:=fun x=>(.exit 0,bR [(1,(.ptr (3,0) [])),(2,(.ptr (4,0) [])),(4,(.ref (6,0) []))] [((3,0),some ⟨true,dY,(.imm z3_0),h3_0_2⟩),((4,0),some ⟨true,dY,.own,h3_0_3⟩),((6,0),some ⟨false,(.sl (.sl (.int .i64))),.own,x⟩)])
noncomputable def BQ (s:St):Tre (Ex×St) :=
 dW (3,0) [] (s.tmps 1) <|
 dW (4,0) [] (s.tmps 2) <|
 dz (5,0) [] (s.tmps 3) <|
 dz (6,0) [] (s.tmps 4) <|
 aC true (.int .i64) (s.tmps 13) fun d6 =>
 aC true (.int .i64) (s.tmps 14) fun d8 =>
 bD true dY (s.roots (3,0)) fun m10 d11 =>
 uQ m10 fun z12 =>
 bD true dY (s.roots (4,0)) fun m14 d15 =>
 asM .own m14 <|
 bD false (.sl (.int .i64)) (s.roots (5,0)) fun m17 d18 =>
 asM .own m17 <|
 bD false (.sl (.sl (.int .i64))) (s.roots (6,0)) fun m20 d21 =>
 asM .own m20 <|
 .mat (aR (gJ d6 d11 d18) (d8,d21)) fun x=>.ret (pO z12 d6 d11 d15 d18 x)
noncomputable def gX:bJ:=⟨([1,2,3,4,13,14],[(3,0),(4,0),(5,0),(6,0)]),([1,2,4],[(3,0),(4,0),(6,0)]),BQ⟩
noncomputable def jS:List (Nat×bJ):=[(9,gY),(3,gX)]
theorem MN:∀ (z9_0:Bool) (h9_0_0:Int) (h9_0_1:Int) (h9_0_2:Int) (h9_0_3:Int) (h9_0_5:dP) (h9_0_6:dP) (h9_0_7:(List Int)) (h9_0_8:(List (List Int))) (x:(Int×(List Int))) (c:St→Option (Ex×St)),den iO jS (aY jT 1) (qU z9_0 h9_0_0 h9_0_1 h9_0_2 h9_0_3 h9_0_5 h9_0_6 h9_0_7 h9_0_8 x) (bV gY.kp gY.kx c)=(gK h9_0_0 h9_0_3 h9_0_5 h9_0_7 x).run (bW (qU z9_0 h9_0_0 h9_0_1 h9_0_2 h9_0_3 h9_0_5 h9_0_6 h9_0_7 h9_0_8) (pQ z9_0 h9_0_0 h9_0_1 h9_0_2 h9_0_3 h9_0_5 h9_0_6 h9_0_7 h9_0_8) c):=fun _ _ _ _ _ _ _ _ _ _ _=>by
 kernel_rfl
theorem Pq:bS iO jS (aY jT 1) gY:=bA fun s e s' h=>by
 generalize hs:restrict gY.kp s=s1 at h
 have h:(BR s1).run some=some (e,s'):=h
 obtain ⟨e1,h_0⟩:=bI h
 obtain ⟨e2,h_1⟩:=bI h_0
 obtain ⟨e3,h_2⟩:=bf h_1
 obtain ⟨e4,h_3⟩:=bf h_2
 obtain ⟨d6,e5,h_4⟩:=ak h_3
 obtain ⟨e7,h_5⟩:=bf h_4
 obtain ⟨d9,e8,h_6⟩:=ak h_5
 obtain ⟨d11,e10,h_7⟩:=ak h_6
 obtain ⟨e12,h_8⟩:=bf h_7
 obtain ⟨d14,e13,h_9⟩:=ak h_8
 obtain ⟨d16,e15,h_10⟩:=ak h_9
 obtain ⟨m18,d19,e17,h_11⟩:=aH h_10
 obtain ⟨z20,rfl,h_12⟩:=fG h_11
 obtain ⟨m22,d23,e21,h_13⟩:=aH h_12
 obtain ⟨rfl,h_14⟩:=aQ h_13
 obtain ⟨m25,d26,e24,h_15⟩:=aH h_14
 obtain ⟨rfl,h_16⟩:=aQ h_15
 obtain ⟨m28,d29,e27,h_17⟩:=aH h_16
 obtain ⟨rfl,h_18⟩:=aQ h_17
 obtain ⟨m31,d32,e30,h_19⟩:=aH h_18
 obtain ⟨rfl,h_20⟩:=aQ h_19
 obtain ⟨y,hy,hz⟩:=bT h_20
 refine ⟨_,_,qU z20 d6 d9 d11 d14 d19 d23 d26 d29,pQ z20 d6 d9 d11 d14 d19 d23 d26 d29,gK d6 d14 d19 d26,(d16,d32),y,?_,hy,?_,MN z20 d6 d9 d11 d14 d19 d23 d26 d29⟩
 ·subst hs;exact aT (T:=[(1,(.ptr (3,0) [])),(2,(.ptr (4,0) [])),(3,(.ref (5,0) [])),(4,(.ref (6,0) [])),(5,(.imm true (.int .i64) d6)),(6,(.ref (8,0) [])),(13,(.imm true (.int .i64) d9)),(14,(.imm true (.int .i64) d11)),(26,(.ref (5,0) [])),(27,(.imm true (.int .i64) d14)),(28,(.imm true (.int .i64) d16))]) (U:=[((3,0),some ⟨true,dY,(.imm z20),d19⟩),((4,0),some ⟨true,dY,.own,d23⟩),((5,0),some ⟨false,(.sl (.int .i64)),.own,d26⟩),((6,0),some ⟨false,(.sl (.sl (.int .i64))),.own,d29⟩),((8,0),some ⟨false,(.sl (.int .i64)),.own,d32⟩)]) rfl rfl ⟨e1,e2,e3,e4,e5,e7,e8,e10,e12,e13,e15,trivial⟩ ⟨e17,e21,e24,e27,e30,trivial⟩
 ·exact Option.some.inj hz
theorem ML:∀ (z3_0:Bool) (h3_0_0:Int) (h3_0_2:dP) (h3_0_3:dP) (h3_0_4:(List Int)) (x:(Int×(List (List Int)))) (c:St→Option (Ex×St)),den iO jS (aY jT 0) (qR z3_0 h3_0_0 h3_0_2 h3_0_3 h3_0_4 x) (bV gX.kp gX.kx c)=(gJ h3_0_0 h3_0_2 h3_0_4 x).run (bW (qR z3_0 h3_0_0 h3_0_2 h3_0_3 h3_0_4) (pO z3_0 h3_0_0 h3_0_2 h3_0_3 h3_0_4) c):=fun _ _ _ _ _ _ _=>by
 kernel_rfl
theorem Pp:bS iO jS (aY jT 0) gX:=bA fun s e s' h=>by
 generalize hs:restrict gX.kp s=s1 at h
 have h:(BQ s1).run some=some (e,s'):=h
 obtain ⟨e1,h_0⟩:=bI h
 obtain ⟨e2,h_1⟩:=bI h_0
 obtain ⟨e3,h_2⟩:=bf h_1
 obtain ⟨e4,h_3⟩:=bf h_2
 obtain ⟨d6,e5,h_4⟩:=ak h_3
 obtain ⟨d8,e7,h_5⟩:=ak h_4
 obtain ⟨m10,d11,e9,h_6⟩:=aH h_5
 obtain ⟨z12,rfl,h_7⟩:=fG h_6
 obtain ⟨m14,d15,e13,h_8⟩:=aH h_7
 obtain ⟨rfl,h_9⟩:=aQ h_8
 obtain ⟨m17,d18,e16,h_10⟩:=aH h_9
 obtain ⟨rfl,h_11⟩:=aQ h_10
 obtain ⟨m20,d21,e19,h_12⟩:=aH h_11
 obtain ⟨rfl,h_13⟩:=aQ h_12
 obtain ⟨y,hy,hz⟩:=bT h_13
 refine ⟨_,_,qR z12 d6 d11 d15 d18,pO z12 d6 d11 d15 d18,gJ d6 d11 d18,(d8,d21),y,?_,hy,?_,ML z12 d6 d11 d15 d18⟩
 ·subst hs;exact aT (T:=[(1,(.ptr (3,0) [])),(2,(.ptr (4,0) [])),(3,(.ref (5,0) [])),(4,(.ref (6,0) [])),(13,(.imm true (.int .i64) d6)),(14,(.imm true (.int .i64) d8))]) (U:=[((3,0),some ⟨true,dY,(.imm z12),d11⟩),((4,0),some ⟨true,dY,.own,d15⟩),((5,0),some ⟨false,(.sl (.int .i64)),.own,d18⟩),((6,0),some ⟨false,(.sl (.sl (.int .i64))),.own,d21⟩)]) rfl rfl ⟨e1,e2,e3,e4,e5,e7,trivial⟩ ⟨e9,e13,e16,e19,trivial⟩
 ·exact Option.some.inj hz
noncomputable def Ja:FnI:=⟨jT,Tryz.f98.results.toList,Tryz.f98.resultTypes.toList,jS⟩
noncomputable def Ez (_zp0:Bool) (_p0:dP):dP→aB:=fun r=>⟨(.imm true dY r),[],[]⟩
theorem Wt:∀ (zp0:Bool) (p0:dP),bQ iO Ja ⟨[(.imm zp0 dY p0)],[]⟩=(Cw p0).run fun r=>some (Ez zp0 p0 r):=fun _ _=>by kernel_rfl
noncomputable def I9 (av:List AV) (rs:List Root):Tre aB :=
 aJ av fun a0_ av0 =>
 aU av0 <|
 aU rs <|
 bH dY a0_ fun z2 d1 =>
 .mat (qQ d1) fun r=>.ret (Ez z2 d1 r)
noncomputable def Jb:Ctr:=⟨[],fun ci=>I9 ci.args ci.roots,false⟩
theorem Tp:bP Tryz.prog .none iO:=(aA Ww ayl (aA Qs aym (aA Lc axy aP)))
theorem Wu:Contract Tryz.prog .none 98 Jb:=by
 have hl:aZ iO jS jT:=(bC (n:=2) (by kernel_rfl) fun k hk=>by
   match k,hk with
   |0,_=>exact bq (id:=3) (L:=gX) (by kernel_rfl) (by kernel_rfl) Pp
   |1,_=>exact bq (id:=9) (L:=gY) (by kernel_rfl) (by kernel_rfl) Pq)
 refine (aI (F:=Ja) bn Tp Tryz.func98 (by kernel_rfl) (by kernel_rfl) (by kernel_rfl) hl []).weaken ?_
 rintro ⟨av,rs⟩ co h
 have h:(I9 av rs).run some=some co:=h
 obtain ⟨a0_,av0,rfl,h_0⟩:=au h
 obtain ⟨rfl,h_1⟩:=ay h_0
 obtain ⟨rfl,h_2⟩:=ay h_1
 obtain ⟨z2,d1,rfl,h_3⟩:=aF h_2
 exact bK (Wt z2 d1) h_3
noncomputable def yM (p0:(Int×(Int×Unit))) (p1:Int) (p2:(List (List Int))):Tre (Unit ⊕ (List Int)) :=
 .mat (pF p0 p1 p2) fun r1 =>
 .cond (decide ((r1.length:Int)=p1))
  (.ret (.inl ()))
  (.mat (qQ (p0,(p1,(r1,())))) fun r2 =>
  .ite ((0:Int)≤0∧(0:Int) < (r2.2.2.1.length:Int)) <|
  .mat (r2.2.2.1[0]?) fun x3 =>
  .ret (.inr x3))
noncomputable def kM (p0:(Int×(Int×Unit))) (p1:Int) (p2:(List (List Int))):Option (Unit ⊕ (List Int)):=(yM p0 p1 p2).run some
-- more
theorem auC {r:List Int} {q:Nat} (hq:r[q]?=some 1) (hz:∀ e,e < q→r[e]?=some 0) (hl:r.length≤1000000):arb r=some (q:Int):=by
 have hql:=(List.getElem?_eq_some_iff.1 hq).1
 unfold arb nm1
 rw [ah (show aR (YW r (r.length:Int)) 0=some (.inl (q:Int)) from ?_)]
 ·rfl
 refine cZ (fun i=>(i:Int)) q _ (fun i hi=>?_) ?_
 ·unfold YW
  rw [eu (hz i hi),Tre.aG,decide_eq_true rfl,Bool.not_true,cond_false,Tre.aL,aX (by omega)]
 ·unfold YW
  rw [eu hq,Tre.aG,decide_eq_false (by decide),Bool.not_false,cond_true,Tre.aL]
theorem asD {f:TF3} {n a:Nat} {G:List (List Int)} {p:List Nat} (h:y8 f n n a G p) (hn:n≤1000) (f0:TF3) (n0:Int):qW (f0,n0,G.take a,())=some (aS p):=by
 have hal:=h.al
 have han:=h.ac
 have hpl:=h.pl
 have hlen:(G.take a).length=a:=by rw [List.length_take];omega
 unfold qW Cx
 dsimp only
 rw [ah (show aR (gL (G.take a) ((G.take a).length:Int)) (0,[])=some (aS p) from ?_),Tre.aL]
 refine cZ (fun i=>((i:Int),aS (p.take i))) a _ (fun i hi=>?_) ?_
 ·obtain ⟨r,hr,hrok,_⟩:=h.row hi
  obtain ⟨q,hq,hqn⟩:=h.piv hi
  obtain ⟨l1,l2⟩:=h.amf hi hr hq
  unfold gL
  dsimp only
  rw [eu hr,ah (auC l1 l2 (by rw [hrok.1];omega)),Tre.run_ite,if_pos (by rw [aW,List.length_take];unfold bM;omega),Tre.aL,aX (by omega)]
  rw [List.take_add_one,hq]
  unfold aS
  rw [List.map_append]
  rfl
 ·unfold gL
  dsimp only
  rw [hlen,dF,Tre.aL,List.take_of_length_le (by omega)]
theorem al9 {p:List Nat} (hp:p.length≤1000) (c:Nat):mV (aS p) (c:Int)=some (decide (c∈p)):=by
 have h1:rM (aS p) (c:Int)=some (nR (fun x=>decide ((c:Int)=x)) 0 (aS p)):=by
  unfold rM slices_Index_int
  rw [Tre.nX,Np (xs:=aS p) (fun i x=>cond (decide ((c:Int)=x)) (some (.inl (i:Int))) none) (.inr ())]
  ·rw [Option.bind_some,← VH (p:=fun x=>decide ((c:Int)=x))]
   generalize SK _ _ _ _=r
   cases r <;> rfl
  ·intro i x hx
   have hi:i < (aS p).length:=(List.getElem?_eq_some_iff.1 hx).1
   rw [aW] at hi
   unfold jE
   rw [eu hx,Tre.aG]
   cases decide ((c:Int)=x)
   ·simp only [cond_false,Tre.aL,aX (show i < 4611686018427387904 by omega)]
   ·rfl
  ·unfold jE
   exact dF
 unfold mV slices_Contains_int
 rw [ah h1]
 have h2:decide (nR (fun x=>decide ((c:Int)=x)) 0 (aS p) ≥ 0)=decide (c∈p):=by
  rcases zw (fun x=>decide ((c:Int)=x)) (aS p) 0 with ⟨e,hno⟩ | ⟨k,x,hk,hx,e⟩
  ·rw [e,decide_eq_false (by omega)]
   refine (decide_eq_false fun hc=>?_).symm
   have:=hno (c:Int) (List.mem_map.2 ⟨c,hc,rfl⟩)
   simp at this
  ·rw [e,decide_eq_true (by omega)]
   refine (decide_eq_true ?_).symm
   have hx:=of_decide_eq_true hx
   subst hx
   obtain ⟨y,hy,hyc⟩:=List.mem_map.1 (List.mem_of_getElem? hk)
   have:y=c:=by omega
   exact this ▸ hy
 rw [Tre.aL,h2]
def Qy (n:Nat) (p:List Nat) (E:List (List Int)) (m:Nat):List (List Int):=((List.range m).filter fun c=>!decide (c∈p)).map fun c=>Ri n c p E
theorem akH (n:Nat) (p:List Nat) (E:List (List Int)) (m:Nat):(Qy n p E m).length≤m:=by
 unfold Qy
 rw [List.length_map]
 have:=List.length_filter_le (fun c=>!decide (c∈p)) (List.range m)
 rw [List.length_range] at this
 exact this
theorem auA {f:TF3} (hf:aN f=true) {n a:Nat} {G:List (List Int)} {p:List Nat} (h:y8 f n n a G p) (hn:n≤1000):qQ (f,(n:Int),G.take a,())=some (f,(n:Int),DY f n (Qy n p (G.take a) n),()):=by
 have hal:=h.al
 have han:=h.ac
 have hpl:=h.pl
 have hlen:(G.take a).length=a:=by rw [List.length_take];omega
 have hrow:∀ c,c < n→aR (gK (c:Int) ((aS p).length:Int) (f,(n:Int),G.take a,()) (aS p)) (0,(List.replicate n (0:Int)).set c 1)=some (Ri n c p (G.take a)):=by
  intro c hc
  refine cZ (fun i=>((i:Int),jr c (BL n c) ((p.zip (G.take a)).take i))) a _ (fun i hi=>?_) ?_
  ·obtain ⟨r,hr,hrok,_⟩:=h.row hi
   obtain ⟨q,hq,hqn⟩:=h.piv hi
   have hok:okV f n (jr c (BL n c) ((p.zip (G.take a)).take i)):=JH _ (OU hf n c) fun x hx=>by
    have:=List.of_mem_zip (a:=x.1) (b:=x.2) (List.mem_of_mem_take hx)
    exact h.gr _ (List.mem_of_mem_take this.2)
   have hrc:=List.getElem?_eq_getElem (show c < r.length by rw [hrok.1];exact hc)
   have hoq:=List.getElem?_eq_getElem (show q < (jr c (BL n c) ((p.zip (G.take a)).take i)).length by rw [hok.1];exact hqn)
   have hrl:c < r.length:=by rw [hrok.1];exact hc
   have hol:q < (jr c (BL n c) ((p.zip (G.take a)).take i)).length:=by rw [hok.1];exact hqn
   unfold gK
   dsimp only
   rw [eu (dG hq),dB hr,dB hrc,dB hoq,Tre.aL,aX (by omega),Int.toNat_natCast,ah4 hq hr,uo hrc]
  ·unfold gK
   dsimp only
   rw [aW,hpl,dF,Tre.aL,List.take_of_length_le (by rw [List.length_zip];omega)]
   rfl
 have hrows:aR (gJ (n:Int) (f,(n:Int),G.take a,()) (aS p)) (0,[])=some (Qy n p (G.take a) n):=by
  refine cZ (fun c=>((c:Int),Qy n p (G.take a) c)) n _ (fun c hc=>?_) ?_
  ·have hfl:=akH n p (G.take a) c
   have hsu:Qy n p (G.take a) (c+1)=if c∈p then Qy n p (G.take a) c else Qy n p (G.take a) c++[Ri n c p (G.take a)]:=by
    unfold Qy
    rw [List.range_succ,List.filter_append,List.map_append]
    by_cases hcp:c∈p
    ·rw [if_pos hcp,List.filter_cons,if_neg (by simp [hcp])];simp
    ·rw [if_neg hcp,List.filter_cons,if_pos (by simp [hcp])];rfl
   unfold gJ
   dsimp only
   rw [Tre.aG,decide_eq_true (by omega),cond_true,ah (al9 (by omega) c),Tre.aG]
   by_cases hcp:c∈p
   ·rw [decide_eq_true hcp,cond_true,Tre.aL,aX (by omega),hsu,if_pos hcp]
   ·rw [decide_eq_false hcp,cond_false,Tre.run_ite,if_pos ⟨rfl,by omega,rfl,by omega,by omega⟩,Int.toNat_natCast]
    rw [dB (show (List.replicate n (0:Int))[c]?=some 0 by rw [List.getElem?_replicate,if_pos hc])]
    rw [Int.toNat_natCast,ah (hrow c hc),Tre.run_ite,if_pos (by unfold bM;omega),Tre.aL,aX (by omega),hsu,if_neg hcp]
  ·unfold gJ
   dsimp only
   rw [dF,Tre.aL]
 have hgr:GR f n (Qy n p (G.take a) n):=by
  intro r hr
  obtain ⟨c,_,rfl⟩:=List.mem_map.1 hr
  exact ah3 hf h c
 unfold qQ Cw
 dsimp only
 rw [ah (asD h hn _ _),ah hrows,ah (aq1 hf (by omega) hgr (by have:=akH n p (G.take a) n;omega)),Tre.aL]
theorem aqd {f:TF3} (hf:aN f=true) {n:Nat} (hn:n≤1000) {L:List (List Int)} (h:GR f n L) (hL:L.length≤1000) :
  ((DY f n L).length=n∧kM f (n:Int) L=some (.inl ()))∨((DY f n L).length≠n∧∃ x,kM f (n:Int) L=some (.inr x)∧alu f n L x):=by
 have hr:=aq1 hf (show n≤1000000 by omega) h (by omega)
 by_cases hl:(DY f n L).length=n
 ·refine .inl ⟨hl,?_⟩
  unfold kM yM
  rw [ah hr,Tre.aG,decide_eq_true (by omega)]
  rfl
 ·refine .inr ⟨hl,?_⟩
  obtain ⟨p,hI,hlen⟩:=y8.all hf (Nat.le_refl n) h
  have hel:=ag1 hf (m:=n) h
  have hE:DY f n L=(gT f 0 n (0,L)).2.take (gT f 0 n (0,L)).1:=rfl
  generalize hs:gT f 0 n (0,L)=s at hI hlen hel hE
  obtain ⟨a,G⟩:=s
  dsimp only at hI hlen hel hE
  have hal:=hI.al
  have hac:=hI.ac
  obtain ⟨c,hc,hcp⟩:=anR (n:=n) hI.pinc (by rw [hI.pl];omega)
  have hgr:GR f n (Qy n p (G.take a) n):=by
   intro r hr
   obtain ⟨c,_,rfl⟩:=List.mem_map.1 hr
   exact ah3 hf hI c
  obtain ⟨x,hx,hk⟩:=awm hf (E:=G.take a) (D:=Qy n p (G.take a) n) (fun r hr=>hI.gr r (List.mem_of_mem_take hr)) hgr (fun r hr y hy=>by
   obtain ⟨c',hc',rfl⟩:=List.mem_map.1 hy
   obtain ⟨h1,h2⟩:=List.mem_filter.1 hc'
   exact ak0 hf hI (List.mem_range.1 h1) (by simpa using h2) r hr) hc (d:=Ri n c p (G.take a)) (List.mem_map.2 ⟨c,List.mem_filter.2 ⟨List.mem_range.2 hc,by simp [hcp]⟩,rfl⟩) (aoG hI hc hcp)
  refine ⟨x,?_,alu.auQ hf h (hE ▸ hk)⟩
  have hxl:=(List.getElem?_eq_some_iff.1 hx).1
  unfold kM yM
  rw [ah hr,Tre.aG,decide_eq_false (by omega),cond_false,hE,ah (auA hf hI hn)]
  dsimp only
  rw [Tre.run_ite,if_pos ⟨by omega,by omega⟩,ah hx,Tre.aL]
noncomputable def Au:Env:=⟨tau,[(96,Cv),(97,QV),(98,Jb)],[(1000001,[])]⟩
noncomputable def K9:Code:=(Tryz.f63.body).getD .skip
noncomputable def K8:FnI:=⟨K9,Tryz.f63.results.toList,Tryz.f63.resultTypes.toList,[]⟩
noncomputable def xL (_zp0:Bool) (_p0:(Int×(Int×Unit))) (_p1:Int) (_p2:(List (List Int))):(Unit ⊕ (List Int))→aB
 |.inl r=>⟨.nil,[],[]⟩
 |.inr r=>⟨(.imm true (.sl (.int .i64)) r),[],[]⟩
theorem Yx:∀ (zp0:Bool) (p0:(Int×(Int×Unit))) (p1:Int) (p2:(List (List Int))),bQ Au K8 ⟨[(.imm true aM p0),(.imm true (.int .i64) p1),(.imm zp0 (.sl (.sl (.int .i64))) p2)],[]⟩=(yM p0 p1 p2).run fun r=>some (xL zp0 p0 p1 p2 r):=fun _ _ _ _=>by kernel_rfl
noncomputable def K7 (av:List AV) (rs:List Root):Tre aB :=
 aJ av fun a0_ av0 =>
 aJ av0 fun a1_ av1 =>
 aJ av1 fun a2_ av2 =>
 aU av2 <|
 aU rs <|
 aC true aM a0_ fun d1 =>
 aC true (.int .i64) a1_ fun d2 =>
 bH (.sl (.sl (.int .i64))) a2_ fun z4 d3 =>
 .mat (kM d1 d2 d3) fun r=>.alt r (fun a0=>.ret (xL z4 d1 d2 d3 (.inl a0))) (fun b0=>.ret (xL z4 d1 d2 d3 (.inr b0)))
noncomputable def La:Ctr:=⟨[],fun ci=>K7 ci.args ci.roots,false⟩
theorem Wm:bP Tryz.prog .none Au:=(aA Lc axy (aA acE azS (aA Wu azT aP)))
theorem Yy:Contract Tryz.prog .none 63 La:=by
 have hl:aZ Au [] K9:=bB (by kernel_rfl)
 refine (aI (F:=K8) bn Wm Tryz.func63 (by kernel_rfl) (by kernel_rfl) (by kernel_rfl) hl []).weaken ?_
 rintro ⟨av,rs⟩ co h
 have h:(K7 av rs).run some=some co:=h
 obtain ⟨a0_,av0,rfl,h_0⟩:=au h
 obtain ⟨a1_,av1,rfl,h_1⟩:=au h_0
 obtain ⟨a2_,av2,rfl,h_2⟩:=au h_1
 obtain ⟨rfl,h_3⟩:=ay h_2
 obtain ⟨rfl,h_4⟩:=ay h_3
 obtain ⟨d1,rfl,h_5⟩:=ak h_4
 obtain ⟨d2,rfl,h_6⟩:=ak h_5
 obtain ⟨z4,d3,rfl,h_7⟩:=aF h_6
 exact Zy (Yx z4 d1 d2 d3) h_7 (by rintro (x | x) <;> rfl)
noncomputable def rG (h7_0_1:Int) (h7_0_3:(List (List Int))):Int→Tre (Int ⊕ Int):=fun s7 =>
 .ite (0≤h7_0_1∧h7_0_1 < (h7_0_3.length:Int)) <|
 .mat (h7_0_3[h7_0_1.toNat]?) fun x2 =>
 .ite (0≤s7∧s7 < (x2.length:Int)) <|
 .mat (x2[s7.toNat]?) fun x3 =>
 .cond (decide (x3=0))
  (.ret (.inl (aO .i64 (s7+1))))
  (.ret (.inr s7))
noncomputable def rF (h4_0_2:(List (List Int))):(Int×(List Int))→Tre ((Int×(List Int)) ⊕ (List Int)):=fun s4 =>
 .cond (decide (s4.1 < (h4_0_2.length:Int)))
  (.mat (aR (rG s4.1 h4_0_2) 0) fun l4 =>
  .ite ((s4.2.length+1) * 8≤bM∧1≤8) <|
  .ret (.inl (aO .i64 (s4.1+1),s4.2++([l4]))))
  (.ret (.inr s4.2))
noncomputable def oL (h17_0_0:Int) (h17_0_2:(List (List Int))) (h17_0_3:(List Int)):(Int×(List Int))→Tre ((Int×(List Int)) ⊕ (List Int)):=fun s17 =>
 .cond (decide (s17.1 < (h17_0_2.length:Int)))
  (.ite (0≤s17.1∧s17.1 < (h17_0_3.length:Int)) <|
  .mat (h17_0_3[s17.1.toNat]?) fun x9 =>
  .ite (0≤s17.1∧s17.1 < (h17_0_2.length:Int)) <|
  .mat (h17_0_2[s17.1.toNat]?) fun x10 =>
  .ite (0≤h17_0_0∧h17_0_0 < (x10.length:Int)) <|
  .mat (x10[h17_0_0.toNat]?) fun x11 =>
  .ite (0≤x9∧x9 < (s17.2.length:Int)) <|
  .mat (s17.2[x9.toNat]?) fun _ =>
  .ret (.inl (aO .i64 (s17.1+1),s17.2.set x9.toNat x11)))
  (.ret (.inr s17.2))
noncomputable def je (h11_0_0:Int) (h11_0_2:(List (List Int))) (h11_0_3:(List Int)):Int→Tre (Int ⊕ ((Bool×(List Int)) ⊕ Unit)):=fun s11 =>
 .cond (decide (s11 < h11_0_0))
  (.mat (P8 h11_0_3 s11) fun r6 =>
  .cond r6
   (.ret (.inl (aO .i64 (s11+1))))
   (.ite (((.int .i64):K)=(.int .i64)∧0≤h11_0_0∧h11_0_0=h11_0_0∧h11_0_0 * (8:Nat)≤140737488355328∧1≤8) <|
   .ite (0≤s11∧s11 < ((List.replicate h11_0_0.toNat (0:Int)).length:Int)) <|
   .mat ((List.replicate h11_0_0.toNat (0:Int))[s11.toNat]?) fun _ =>
   let v8:=(List.replicate h11_0_0.toNat (0:Int)).set s11.toNat 1
   .mat (aR (oL s11 h11_0_2 h11_0_3) (0,v8)) fun l13 =>
   .ret (.inr (.inl (true,l13)))))
  (.ret (.inr (.inr ())))
noncomputable def V6 (p0:(Int×(Int×Unit))) (p1:Int) (p2:(List (List Int))):Tre (Bool×(List Int)) :=
 .mat (BA p0 p1 p2) fun r1 =>
 .mat (aR (rF r1) (0,[])) fun l5 =>
 .mat (aR (je p1 r1 l5) 0) fun l14 =>
 .alt l14
  (fun a15 =>
   .ret (a15.1,a15.2))
  (fun _ =>
   .ret (false,[]))
noncomputable def Ad (p0:(Int×(Int×Unit))) (p1:Int) (p2:(List (List Int))):Option (Bool×(List Int)):=(V6 p0 p1 p2).run some
-- more
theorem aq7 {p:List Nat} (hp:p.length≤1000) (c:Nat):P8 (aS p) (c:Int)=some (decide (c∈p)):=by
 have h2:(aS p).all (fun x=>!decide (x=(c:Int))) = !decide (c∈p):=by
  by_cases h:c∈p
  ·rw [decide_eq_true h]
   refine List.all_eq_false.2 ⟨(c:Int),List.mem_map.2 ⟨c,h,rfl⟩,?_⟩
   simp
  ·rw [decide_eq_false h]
   refine List.all_eq_true.2 fun x hx=>?_
   obtain ⟨y,hy,rfl⟩:=List.mem_map.1 hx
   have:(y:Int)≠(c:Int):=fun e=>h ((show y=c by omega) ▸ hy)
   simpa using this
 unfold P8 ail
 rw [Tre.nX,akk (xs:=aS p) (fun x=>!decide (x=(c:Int))) (.inl true) (.inr ()),h2]
 ·cases decide (c∈p) <;> rfl
 ·intro i x hx
  have hi:i < (aS p).length:=(List.getElem?_eq_some_iff.1 hx).1
  rw [aW] at hi
  unfold Ab
  rw [eu hx,Tre.aG]
  cases decide (x=(c:Int))
  ·simp only [Bool.not_false,cond_false,cond_true,Tre.aL,aX (show i < 4611686018427387904 by omega)]
  ·rfl
 ·unfold Ab
  exact dF
theorem akZ {f:TF3} {n a:Nat} {G:List (List Int)} {p:List Nat} (h:y8 f n n a G p) (hn:n≤1000):aR (rF (G.take a)) (0,[])=some (aS p):=by
 have hal:=h.al
 have han:=h.ac
 have hpl:=h.pl
 have hlen:(G.take a).length=a:=by rw [List.length_take];omega
 refine cZ (fun i=>((i:Int),aS (p.take i))) a _ (fun i hi=>?_) ?_
 ·obtain ⟨r,hr,hrok,_⟩:=h.row hi
  obtain ⟨q,hq,hqn⟩:=h.piv hi
  obtain ⟨l1,l2⟩:=h.amf hi hr hq
  have hin:aR (rG (i:Int) (G.take a)) 0=some (q:Int):=by
   refine cZ (fun e=>(e:Int)) q _ (fun e he=>?_) ?_
   ·unfold rG
    rw [dB hr,dB (l2 e he),Tre.aG,decide_eq_true rfl,cond_true,Tre.aL,aX (by omega)]
   ·unfold rG
    rw [dB hr,dB l1,Tre.aG,decide_eq_false (by decide),cond_false,Tre.aL]
  unfold rF
  dsimp only
  rw [Tre.aG,decide_eq_true (by omega),cond_true,ah hin,Tre.run_ite,if_pos (by rw [aW,List.length_take];unfold bM;omega),Tre.aL,aX (by omega)]
  rw [List.take_add_one,hq]
  unfold aS
  rw [List.map_append]
  rfl
 ·unfold rF
  dsimp only
  rw [hlen,dF,Tre.aL,List.take_of_length_le (by omega)]
theorem awv {f:TF3} (hf:aN f=true) {n a:Nat} {G:List (List Int)} {p:List Nat} (h:y8 f n n a G p) (hn:n≤1000) {c:Nat} (hc:c < n):aR (oL (c:Int) (G.take a) (aS p)) (0,(List.replicate n (0:Int)).set c 1)=some (Ri n c p (G.take a)):=by
 have hal:=h.al
 have han:=h.ac
 have hpl:=h.pl
 have hlen:(G.take a).length=a:=by rw [List.length_take];omega
 refine cZ (fun i=>((i:Int),jr c (BL n c) ((p.zip (G.take a)).take i))) a _ (fun i hi=>?_) ?_
 ·obtain ⟨r,hr,hrok,_⟩:=h.row hi
  obtain ⟨q,hq,hqn⟩:=h.piv hi
  have hok:okV f n (jr c (BL n c) ((p.zip (G.take a)).take i)):=JH _ (OU hf n c) fun x hx=>by
   have:=List.of_mem_zip (a:=x.1) (b:=x.2) (List.mem_of_mem_take hx)
   exact h.gr _ (List.mem_of_mem_take this.2)
  have hrc:=List.getElem?_eq_getElem (show c < r.length by rw [hrok.1];exact hc)
  have hoq:=List.getElem?_eq_getElem (show q < (jr c (BL n c) ((p.zip (G.take a)).take i)).length by rw [hok.1];exact hqn)
  unfold oL
  dsimp only
  rw [Tre.aG,decide_eq_true (by omega),cond_true,dB (dG hq),dB hr,dB hrc,dB hoq,Tre.aL,aX (by omega),Int.toNat_natCast,ah4 hq hr,uo hrc]
 ·unfold oL
  dsimp only
  rw [hlen,dF,Tre.aL,List.take_of_length_le (by rw [List.length_zip];omega)]
  rfl
theorem avd {f:TF3} (hf:aN f=true) {n:Nat} (hn:n≤1000) {L:List (List Int)} (h:GR f n L) (hL:L.length≤1000) :
  ((DY f n L).length=n∧Ad f (n:Int) L=some (false,[]))∨((DY f n L).length≠n∧∃ x,Ad f (n:Int) L=some (true,x)∧alu f n L x):=by
 have hr:=awH hf (show n≤1000000 by omega) h (by omega)
 obtain ⟨p,hI,hlen⟩:=y8.all hf (Nat.le_refl n) h
 have hel:=ag1 hf (m:=n) h
 have hE:DY f n L=(gT f 0 n (0,L)).2.take (gT f 0 n (0,L)).1:=rfl
 generalize hs:gT f 0 n (0,L)=s at hI hlen hel hE
 obtain ⟨a,G⟩:=s
 dsimp only at hI hlen hel hE
 have hal:=hI.al
 have hac:=hI.ac
 have hpl:=hI.pl
 have hstep:∀ c,c < n→c∈p→(je (n:Int) (G.take a) (aS p) (c:Int)).run some=some (.inl ((c+1:Nat):Int)):=by
  intro c hc hcp
  unfold je
  rw [Tre.aG,decide_eq_true (by omega),cond_true,ah (aq7 (by omega) c),Tre.aG,decide_eq_true hcp,cond_true,Tre.aL,aX (by omega)]
 by_cases hl:(DY f n L).length=n
 ·refine .inl ⟨hl,?_⟩
  have hp:=hI.full (by omega)
  have hloop:aR (je (n:Int) (G.take a) (aS p)) 0=some (.inr ()):=by
   refine cZ (fun c=>(c:Int)) n _ (fun c hc=>hstep c hc (by rw [hp];exact List.mem_range.2 hc)) ?_
   unfold je
   rw [dF,Tre.aL]
  unfold Ad V6
  rw [ah hr,hE,ah (akZ hI hn),ah hloop]
  rfl
 ·refine .inr ⟨hl,?_⟩
  have hex:∃ c,c < n∧c ∉ p:=anR hI.pinc (by rw [hI.pl];omega)
  obtain ⟨c,⟨hc,hcp⟩,hmin⟩:∃ c,(c < n∧c ∉ p)∧∀ e,e < c→¬ (e < n∧e ∉ p):=by
   obtain ⟨c0,hc0⟩:=hex
   induction c0 using Nat.strongRecOn with
   |ind c0 ih =>
    by_cases hx:∃ e,e < c0∧(e < n∧e ∉ p)
    ·obtain ⟨e,h1,h2⟩:=hx
     exact ih e h1 h2
    ·exact ⟨c0,hc0,fun e he h2=>hx ⟨e,he,h2⟩⟩
  refine ⟨Ri n c p (G.take a),?_,alu.auQ hf h ⟨ah3 hf hI c,⟨c,by rw [aoG hI hc hcp];decide⟩,by rw [hE];exact ak0 hf hI hc hcp⟩⟩
  have hloop:aR (je (n:Int) (G.take a) (aS p)) 0=some (.inl (true,Ri n c p (G.take a))):=by
   refine cZ (fun c=>(c:Int)) c _ (fun e he=>hstep e (by omega) (Classical.byContradiction fun hh=>hmin e he ⟨by omega,hh⟩)) ?_
   unfold je
   rw [Tre.aG,decide_eq_true (by omega),cond_true,ah (aq7 (by omega) c),Tre.aG,decide_eq_false hcp,cond_false,Tre.run_ite,if_pos ⟨rfl,by omega,rfl,by omega,by omega⟩,Int.toNat_natCast]
   rw [dB (show (List.replicate n (0:Int))[c]?=some 0 by rw [List.getElem?_replicate,if_pos hc])]
   rw [Int.toNat_natCast,ah (awv hf hI hn hc),Tre.aL]
  unfold Ad V6
  rw [ah hr,hE,ah (akZ hI hn),ah hloop]
  rfl
noncomputable def kG:Env:=⟨tau,[(88,Vm),(89,aip)],[]⟩
noncomputable def lW:Code:=(Tryz.f57.body).getD .skip
noncomputable def F7 (h7_0_0:Int) (h7_0_1:Int) (h7_0_3:(List (List Int))) (h7_0_4:(List Int)):Int→St:=fun x=>bR [(1,(.imm true (.int .i64) h7_0_0)),(8,(.ref (10,0) [])),(9,(.ref (11,0) [])),(10,(.imm true (.int .i64) h7_0_1)),(11,(.imm true (.int .i64) x))] [((10,0),some ⟨false,(.sl (.sl (.int .i64))),(.sl (.imm true)),h7_0_3⟩),((11,0),some ⟨false,(.sl (.int .i64)),.own,h7_0_4⟩)]
noncomputable def Dq (h7_0_0:Int) (h7_0_1:Int) (h7_0_3:(List (List Int))) (h7_0_4:(List Int)):Int→Ex×St:=fun x=>(.exit 2,bR [(1,(.imm true (.int .i64) h7_0_0)),(8,(.ref (10,0) [])),(9,(.ref (11,0) [])),(10,(.imm true (.int .i64) h7_0_1)),(11,(.imm true (.int .i64) x))] [((10,0),some ⟨false,(.sl (.sl (.int .i64))),(.sl (.imm true)),h7_0_3⟩),((11,0),some ⟨false,(.sl (.int .i64)),.own,h7_0_4⟩)])
noncomputable def Vs (s:St):Tre (Ex×St) :=
 aC true (.int .i64) (s.tmps 1) fun d2 =>
 dz (10,0) [] (s.tmps 8) <|
 dz (11,0) [] (s.tmps 9) <|
 aC true (.int .i64) (s.tmps 10) fun d6 =>
 aC true (.int .i64) (s.tmps 11) fun d8 =>
 bD false (.sl (.sl (.int .i64))) (s.roots (10,0)) fun m10 d11 =>
 asM (.sl (.imm true)) m10 <|
 bD false (.sl (.int .i64)) (s.roots (11,0)) fun m13 d14 =>
 asM .own m13 <|
 .mat (aR (rG d6 d11) d8) fun x=>.ret (Dq d2 d6 d11 d14 x)
noncomputable def qz:bJ:=⟨([1,8,9,10,11],[(10,0),(11,0)]),([1,8,9,10,11],[(10,0),(11,0)]),Vs⟩
noncomputable def F6 (h4_0_0:Int) (h4_0_2:(List (List Int))):(Int×(List Int))→St:=fun x=>bR [(1,(.imm true (.int .i64) h4_0_0)),(8,(.ref (10,0) [])),(9,(.ref (11,0) [])),(10,(.imm true (.int .i64) x.1))] [((10,0),some ⟨false,(.sl (.sl (.int .i64))),(.sl (.imm true)),h4_0_2⟩),((11,0),some ⟨false,(.sl (.int .i64)),.own,x.2⟩)]
noncomputable def Dp (h4_0_0:Int) (h4_0_2:(List (List Int))):(List Int)→Ex×St:=fun x=>(.exit 0,bR [(1,(.imm true (.int .i64) h4_0_0)),(8,(.ref (10,0) [])),(9,(.ref (11,0) []))] [((10,0),some ⟨false,(.sl (.sl (.int .i64))),(.sl (.imm true)),h4_0_2⟩),((11,0),some ⟨false,(.sl (.int .i64)),.own,x⟩)])
noncomputable def Vr (s:St):Tre (Ex×St) :=
 aC true (.int .i64) (s.tmps 1) fun d2 =>
 dz (10,0) [] (s.tmps 8) <|
 dz (11,0) [] (s.tmps 9) <|
 aC true (.int .i64) (s.tmps 10) fun d6 =>
 bD false (.sl (.sl (.int .i64))) (s.roots (10,0)) fun m8 d9 =>
 asM (.sl (.imm true)) m8 <|
 bD false (.sl (.int .i64)) (s.roots (11,0)) fun m11 d12 =>
 asM .own m11 <|
 .mat (aR (rF d9) (d6,d12)) fun x=>.ret (Dp d2 d9 x)
noncomputable def qy:bJ:=⟨([1,8,9,10],[(10,0),(11,0)]),([1,8,9],[(10,0),(11,0)]),Vr⟩
noncomputable def Dn (h17_0_0:Int) (h17_0_2:(List (List Int))) (h17_0_3:(List Int)):(Int×(List Int))→St:=fun x=>bR [(8,(.ref (10,0) [])),(9,(.ref (11,0) [])),(12,(.imm true (.int .i64) h17_0_0)),(13,(.ref (15,0) [])),(14,(.imm true (.int .i64) x.1))] [((10,0),some ⟨false,(.sl (.sl (.int .i64))),(.sl (.imm true)),h17_0_2⟩),((11,0),some ⟨false,(.sl (.int .i64)),.own,h17_0_3⟩),((15,0),some ⟨false,(.sl (.int .i64)),.own,x.2⟩)]
noncomputable def BF (_h17_0_0:Int) (_h17_0_2:(List (List Int))) (_h17_0_3:(List Int)):(List Int)→Ex×St:=fun x=>(.exit 6,bR [(13,(.ref (15,0) []))] [((15,0),some ⟨false,(.sl (.int .i64)),.own,x⟩)])
noncomputable def RD (s:St):Tre (Ex×St) :=
 dz (10,0) [] (s.tmps 8) <|
 dz (11,0) [] (s.tmps 9) <|
 aC true (.int .i64) (s.tmps 12) fun d4 =>
 dz (15,0) [] (s.tmps 13) <|
 aC true (.int .i64) (s.tmps 14) fun d7 =>
 bD false (.sl (.sl (.int .i64))) (s.roots (10,0)) fun m9 d10 =>
 asM (.sl (.imm true)) m9 <|
 bD false (.sl (.int .i64)) (s.roots (11,0)) fun m12 d13 =>
 asM .own m12 <|
 bD false (.sl (.int .i64)) (s.roots (15,0)) fun m15 d16 =>
 asM .own m15 <|
 .mat (aR (oL d4 d10 d13) (d7,d16)) fun x=>.ret (BF d4 d10 d13 x)
noncomputable def nH:bJ:=⟨([8,9,12,13,14],[(10,0),(11,0),(15,0)]),([13],[(15,0)]),RD⟩
noncomputable def Dm (h11_0_0:Int) (h11_0_2:(List (List Int))) (h11_0_3:(List Int)):Int→St:=fun x=>bR [(1,(.imm true (.int .i64) h11_0_0)),(8,(.ref (10,0) [])),(9,(.ref (11,0) [])),(12,(.imm true (.int .i64) x))] [((10,0),some ⟨false,(.sl (.sl (.int .i64))),(.sl (.imm true)),h11_0_2⟩),((11,0),some ⟨false,(.sl (.int .i64)),.own,h11_0_3⟩)]
noncomputable def uH (_h11_0_0:Int) (_h11_0_2:(List (List Int))) (_h11_0_3:(List Int)):((Bool×(List Int)) ⊕ Unit)→Ex×St
 |.inl x=>(.ret,bR [(6,(.ref (8,0) [])),(7,(.imm true .bool x.1))] [((8,0),some ⟨false,(.sl (.int .i64)),.own,x.2⟩)])
 |.inr _=>(.exit 4,bR [(6,.dead),(7,.dead)] [((8,0),none)])
noncomputable def RB (s:St):Tre (Ex×St) :=
 aC true (.int .i64) (s.tmps 1) fun d2 =>
 dz (10,0) [] (s.tmps 8) <|
 dz (11,0) [] (s.tmps 9) <|
 aC true (.int .i64) (s.tmps 12) fun d6 =>
 bD false (.sl (.sl (.int .i64))) (s.roots (10,0)) fun m8 d9 =>
 asM (.sl (.imm true)) m8 <|
 bD false (.sl (.int .i64)) (s.roots (11,0)) fun m11 d12 =>
 asM .own m11 <|
 .mat (aR (je d2 d9 d12) d6) fun x=>.alt x (fun a0=>.ret (uH d2 d9 d12 (.inl a0))) (fun b0=>.ret (uH d2 d9 d12 (.inr b0)))
noncomputable def nG:bJ:=⟨([1,8,9,12],[(10,0),(11,0)]),([6,7],[(8,0)]),RB⟩
noncomputable def lV:List (Nat×bJ):=[(7,qz),(4,qy),(17,nH),(11,nG)]
theorem abB:∀ (h7_0_0:Int) (h7_0_1:Int) (h7_0_3:(List (List Int))) (h7_0_4:(List Int)) (x:Int) (c:St→Option (Ex×St)),den kG lV (aY lW 1) (F7 h7_0_0 h7_0_1 h7_0_3 h7_0_4 x) (bV qz.kp qz.kx c)=(rG h7_0_1 h7_0_3 x).run (bW (F7 h7_0_0 h7_0_1 h7_0_3 h7_0_4) (Dq h7_0_0 h7_0_1 h7_0_3 h7_0_4) c):=fun _ _ _ _ _ _=>by
 kernel_rfl
theorem agd:bS kG lV (aY lW 1) qz:=bA fun s e s' h=>by
 generalize hs:restrict qz.kp s=s1 at h
 have h:(Vs s1).run some=some (e,s'):=h
 obtain ⟨d2,e1,h_0⟩:=ak h
 obtain ⟨e3,h_1⟩:=bf h_0
 obtain ⟨e4,h_2⟩:=bf h_1
 obtain ⟨d6,e5,h_3⟩:=ak h_2
 obtain ⟨d8,e7,h_4⟩:=ak h_3
 obtain ⟨m10,d11,e9,h_5⟩:=aH h_4
 obtain ⟨rfl,h_6⟩:=aQ h_5
 obtain ⟨m13,d14,e12,h_7⟩:=aH h_6
 obtain ⟨rfl,h_8⟩:=aQ h_7
 obtain ⟨y,hy,hz⟩:=bT h_8
 refine ⟨_,_,F7 d2 d6 d11 d14,Dq d2 d6 d11 d14,rG d6 d11,d8,y,?_,hy,?_,abB d2 d6 d11 d14⟩
 ·subst hs;exact aT (T:=[(1,(.imm true (.int .i64) d2)),(8,(.ref (10,0) [])),(9,(.ref (11,0) [])),(10,(.imm true (.int .i64) d6)),(11,(.imm true (.int .i64) d8))]) (U:=[((10,0),some ⟨false,(.sl (.sl (.int .i64))),(.sl (.imm true)),d11⟩),((11,0),some ⟨false,(.sl (.int .i64)),.own,d14⟩)]) rfl rfl ⟨e1,e3,e4,e5,e7,trivial⟩ ⟨e9,e12,trivial⟩
 ·exact Option.some.inj hz
theorem abA:∀ (h4_0_0:Int) (h4_0_2:(List (List Int))) (x:(Int×(List Int))) (c:St→Option (Ex×St)),den kG lV (aY lW 0) (F6 h4_0_0 h4_0_2 x) (bV qy.kp qy.kx c)=(rF h4_0_2 x).run (bW (F6 h4_0_0 h4_0_2) (Dp h4_0_0 h4_0_2) c):=fun _ _ _ _=>by
 kernel_rfl
theorem agc:bS kG lV (aY lW 0) qy:=bA fun s e s' h=>by
 generalize hs:restrict qy.kp s=s1 at h
 have h:(Vr s1).run some=some (e,s'):=h
 obtain ⟨d2,e1,h_0⟩:=ak h
 obtain ⟨e3,h_1⟩:=bf h_0
 obtain ⟨e4,h_2⟩:=bf h_1
 obtain ⟨d6,e5,h_3⟩:=ak h_2
 obtain ⟨m8,d9,e7,h_4⟩:=aH h_3
 obtain ⟨rfl,h_5⟩:=aQ h_4
 obtain ⟨m11,d12,e10,h_6⟩:=aH h_5
 obtain ⟨rfl,h_7⟩:=aQ h_6
 obtain ⟨y,hy,hz⟩:=bT h_7
 refine ⟨_,_,F6 d2 d9,Dp d2 d9,rF d9,(d6,d12),y,?_,hy,?_,abA d2 d9⟩
 ·subst hs;exact aT (T:=[(1,(.imm true (.int .i64) d2)),(8,(.ref (10,0) [])),(9,(.ref (11,0) [])),(10,(.imm true (.int .i64) d6))]) (U:=[((10,0),some ⟨false,(.sl (.sl (.int .i64))),(.sl (.imm true)),d9⟩),((11,0),some ⟨false,(.sl (.int .i64)),.own,d12⟩)]) rfl rfl ⟨e1,e3,e4,e5,trivial⟩ ⟨e7,e10,trivial⟩
 ·exact Option.some.inj hz
theorem Ze:∀ (h17_0_0:Int) (h17_0_2:(List (List Int))) (h17_0_3:(List Int)) (x:(Int×(List Int))) (c:St→Option (Ex×St)),den kG lV (aY lW 3) (Dn h17_0_0 h17_0_2 h17_0_3 x) (bV nH.kp nH.kx c)=(oL h17_0_0 h17_0_2 h17_0_3 x).run (bW (Dn h17_0_0 h17_0_2 h17_0_3) (BF h17_0_0 h17_0_2 h17_0_3) c):=fun _ _ _ _ _=>by
 kernel_rfl
theorem adK:bS kG lV (aY lW 3) nH:=bA fun s e s' h=>by
 generalize hs:restrict nH.kp s=s1 at h
 have h:(RD s1).run some=some (e,s'):=h
 obtain ⟨e1,h_0⟩:=bf h
 obtain ⟨e2,h_1⟩:=bf h_0
 obtain ⟨d4,e3,h_2⟩:=ak h_1
 obtain ⟨e5,h_3⟩:=bf h_2
 obtain ⟨d7,e6,h_4⟩:=ak h_3
 obtain ⟨m9,d10,e8,h_5⟩:=aH h_4
 obtain ⟨rfl,h_6⟩:=aQ h_5
 obtain ⟨m12,d13,e11,h_7⟩:=aH h_6
 obtain ⟨rfl,h_8⟩:=aQ h_7
 obtain ⟨m15,d16,e14,h_9⟩:=aH h_8
 obtain ⟨rfl,h_10⟩:=aQ h_9
 obtain ⟨y,hy,hz⟩:=bT h_10
 refine ⟨_,_,Dn d4 d10 d13,BF d4 d10 d13,oL d4 d10 d13,(d7,d16),y,?_,hy,?_,Ze d4 d10 d13⟩
 ·subst hs;exact aT (T:=[(8,(.ref (10,0) [])),(9,(.ref (11,0) [])),(12,(.imm true (.int .i64) d4)),(13,(.ref (15,0) [])),(14,(.imm true (.int .i64) d7))]) (U:=[((10,0),some ⟨false,(.sl (.sl (.int .i64))),(.sl (.imm true)),d10⟩),((11,0),some ⟨false,(.sl (.int .i64)),.own,d13⟩),((15,0),some ⟨false,(.sl (.int .i64)),.own,d16⟩)]) rfl rfl ⟨e1,e2,e3,e5,e6,trivial⟩ ⟨e8,e11,e14,trivial⟩
 ·exact Option.some.inj hz
theorem Zd:∀ (h11_0_0:Int) (h11_0_2:(List (List Int))) (h11_0_3:(List Int)) (x:Int) (c:St→Option (Ex×St)),den kG lV (aY lW 2) (Dm h11_0_0 h11_0_2 h11_0_3 x) (bV nG.kp nG.kx c)=(je h11_0_0 h11_0_2 h11_0_3 x).run (bW (Dm h11_0_0 h11_0_2 h11_0_3) (uH h11_0_0 h11_0_2 h11_0_3) c):=fun _ _ _ _ _=>by
 kernel_rfl
theorem adJ:bS kG lV (aY lW 2) nG:=bA fun s e s' h=>by
 generalize hs:restrict nG.kp s=s1 at h
 have h:(RB s1).run some=some (e,s'):=h
 obtain ⟨d2,e1,h_0⟩:=ak h
 obtain ⟨e3,h_1⟩:=bf h_0
 obtain ⟨e4,h_2⟩:=bf h_1
 obtain ⟨d6,e5,h_3⟩:=ak h_2
 obtain ⟨m8,d9,e7,h_4⟩:=aH h_3
 obtain ⟨rfl,h_5⟩:=aQ h_4
 obtain ⟨m11,d12,e10,h_6⟩:=aH h_5
 obtain ⟨rfl,h_7⟩:=aQ h_6
 obtain ⟨y,hy,hz⟩:=kE h_7
 refine ⟨_,_,Dm d2 d9 d12,uH d2 d9 d12,je d2 d9 d12,d6,y,?_,hy,?_,Zd d2 d9 d12⟩
 ·subst hs;exact aT (T:=[(1,(.imm true (.int .i64) d2)),(8,(.ref (10,0) [])),(9,(.ref (11,0) [])),(12,(.imm true (.int .i64) d6))]) (U:=[((10,0),some ⟨false,(.sl (.sl (.int .i64))),(.sl (.imm true)),d9⟩),((11,0),some ⟨false,(.sl (.int .i64)),.own,d12⟩)]) rfl rfl ⟨e1,e3,e4,e5,trivial⟩ ⟨e7,e10,trivial⟩
 ·rcases y with x | x <;> exact Option.some.inj hz
noncomputable def afg:FnI:=⟨lW,Tryz.f57.results.toList,Tryz.f57.resultTypes.toList,lV⟩
noncomputable def X5 (_zp0:Bool) (_p0:(Int×(Int×Unit))) (_p1:Int) (_p2:(List (List Int))):(Bool×(List Int))→aB:=fun r=>⟨(.tcons (.ref (1,0) []) (.tcons (.imm true .bool r.1) .tnil)),[],[⟨false,(.sl (.int .i64)),.own,r.2⟩]⟩
theorem amU:∀ (zp0:Bool) (p0:(Int×(Int×Unit))) (p1:Int) (p2:(List (List Int))),bQ kG afg ⟨[(.imm true aM p0),(.imm true (.int .i64) p1),(.imm zp0 (.sl (.sl (.int .i64))) p2)],[]⟩=(V6 p0 p1 p2).run fun r=>some (X5 zp0 p0 p1 p2 r):=fun _ _ _ _=>by kernel_rfl
noncomputable def aff (av:List AV) (rs:List Root):Tre aB :=
 aJ av fun a0_ av0 =>
 aJ av0 fun a1_ av1 =>
 aJ av1 fun a2_ av2 =>
 aU av2 <|
 aU rs <|
 aC true aM a0_ fun d1 =>
 aC true (.int .i64) a1_ fun d2 =>
 bH (.sl (.sl (.int .i64))) a2_ fun z4 d3 =>
 .mat (Ad d1 d2 d3) fun r=>.ret (X5 z4 d1 d2 d3 r)
noncomputable def afh:Ctr:=⟨[],fun ci=>aff ci.args ci.roots,false⟩
theorem aj8:bP Tryz.prog .none kG:=(aA agb azM (aA aoS azN aP))
theorem amV:Contract Tryz.prog .none 57 afh:=by
 have hl:aZ kG lV lW:=(bC (n:=4) (by kernel_rfl) fun k hk=>by
   match k,hk with
   |0,_=>exact bq (id:=4) (L:=qy) (by kernel_rfl) (by kernel_rfl) agc
   |1,_=>exact bq (id:=7) (L:=qz) (by kernel_rfl) (by kernel_rfl) agd
   |2,_=>exact bq (id:=11) (L:=nG) (by kernel_rfl) (by kernel_rfl) adJ
   |3,_=>exact bq (id:=17) (L:=nH) (by kernel_rfl) (by kernel_rfl) adK)
 refine (aI (F:=afg) bn aj8 Tryz.func57 (by kernel_rfl) (by kernel_rfl) (by kernel_rfl) hl []).weaken ?_
 rintro ⟨av,rs⟩ co h
 have h:(aff av rs).run some=some co:=h
 obtain ⟨a0_,av0,rfl,h_0⟩:=au h
 obtain ⟨a1_,av1,rfl,h_1⟩:=au h_0
 obtain ⟨a2_,av2,rfl,h_2⟩:=au h_1
 obtain ⟨rfl,h_3⟩:=ay h_2
 obtain ⟨rfl,h_4⟩:=ay h_3
 obtain ⟨d1,rfl,h_5⟩:=ak h_4
 obtain ⟨d2,rfl,h_6⟩:=ak h_5
 obtain ⟨z4,d3,rfl,h_7⟩:=aF h_6
 exact bK (amU z4 d1 d2 d3) h_7
noncomputable def rH (h2_0_0:(List Int)):Int→Tre (Int ⊕ Int):=fun s2 =>
 .cond (decide (s2 > 0))
  (.ite (0≤aO .i64 (s2 - 1)∧aO .i64 (s2 - 1) < (h2_0_0.length:Int)) <|
  .mat (h2_0_0[(aO .i64 (s2 - 1)).toNat]?) fun x1 =>
  .cond (decide (x1=0))
   (.ret (.inl (aO .i64 (s2 - 1))))
   (.ret (.inr s2)))
  (.ret (.inr s2))
noncomputable def adN (p0:(List Int)):Tre (List Int) :=
 .mat (aR (rH p0) (p0.length:Int)) fun l2 =>
 .ite (0≤(0:Int)∧(0:Int)≤l2∧l2≤(p0.length:Int)) <|
 let v3:=(p0.drop 0).take (l2 - 0).toNat
 .mat (fD v3) fun r4 =>
 .ret r4
noncomputable def E9 (p0:(List Int)):Option (List Int):=(adN p0).run some
-- more
theorem alq {l:List Nat} (hl2:l.length≤1000):E9 (aS l)=some (aS (bY l)):=by
 have htl:=lg l
 have hlen:=aW l
 have hm:∀ n,0 < n→n≤l.length→aO .i64 ((n:Int) - 1)=((n - 1:Nat):Int):=fun n h1 h2=>gM h1 (by omega)
 have hx:∀ n,0 < n→n≤l.length→(aS l)[n - 1]?=some (cf l (n - 1):Int):=fun n h1 h2=>dG (eT (by omega))
 unfold E9 adN
 rw [ah (show aR (rH (aS l)) ((aS l).length:Int)=some (((bY l).length:Nat):Int) from ?_)]
 ·rw [Tre.run_ite,if_pos (by omega)]
  dsimp only
  rw [show ((((bY l).length:Nat):Int) - 0).toNat=(bY l).length by omega,List.drop_zero,← VP,abQ,ah (show fD (aS (bY l))=some _ from JG (by rw [aW];omega)),Tre.aL]
 have h0:((aS l).length:Int)=((l.length - 0:Nat):Int):=by rw [hlen];omega
 rw [h0]
 refine cZ (fun i=>((l.length - i:Nat):Int)) (l.length - (bY l).length) _ (fun i hi=>?_) ?_
 ·unfold rH
  rw [Tre.aG,decide_eq_true (by omega),cond_true,hm _ (by omega) (by omega),dB (hx _ (by omega) (by omega)),Tre.aG,decide_eq_true (by rw [Ip (by omega)];rfl),cond_true,Tre.aL,Nat.sub_sub]
 ·rw [show l.length - (l.length - (bY l).length)=(bY l).length by omega]
  unfold rH
  by_cases hz:(bY l).length=0
  ·rw [Tre.aG,decide_eq_false (by omega),cond_false,Tre.aL]
  ·have h1:=(OT l).resolve_left hz
   rw [Tre.aG,decide_eq_true (by omega),cond_true,hm _ (by omega) htl,dB (hx _ (by omega) htl),Tre.aG,decide_eq_false (by omega),cond_false,Tre.aL]
noncomputable def Fe:Env:=⟨tau,[(108,C9)],[]⟩
noncomputable def Mv:Code:=(Tryz.f73.body).getD .skip
noncomputable def F8 (z2_0:Bool) (h2_0_0:(List Int)):Int→St:=fun x=>bR [(0,(.imm z2_0 (.sl (.int .i64)) h2_0_0)),(3,(.imm true (.int .i64) x))] []
noncomputable def Dr (z2_0:Bool) (h2_0_0:(List Int)):Int→Ex×St:=fun x=>(.exit 0,bR [(0,(.imm z2_0 (.sl (.int .i64)) h2_0_0)),(3,(.imm true (.int .i64) x))] [])
noncomputable def Vx (s:St):Tre (Ex×St) :=
 bH (.sl (.int .i64)) (s.tmps 0) fun z3 d2 =>
 aC true (.int .i64) (s.tmps 3) fun d5 =>
 .mat (aR (rH d2) d5) fun x=>.ret (Dr z3 d2 x)
noncomputable def qA:bJ:=⟨([0,3],[]),([0,3],[]),Vx⟩
noncomputable def Mt:List (Nat×bJ):=[(2,qA)]
theorem abC:∀ (z2_0:Bool) (h2_0_0:(List Int)) (x:Int) (c:St→Option (Ex×St)),den Fe Mt (aY Mv 0) (F8 z2_0 h2_0_0 x) (bV qA.kp qA.kx c)=(rH h2_0_0 x).run (bW (F8 z2_0 h2_0_0) (Dr z2_0 h2_0_0) c):=fun _ _ _ _=>by
 kernel_rfl
theorem agj:bS Fe Mt (aY Mv 0) qA:=bA fun s e s' h=>by
 generalize hs:restrict qA.kp s=s1 at h
 have h:(Vx s1).run some=some (e,s'):=h
 obtain ⟨z3,d2,e1,h_0⟩:=aF h
 obtain ⟨d5,e4,h_1⟩:=ak h_0
 obtain ⟨y,hy,hz⟩:=bT h_1
 refine ⟨_,_,F8 z3 d2,Dr z3 d2,rH d2,d5,y,?_,hy,?_,abC z3 d2⟩
 ·subst hs;exact aT (T:=[(0,(.imm z3 (.sl (.int .i64)) d2)),(3,(.imm true (.int .i64) d5))]) (U:=[]) rfl rfl ⟨e1,e4,trivial⟩ trivial
 ·exact Option.some.inj hz
noncomputable def afk:FnI:=⟨Mv,Tryz.f73.results.toList,Tryz.f73.resultTypes.toList,Mt⟩
noncomputable def Ya (_zp0:Bool) (_p0:(List Int)):(List Int)→aB:=fun r=>⟨(.ref (1,0) []),[],[⟨false,(.sl (.int .i64)),.own,r⟩]⟩
theorem amW:∀ (zp0:Bool) (p0:(List Int)),bQ Fe afk ⟨[(.imm zp0 (.sl (.int .i64)) p0)],[]⟩=(adN p0).run fun r=>some (Ya zp0 p0 r):=fun _ _=>by kernel_rfl
noncomputable def afj (av:List AV) (rs:List Root):Tre aB :=
 aJ av fun a0_ av0 =>
 aU av0 <|
 aU rs <|
 bH (.sl (.int .i64)) a0_ fun z2 d1 =>
 .mat (E9 d1) fun r=>.ret (Ya z2 d1 r)
noncomputable def afl:Ctr:=⟨[],fun ci=>afj ci.args ci.roots,false⟩
theorem akb:bP Tryz.prog .none Fe:=(aA ET acf aP)
theorem amX:Contract Tryz.prog .none 73 afl:=by
 have hl:aZ Fe Mt Mv:=(bC (n:=1) (by kernel_rfl) fun k hk=>by
   match k,hk with
   |0,_=>exact bq (id:=2) (L:=qA) (by kernel_rfl) (by kernel_rfl) agj)
 refine (aI (F:=afk) bn akb Tryz.func73 (by kernel_rfl) (by kernel_rfl) (by kernel_rfl) hl []).weaken ?_
 rintro ⟨av,rs⟩ co h
 have h:(afj av rs).run some=some co:=h
 obtain ⟨a0_,av0,rfl,h_0⟩:=au h
 obtain ⟨rfl,h_1⟩:=ay h_0
 obtain ⟨rfl,h_2⟩:=ay h_1
 obtain ⟨z2,d1,rfl,h_3⟩:=aF h_2
 exact bK (amW z2 d1) h_3
noncomputable def jW (h2_0_0:(List Int)) (h2_0_2:(Int×(Int×Unit))):Int→Tre (Int ⊕ (Bool ⊕ Unit)):=fun s2 =>
 .cond (decide (s2 < (h2_0_0.length:Int)))
  (.ite (0≤s2∧s2 < (h2_0_0.length:Int)) <|
  .mat (h2_0_0[s2.toNat]?) fun x1 =>
  .mat (Ac h2_0_2) fun r2 =>
  let v3:=inR x1 0 (aO .i64 (r2 - 1))
  .cond (!v3)
   (.ret (.inr (.inl false)))
   (.ret (.inl (aO .i64 (s2+1)))))
  (.ret (.inr (.inr ())))
noncomputable def M8 (p0:(Int×(Int×Unit))) (p1:(List Int)):Tre Bool :=
 .mat (aR (jW p1 p0) 0) fun l4 =>
 .alt l4
  (fun a5 =>
   .ret a5)
  (fun _ =>
   .ret true)
noncomputable def yU (p0:(Int×(Int×Unit))) (p1:(List Int)):Option Bool:=(M8 p0 p1).run some
noncomputable def sw:Env:=⟨tau,[(87,LU),(86,Ij)],[]⟩
noncomputable def yV:Code:=(Tryz.f140.body).getD .skip
noncomputable def xX (z2_0:Bool) (h2_0_0:(List Int)) (h2_0_2:(Int×(Int×Unit))):Int→St:=fun x=>bR [(1,(.imm z2_0 (.sl (.int .i64)) h2_0_0)),(2,(.ptr (4,0) [])),(5,(.imm true (.int .i64) x))] [((4,0),some ⟨true,aM,.own,h2_0_2⟩)]
noncomputable def nY (_z2_0:Bool) (_h2_0_0:(List Int)) (_h2_0_2:(Int×(Int×Unit))):(Bool ⊕ Unit)→Ex×St
 |.inl x=>(.ret,bR [(4,(.imm true .bool x))] [])
 |.inr _=>(.exit 0,bR [(4,.dead)] [])
noncomputable def J5 (s:St):Tre (Ex×St) :=
 bH (.sl (.int .i64)) (s.tmps 1) fun z3 d2 =>
 dW (4,0) [] (s.tmps 2) <|
 aC true (.int .i64) (s.tmps 5) fun d6 =>
 bD true aM (s.roots (4,0)) fun m8 d9 =>
 asM .own m8 <|
 .mat (aR (jW d2 d9) d6) fun x=>.alt x (fun a0=>.ret (nY z3 d2 d9 (.inl a0))) (fun b0=>.ret (nY z3 d2 d9 (.inr b0)))
noncomputable def jX:bJ:=⟨([1,2,5],[(4,0)]),([4],[]),J5⟩
noncomputable def yT:List (Nat×bJ):=[(2,jX)]
theorem Sn:∀ (z2_0:Bool) (h2_0_0:(List Int)) (h2_0_2:(Int×(Int×Unit))) (x:Int) (c:St→Option (Ex×St)),den sw yT (aY yV 0) (xX z2_0 h2_0_0 h2_0_2 x) (bV jX.kp jX.kx c)=(jW h2_0_0 h2_0_2 x).run (bW (xX z2_0 h2_0_0 h2_0_2) (nY z2_0 h2_0_0 h2_0_2) c):=fun _ _ _ _ _=>by
 kernel_rfl
theorem WR:bS sw yT (aY yV 0) jX:=bA fun s e s' h=>by
 generalize hs:restrict jX.kp s=s1 at h
 have h:(J5 s1).run some=some (e,s'):=h
 obtain ⟨z3,d2,e1,h_0⟩:=aF h
 obtain ⟨e4,h_1⟩:=bI h_0
 obtain ⟨d6,e5,h_2⟩:=ak h_1
 obtain ⟨m8,d9,e7,h_3⟩:=aH h_2
 obtain ⟨rfl,h_4⟩:=aQ h_3
 obtain ⟨y,hy,hz⟩:=kE h_4
 refine ⟨_,_,xX z3 d2 d9,nY z3 d2 d9,jW d2 d9,d6,y,?_,hy,?_,Sn z3 d2 d9⟩
 ·subst hs;exact aT (T:=[(1,(.imm z3 (.sl (.int .i64)) d2)),(2,(.ptr (4,0) [])),(5,(.imm true (.int .i64) d6))]) (U:=[((4,0),some ⟨true,aM,.own,d9⟩)]) rfl rfl ⟨e1,e4,e5,trivial⟩ ⟨e7,trivial⟩
 ·rcases y with x | x <;> exact Option.some.inj hz
noncomputable def Ru:FnI:=⟨yV,Tryz.f140.results.toList,Tryz.f140.resultTypes.toList,yT⟩
noncomputable def L9 (_zp0:Bool) (_p0:(Int×(Int×Unit))) (_p1:(List Int)):Bool→aB:=fun r=>⟨(.imm true .bool r),[],[]⟩
theorem adt:∀ (zp0:Bool) (p0:(Int×(Int×Unit))) (p1:(List Int)),bQ sw Ru ⟨[(.imm true aM p0),(.imm zp0 (.sl (.int .i64)) p1)],[]⟩=(M8 p0 p1).run fun r=>some (L9 zp0 p0 p1 r):=fun _ _ _=>by kernel_rfl
noncomputable def Rt (av:List AV) (rs:List Root):Tre aB :=
 aJ av fun a0_ av0 =>
 aJ av0 fun a1_ av1 =>
 aU av1 <|
 aU rs <|
 aC true aM a0_ fun d1 =>
 bH (.sl (.int .i64)) a1_ fun z3 d2 =>
 .mat (yU d1 d2) fun r=>.ret (L9 z3 d1 d2 r)
noncomputable def Rv:Ctr:=⟨[],fun ci=>Rt ci.args ci.roots,false⟩
theorem abj:bP Tryz.prog .none sw:=(aA Qd at6 (aA JO anM aP))
theorem adu:Contract Tryz.prog .none 140 Rv:=by
 have hl:aZ sw yT yV:=(bC (n:=1) (by kernel_rfl) fun k hk=>by
   match k,hk with
   |0,_=>exact bq (id:=2) (L:=jX) (by kernel_rfl) (by kernel_rfl) WR)
 refine (aI (F:=Ru) bn abj Tryz.func140 (by kernel_rfl) (by kernel_rfl) (by kernel_rfl) hl []).weaken ?_
 rintro ⟨av,rs⟩ co h
 have h:(Rt av rs).run some=some co:=h
 obtain ⟨a0_,av0,rfl,h_0⟩:=au h
 obtain ⟨a1_,av1,rfl,h_1⟩:=au h_0
 obtain ⟨rfl,h_2⟩:=ay h_1
 obtain ⟨rfl,h_3⟩:=ay h_2
 obtain ⟨d1,rfl,h_4⟩:=ak h_3
 obtain ⟨z3,d2,rfl,h_5⟩:=aF h_4
 exact bK (adt z3 d1 d2) h_5
noncomputable def amI (p0:(Int×(Int×Unit))) (p1:(List Int)):Tre Bool :=
 .cond (decide ((p1.length:Int)≤12))
  (.mat (yU p0 p1) fun r1 =>
  .cond r1
   (.cond (decide ((p1.length:Int)=0))
    (.ret true)
    (let v2:=aO .i64 ((p1.length:Int) - 1)
    .ite (0≤v2∧v2 < (p1.length:Int)) <|
    .mat (p1[v2.toNat]?) fun x3 =>
    .ret (!decide (x3=0))))
   (.ret false))
  (.ret false)
noncomputable def V5 (p0:(Int×(Int×Unit))) (p1:(List Int)):Option Bool:=(amI p0 p1).run some
noncomputable def adw:Env:=⟨tau,[(140,Rv)],[]⟩
noncomputable def alj:Code:=(Tryz.f139.body).getD .skip
noncomputable def ali:FnI:=⟨alj,Tryz.f139.results.toList,Tryz.f139.resultTypes.toList,[]⟩
noncomputable def aeX (_zp0:Bool) (_p0:(Int×(Int×Unit))) (_p1:(List Int)):Bool→aB:=fun r=>⟨(.imm true .bool r),[],[]⟩
theorem aqv:∀ (zp0:Bool) (p0:(Int×(Int×Unit))) (p1:(List Int)),bQ adw ali ⟨[(.imm true aM p0),(.imm zp0 (.sl (.int .i64)) p1)],[]⟩=(amI p0 p1).run fun r=>some (aeX zp0 p0 p1 r):=fun _ _ _=>by kernel_rfl
noncomputable def alh (av:List AV) (rs:List Root):Tre aB :=
 aJ av fun a0_ av0 =>
 aJ av0 fun a1_ av1 =>
 aU av1 <|
 aU rs <|
 aC true aM a0_ fun d1 =>
 bH (.sl (.int .i64)) a1_ fun z3 d2 =>
 .mat (V5 d1 d2) fun r=>.ret (aeX z3 d1 d2 r)
noncomputable def alk:Ctr:=⟨[],fun ci=>alh ci.args ci.roots,false⟩
theorem ao0:bP Tryz.prog .none adw:=(aA adu ayx aP)
theorem aqw:Contract Tryz.prog .none 139 alk:=by
 have hl:aZ adw [] alj:=bB (by kernel_rfl)
 refine (aI (F:=ali) bn ao0 Tryz.func139 (by kernel_rfl) (by kernel_rfl) (by kernel_rfl) hl []).weaken ?_
 rintro ⟨av,rs⟩ co h
 have h:(alh av rs).run some=some co:=h
 obtain ⟨a0_,av0,rfl,h_0⟩:=au h
 obtain ⟨a1_,av1,rfl,h_1⟩:=au h_0
 obtain ⟨rfl,h_2⟩:=ay h_1
 obtain ⟨rfl,h_3⟩:=ay h_2
 obtain ⟨d1,rfl,h_4⟩:=ak h_3
 obtain ⟨z3,d2,rfl,h_5⟩:=aF h_4
 exact bK (aqv z3 d1 d2) h_5
noncomputable def M6 (p0:(Int×(Int×Unit))) (p1:(List Int)):Tre Bool :=
 .mat (Ik p0) fun r1 =>
 .cond r1
  (.mat (V5 p0 p1) fun r2 =>
  .ret r2)
  (.ret false)
noncomputable def su (p0:(Int×(Int×Unit))) (p1:(List Int)):Option Bool:=(M6 p0 p1).run some
noncomputable def FP:Env:=⟨tau,[(83,adl),(139,alk)],[]⟩
noncomputable def Rm:Code:=(Tryz.f127.body).getD .skip
noncomputable def Rl:FnI:=⟨Rm,Tryz.f127.results.toList,Tryz.f127.resultTypes.toList,[]⟩
noncomputable def LJ (_zp0:Bool) (_p0:(Int×(Int×Unit))) (_p1:(List Int)):Bool→aB:=fun r=>⟨(.imm true .bool r),[],[]⟩
theorem adb:∀ (zp0:Bool) (p0:(Int×(Int×Unit))) (p1:(List Int)),bQ FP Rl ⟨[(.imm true aM p0),(.imm zp0 (.sl (.int .i64)) p1)],[]⟩=(M6 p0 p1).run fun r=>some (LJ zp0 p0 p1 r):=fun _ _ _=>by kernel_rfl
noncomputable def Rk (av:List AV) (rs:List Root):Tre aB :=
 aJ av fun a0_ av0 =>
 aJ av0 fun a1_ av1 =>
 aU av1 <|
 aU rs <|
 aC true aM a0_ fun d1 =>
 bH (.sl (.int .i64)) a1_ fun z3 d2 =>
 .mat (su d1 d2) fun r=>.ret (LJ z3 d1 d2 r)
noncomputable def Rn:Ctr:=⟨[],fun ci=>Rk ci.args ci.roots,false⟩
theorem aaY:bP Tryz.prog .none FP:=(aA aiB axv (aA aqw ayw aP))
theorem ade:Contract Tryz.prog .none 127 Rn:=by
 have hl:aZ FP [] Rm:=bB (by kernel_rfl)
 refine (aI (F:=Rl) bn aaY Tryz.func127 (by kernel_rfl) (by kernel_rfl) (by kernel_rfl) hl []).weaken ?_
 rintro ⟨av,rs⟩ co h
 have h:(Rk av rs).run some=some co:=h
 obtain ⟨a0_,av0,rfl,h_0⟩:=au h
 obtain ⟨a1_,av1,rfl,h_1⟩:=au h_0
 obtain ⟨rfl,h_2⟩:=ay h_1
 obtain ⟨rfl,h_3⟩:=ay h_2
 obtain ⟨d1,rfl,h_4⟩:=ak h_3
 obtain ⟨z3,d2,rfl,h_5⟩:=aF h_4
 exact bK (adb z3 d1 d2) h_5
noncomputable def adr (p0:(Int×(Int×Unit))) (p1:(List Int)) (p2:(List Int)):Tre Int :=
 .mat (su p0 p1) fun r1 =>
 .cond (!r1)
  (.ret 1)
  (.mat (su p0 p2) fun r2 =>
  .cond (!r2)
   (.ret 1)
   (.cond (decide ((p2.length:Int)=0))
    (.ret 4)
    (.ret 0)))
noncomputable def LZ (p0:(Int×(Int×Unit))) (p1:(List Int)) (p2:(List Int)):Option Int:=(adr p0 p1 p2).run some
noncomputable def U6:Env:=⟨tau,[(127,Rn)],[]⟩
noncomputable def aeS:Code:=(Tryz.f106.body).getD .skip
noncomputable def aeR:FnI:=⟨aeS,Tryz.f106.results.toList,Tryz.f106.resultTypes.toList,[]⟩
noncomputable def XR (_zp0:Bool) (_zp1:Bool) (_p0:(Int×(Int×Unit))) (_p1:(List Int)) (_p2:(List Int)):Int→aB:=fun r=>⟨(.imm true (.int .i64) r),[],[]⟩
theorem amE:∀ (zp0:Bool) (zp1:Bool) (p0:(Int×(Int×Unit))) (p1:(List Int)) (p2:(List Int)),bQ U6 aeR ⟨[(.imm true aM p0),(.imm zp0 (.sl (.int .i64)) p1),(.imm zp1 (.sl (.int .i64)) p2)],[]⟩=(adr p0 p1 p2).run fun r=>some (XR zp0 zp1 p0 p1 p2 r):=fun _ _ _ _ _=>by kernel_rfl
noncomputable def aeQ (av:List AV) (rs:List Root):Tre aB :=
 aJ av fun a0_ av0 =>
 aJ av0 fun a1_ av1 =>
 aJ av1 fun a2_ av2 =>
 aU av2 <|
 aU rs <|
 aC true aM a0_ fun d1 =>
 bH (.sl (.int .i64)) a1_ fun z3 d2 =>
 bH (.sl (.int .i64)) a2_ fun z5 d4 =>
 .mat (LZ d1 d2 d4) fun r=>.ret (XR z3 z5 d1 d2 d4 r)
noncomputable def aeT:Ctr:=⟨[],fun ci=>aeQ ci.args ci.roots,false⟩
theorem ajZ:bP Tryz.prog .none U6:=(aA ade ayn aP)
theorem amF:Contract Tryz.prog .none 106 aeT:=by
 have hl:aZ U6 [] aeS:=bB (by kernel_rfl)
 refine (aI (F:=aeR) bn ajZ Tryz.func106 (by kernel_rfl) (by kernel_rfl) (by kernel_rfl) hl []).weaken ?_
 rintro ⟨av,rs⟩ co h
 have h:(aeQ av rs).run some=some co:=h
 obtain ⟨a0_,av0,rfl,h_0⟩:=au h
 obtain ⟨a1_,av1,rfl,h_1⟩:=au h_0
 obtain ⟨a2_,av2,rfl,h_2⟩:=au h_1
 obtain ⟨rfl,h_3⟩:=ay h_2
 obtain ⟨rfl,h_4⟩:=ay h_3
 obtain ⟨d1,rfl,h_5⟩:=ak h_4
 obtain ⟨z3,d2,rfl,h_6⟩:=aF h_5
 obtain ⟨z5,d4,rfl,h_7⟩:=aF h_6
 exact bK (amE z3 z5 d1 d2 d4) h_7
noncomputable def Pf (p0:(Int×(Int×Unit))) (p1:Int) (p2:Int):Tre Int :=
 .ifn (p0.1=0) <|
 let v1:=aO .i64 (p0.1 - (Int.tmod p2 p0.1))
 .ifn (p0.1=0) <|
 .mat (fV p0 p1 (Int.tmod v1 p0.1)) fun r2 =>
 .ret r2
noncomputable def Av (p0:(Int×(Int×Unit))) (p1:Int) (p2:Int):Option Int:=(Pf p0 p1 p2).run some
-- more
theorem auy {f:TF3} (hf:aN f=true) {x:Nat} (hx:x < (FOf f hf).q) (k:Nat):Av f (x:Int) (k:Int)=some (((FOf f hf).sqn (XE f.1.toNat k) x:Nat):Int):=by
 obtain ⟨h1,h2,h3,h4⟩:=avM hf
 have hm:Int.tmod (k:Int) f.1=((k % f.1.toNat:Nat):Int):=by
  conv=>lhs;rw [h1]
  exact (Int.ofNat_tmod k f.1.toNat).symm
 have hk:k % f.1.toNat < f.1.toNat:=Nat.mod_lt _ (by omega)
 have h5:aO .i64 (f.1 - Int.tmod (k:Int) f.1)=((f.1.toNat - k % f.1.toNat:Nat):Int):=by
  rw [hm,dN (by omega) (by omega)];omega
 have hm2:Int.tmod ((f.1.toNat - k % f.1.toNat:Nat):Int) f.1=((XE f.1.toNat k:Nat):Int):=by
  conv=>lhs;rw [h1]
  exact (Int.ofNat_tmod _ f.1.toNat).symm
 unfold Av Pf
 rw [Tre.P6,if_neg h2]
 dsimp only
 rw [h5,Tre.P6,if_neg h2,hm2,ah (ahI hf hx _),Tre.aL]
noncomputable def IJ:Env:=⟨tau,[(62,lZ)],[]⟩
noncomputable def Tg:Code:=(Tryz.f78.body).getD .skip
noncomputable def Tf:FnI:=⟨Tg,Tryz.f78.results.toList,Tryz.f78.resultTypes.toList,[]⟩
noncomputable def NJ (_p0:(Int×(Int×Unit))) (_p1:Int) (_p2:Int):Int→aB:=fun r=>⟨(.imm true (.int .i64) r),[],[]⟩
theorem afA:∀ (p0:(Int×(Int×Unit))) (p1:Int) (p2:Int),bQ IJ Tf ⟨[(.imm true aM p0),(.imm true (.int .i64) p1),(.imm true (.int .i64) p2)],[]⟩=(Pf p0 p1 p2).run fun r=>some (NJ p0 p1 p2 r):=fun _ _ _=>by kernel_rfl
noncomputable def Te (av:List AV) (rs:List Root):Tre aB :=
 aJ av fun a0_ av0 =>
 aJ av0 fun a1_ av1 =>
 aJ av1 fun a2_ av2 =>
 aU av2 <|
 aU rs <|
 aC true aM a0_ fun d1 =>
 aC true (.int .i64) a1_ fun d2 =>
 aC true (.int .i64) a2_ fun d3 =>
 .mat (Av d1 d2 d3) fun r=>.ret (NJ d1 d2 d3 r)
noncomputable def Ti:Ctr:=⟨[],fun ci=>Te ci.args ci.roots,false⟩
theorem acs:bP Tryz.prog .none IJ:=(aA nO anL aP)
theorem afB:Contract Tryz.prog .none 78 Ti:=by
 have hl:aZ IJ [] Tg:=bB (by kernel_rfl)
 refine (aI (F:=Tf) bn acs Tryz.func78 (by kernel_rfl) (by kernel_rfl) (by kernel_rfl) hl []).weaken ?_
 rintro ⟨av,rs⟩ co h
 have h:(Te av rs).run some=some co:=h
 obtain ⟨a0_,av0,rfl,h_0⟩:=au h
 obtain ⟨a1_,av1,rfl,h_1⟩:=au h_0
 obtain ⟨a2_,av2,rfl,h_2⟩:=au h_1
 obtain ⟨rfl,h_3⟩:=ay h_2
 obtain ⟨rfl,h_4⟩:=ay h_3
 obtain ⟨d1,rfl,h_5⟩:=ak h_4
 obtain ⟨d2,rfl,h_6⟩:=ak h_5
 obtain ⟨d3,rfl,h_7⟩:=ak h_6
 exact bK (afA d1 d2 d3) h_7
noncomputable def adx (p0:(Int×(Int×Unit))) (p1:Int) (p2:Int):Tre Int :=
 .ifn (p0.1=0) <|
 let v1:=aO .i64 (p0.1 - (Int.tmod p2 p0.1))
 .mat (lU p0 p1 v1) fun r2 =>
 .ret r2
noncomputable def Me (p0:(Int×(Int×Unit))) (p1:Int) (p2:Int):Option Int:=(adx p0 p1 p2).run some
-- more
theorem avj {f:TF3} (hf:aN f=true) {x:Nat} (hx:x < (FOf f hf).q) (k:Nat):Me f (x:Int) (k:Int)=some (((FOf f hf).sqn (XE f.1.toNat k) x:Nat):Int):=by
 obtain ⟨h1,h2,h3,h4⟩:=avM hf
 have hm:Int.tmod (k:Int) f.1=((k % f.1.toNat:Nat):Int):=by
  conv=>lhs;rw [h1]
  exact (Int.ofNat_tmod k f.1.toNat).symm
 have hk:k % f.1.toNat < f.1.toNat:=Nat.mod_lt _ (by omega)
 have h5:aO .i64 (f.1 - Int.tmod (k:Int) f.1)=((f.1.toNat - k % f.1.toNat:Nat):Int):=by
  rw [hm,dN (by omega) (by omega)];omega
 unfold Me adx
 rw [Tre.P6,if_neg h2]
 dsimp only
 rw [h5,ah (ai7 hf hx _),Tre.aL]
 unfold XE
 rw [abL hf hx]
noncomputable def Ve:Env:=⟨tau,[(56,yJ)],[]⟩
noncomputable def ae0:Code:=(Tryz.f128.body).getD .skip
noncomputable def aeZ:FnI:=⟨ae0,Tryz.f128.results.toList,Tryz.f128.resultTypes.toList,[]⟩
noncomputable def XU (_p0:(Int×(Int×Unit))) (_p1:Int) (_p2:Int):Int→aB:=fun r=>⟨(.imm true (.int .i64) r),[],[]⟩
theorem amJ:∀ (p0:(Int×(Int×Unit))) (p1:Int) (p2:Int),bQ Ve aeZ ⟨[(.imm true aM p0),(.imm true (.int .i64) p1),(.imm true (.int .i64) p2)],[]⟩=(adx p0 p1 p2).run fun r=>some (XU p0 p1 p2 r):=fun _ _ _=>by kernel_rfl
noncomputable def aeY (av:List AV) (rs:List Root):Tre aB :=
 aJ av fun a0_ av0 =>
 aJ av0 fun a1_ av1 =>
 aJ av1 fun a2_ av2 =>
 aU av2 <|
 aU rs <|
 aC true aM a0_ fun d1 =>
 aC true (.int .i64) a1_ fun d2 =>
 aC true (.int .i64) a2_ fun d3 =>
 .mat (Me d1 d2 d3) fun r=>.ret (XU d1 d2 d3 r)
noncomputable def ae1:Ctr:=⟨[],fun ci=>aeY ci.args ci.roots,false⟩
theorem aj1:bP Tryz.prog .none Ve:=(aA Bw aqQ aP)
theorem amK:Contract Tryz.prog .none 128 ae1:=by
 have hl:aZ Ve [] ae0:=bB (by kernel_rfl)
 refine (aI (F:=aeZ) bn aj1 Tryz.func128 (by kernel_rfl) (by kernel_rfl) (by kernel_rfl) hl []).weaken ?_
 rintro ⟨av,rs⟩ co h
 have h:(aeY av rs).run some=some co:=h
 obtain ⟨a0_,av0,rfl,h_0⟩:=au h
 obtain ⟨a1_,av1,rfl,h_1⟩:=au h_0
 obtain ⟨a2_,av2,rfl,h_2⟩:=au h_1
 obtain ⟨rfl,h_3⟩:=ay h_2
 obtain ⟨rfl,h_4⟩:=ay h_3
 obtain ⟨d1,rfl,h_5⟩:=ak h_4
 obtain ⟨d2,rfl,h_6⟩:=ak h_5
 obtain ⟨d3,rfl,h_7⟩:=ak h_6
 exact bK (amJ d1 d2 d3) h_7
noncomputable def adA (p0:Int) (p1:Int):Tre (List Int) :=
 .ite (((.int .i64):K)=(.int .i64)∧0≤aO .i64 (p1+1)∧aO .i64 (p1+1)=aO .i64 (p1+1)∧aO .i64 (p1+1) * (8:Nat)≤140737488355328∧1≤8) <|
 .ite (0≤p1∧p1 < ((List.replicate (aO .i64 (p1+1)).toNat (0:Int)).length:Int)) <|
 .mat ((List.replicate (aO .i64 (p1+1)).toNat (0:Int))[p1.toNat]?) fun _ =>
 let v2:=(List.replicate (aO .i64 (p1+1)).toNat (0:Int)).set p1.toNat p0
 .ret v2
noncomputable def Mf (p0:Int) (p1:Int):Option (List Int):=(adA p0 p1).run some
noncomputable def Vf:Env:=⟨tau,[],[]⟩
noncomputable def ae4:Code:=(Tryz.f129.body).getD .skip
noncomputable def ae3:FnI:=⟨ae4,Tryz.f129.results.toList,Tryz.f129.resultTypes.toList,[]⟩
noncomputable def XY (_p0:Int) (_p1:Int):(List Int)→aB:=fun r=>⟨(.ref (1,0) []),[],[⟨false,(.sl (.int .i64)),.own,r⟩]⟩
theorem amM:∀ (p0:Int) (p1:Int),bQ Vf ae3 ⟨[(.imm true (.int .i64) p0),(.imm true (.int .i64) p1)],[]⟩=(adA p0 p1).run fun r=>some (XY p0 p1 r):=fun _ _=>by kernel_rfl
noncomputable def ae2 (av:List AV) (rs:List Root):Tre aB :=
 aJ av fun a0_ av0 =>
 aJ av0 fun a1_ av1 =>
 aU av1 <|
 aU rs <|
 aC true (.int .i64) a0_ fun d1 =>
 aC true (.int .i64) a1_ fun d2 =>
 .mat (Mf d1 d2) fun r=>.ret (XY d1 d2 r)
noncomputable def ae5:Ctr:=⟨[],fun ci=>ae2 ci.args ci.roots,false⟩
theorem aj2:bP Tryz.prog .none Vf:=aP
theorem amN:Contract Tryz.prog .none 129 ae5:=by
 have hl:aZ Vf [] ae4:=bB (by kernel_rfl)
 refine (aI (F:=ae3) bn aj2 Tryz.func129 (by kernel_rfl) (by kernel_rfl) (by kernel_rfl) hl []).weaken ?_
 rintro ⟨av,rs⟩ co h
 have h:(ae2 av rs).run some=some co:=h
 obtain ⟨a0_,av0,rfl,h_0⟩:=au h
 obtain ⟨a1_,av1,rfl,h_1⟩:=au h_0
 obtain ⟨rfl,h_2⟩:=ay h_1
 obtain ⟨rfl,h_3⟩:=ay h_2
 obtain ⟨d1,rfl,h_4⟩:=ak h_3
 obtain ⟨d2,rfl,h_5⟩:=ak h_4
 exact bK (amM d1 d2) h_5
noncomputable def rC (h2_0_0:(List Int)):Int→Tre (Int ⊕ Int):=fun s2 =>
 .cond (decide (s2 > 0))
  (.ite (0≤aO .i64 (s2 - 1)∧aO .i64 (s2 - 1) < (h2_0_0.length:Int)) <|
  .mat (h2_0_0[(aO .i64 (s2 - 1)).toNat]?) fun x1 =>
  .cond (decide (x1=0))
   (.ret (.inl (aO .i64 (s2 - 1))))
   (.ret (.inr s2)))
  (.ret (.inr s2))
noncomputable def adB (p0:(List Int)):Tre (List Int) :=
 .mat (aR (rC p0) (p0.length:Int)) fun l2 =>
 .ite (0≤(0:Int)∧(0:Int)≤l2∧l2≤(p0.length:Int)) <|
 let v3:=(p0.drop 0).take (l2 - 0).toNat
 .mat (fD v3) fun r4 =>
 .ret r4
noncomputable def EY (p0:(List Int)):Option (List Int):=(adB p0).run some
-- more
theorem apd {l:List Nat} (hl2:l.length≤1000):EY (aS l)=some (aS (bY l)):=by
 have htl:=lg l
 have hlen:=aW l
 have hm:∀ n,0 < n→n≤l.length→aO .i64 ((n:Int) - 1)=((n - 1:Nat):Int):=fun n h1 h2=>gM h1 (by omega)
 have hx:∀ n,0 < n→n≤l.length→(aS l)[n - 1]?=some (cf l (n - 1):Int):=fun n h1 h2=>dG (eT (by omega))
 unfold EY adB
 rw [ah (show aR (rC (aS l)) ((aS l).length:Int)=some (((bY l).length:Nat):Int) from ?_)]
 ·rw [Tre.run_ite,if_pos (by omega)]
  dsimp only
  rw [show ((((bY l).length:Nat):Int) - 0).toNat=(bY l).length by omega,List.drop_zero,← VP,abQ,ah (show fD (aS (bY l))=some _ from JG (by rw [aW];omega)),Tre.aL]
 have h0:((aS l).length:Int)=((l.length - 0:Nat):Int):=by rw [hlen];omega
 rw [h0]
 refine cZ (fun i=>((l.length - i:Nat):Int)) (l.length - (bY l).length) _ (fun i hi=>?_) ?_
 ·unfold rC
  rw [Tre.aG,decide_eq_true (by omega),cond_true,hm _ (by omega) (by omega),dB (hx _ (by omega) (by omega)),Tre.aG,decide_eq_true (by rw [Ip (by omega)];rfl),cond_true,Tre.aL,Nat.sub_sub]
 ·rw [show l.length - (l.length - (bY l).length)=(bY l).length by omega]
  unfold rC
  by_cases hz:(bY l).length=0
  ·rw [Tre.aG,decide_eq_false (by omega),cond_false,Tre.aL]
  ·have h1:=(OT l).resolve_left hz
   rw [Tre.aG,decide_eq_true (by omega),cond_true,hm _ (by omega) htl,dB (hx _ (by omega) htl),Tre.aG,decide_eq_false (by omega),cond_false,Tre.aL]
noncomputable def EZ:Env:=⟨tau,[(108,C9)],[]⟩
noncomputable def Mh:Code:=(Tryz.f126.body).getD .skip
noncomputable def FX (z2_0:Bool) (h2_0_0:(List Int)):Int→St:=fun x=>bR [(0,(.imm z2_0 (.sl (.int .i64)) h2_0_0)),(3,(.imm true (.int .i64) x))] []
noncomputable def Di (z2_0:Bool) (h2_0_0:(List Int)):Int→Ex×St:=fun x=>(.exit 0,bR [(0,(.imm z2_0 (.sl (.int .i64)) h2_0_0)),(3,(.imm true (.int .i64) x))] [])
noncomputable def Vh (s:St):Tre (Ex×St) :=
 bH (.sl (.int .i64)) (s.tmps 0) fun z3 d2 =>
 aC true (.int .i64) (s.tmps 3) fun d5 =>
 .mat (aR (rC d2) d5) fun x=>.ret (Di z3 d2 x)
noncomputable def qm:bJ:=⟨([0,3],[]),([0,3],[]),Vh⟩
noncomputable def Mg:List (Nat×bJ):=[(2,qm)]
theorem abm:∀ (z2_0:Bool) (h2_0_0:(List Int)) (x:Int) (c:St→Option (Ex×St)),den EZ Mg (aY Mh 0) (FX z2_0 h2_0_0 x) (bV qm.kp qm.kx c)=(rC h2_0_0 x).run (bW (FX z2_0 h2_0_0) (Di z2_0 h2_0_0) c):=fun _ _ _ _=>by
 kernel_rfl
theorem af8:bS EZ Mg (aY Mh 0) qm:=bA fun s e s' h=>by
 generalize hs:restrict qm.kp s=s1 at h
 have h:(Vh s1).run some=some (e,s'):=h
 obtain ⟨z3,d2,e1,h_0⟩:=aF h
 obtain ⟨d5,e4,h_1⟩:=ak h_0
 obtain ⟨y,hy,hz⟩:=bT h_1
 refine ⟨_,_,FX z3 d2,Di z3 d2,rC d2,d5,y,?_,hy,?_,abm z3 d2⟩
 ·subst hs;exact aT (T:=[(0,(.imm z3 (.sl (.int .i64)) d2)),(3,(.imm true (.int .i64) d5))]) (U:=[]) rfl rfl ⟨e1,e4,trivial⟩ trivial
 ·exact Option.some.inj hz
noncomputable def ae7:FnI:=⟨Mh,Tryz.f126.results.toList,Tryz.f126.resultTypes.toList,Mg⟩
noncomputable def XZ (_zp0:Bool) (_p0:(List Int)):(List Int)→aB:=fun r=>⟨(.ref (1,0) []),[],[⟨false,(.sl (.int .i64)),.own,r⟩]⟩
theorem amO:∀ (zp0:Bool) (p0:(List Int)),bQ EZ ae7 ⟨[(.imm zp0 (.sl (.int .i64)) p0)],[]⟩=(adB p0).run fun r=>some (XZ zp0 p0 r):=fun _ _=>by kernel_rfl
noncomputable def ae6 (av:List AV) (rs:List Root):Tre aB :=
 aJ av fun a0_ av0 =>
 aU av0 <|
 aU rs <|
 bH (.sl (.int .i64)) a0_ fun z2 d1 =>
 .mat (EY d1) fun r=>.ret (XZ z2 d1 r)
noncomputable def Vg:Ctr:=⟨[],fun ci=>ae6 ci.args ci.roots,false⟩
theorem aj3:bP Tryz.prog .none EZ:=(aA ET acf aP)
theorem abn:Contract Tryz.prog .none 126 Vg:=by
 have hl:aZ EZ Mg Mh:=(bC (n:=1) (by kernel_rfl) fun k hk=>by
   match k,hk with
   |0,_=>exact bq (id:=2) (L:=qm) (by kernel_rfl) (by kernel_rfl) af8)
 refine (aI (F:=ae7) bn aj3 Tryz.func126 (by kernel_rfl) (by kernel_rfl) (by kernel_rfl) hl []).weaken ?_
 rintro ⟨av,rs⟩ co h
 have h:(ae6 av rs).run some=some co:=h
 obtain ⟨a0_,av0,rfl,h_0⟩:=au h
 obtain ⟨rfl,h_1⟩:=ay h_0
 obtain ⟨rfl,h_2⟩:=ay h_1
 obtain ⟨z2,d1,rfl,h_3⟩:=aF h_2
 exact bK (amO z2 d1) h_3
noncomputable def dX:((List Int) ⊕ (Nat×Nat×(List Int)))→Tre (((List Int) ⊕ (Nat×Nat×(List Int))) ⊕ ((List Int) ⊕ (Nat×Nat×(List Int))))
 |.inl s1 =>
  .cond (decide ((s1.length:Int) > 0))
   (let v1:=aO .i64 ((s1.length:Int) - 1)
   .ite (0≤v1∧v1 < (s1.length:Int)) <|
   .mat (s1[v1.toNat]?) fun x2 =>
   .cond (decide (x2=0))
    (.ite (0≤(0:Int)∧(0:Int)≤v1∧v1≤(s1.length:Int)) <|
    .ret (.inl (.inr (0,(v1 - 0).toNat,s1))))
    (.ret (.inr (.inl s1))))
   (.ret (.inr (.inl s1)))
 |.inr s1 =>
  .cond (decide ((s1.2.1:Int) > 0))
   (let v3:=aO .i64 ((s1.2.1:Int) - 1)
   .ite (0≤v3∧v3 < (s1.2.1:Int)) <|
   .mat (s1.2.2[s1.1+v3.toNat]?) fun x4 =>
   .cond (decide (x4=0))
    (.ite (0≤(0:Int)∧(0:Int)≤v3∧v3≤(s1.2.1:Int)) <|
    .ret (.inl (.inr (s1.1+0,(v3 - 0).toNat,s1.2.2))))
    (.ret (.inr (.inr (s1.1,s1.2.1,s1.2.2)))))
   (.ret (.inr (.inr (s1.1,s1.2.1,s1.2.2))))
noncomputable def TQ (p0:(List Int)):Tre ((List Int) ⊕ (Nat×Nat×(List Int))) :=
 .mat (aR dX (.inl p0)) fun l5 =>
 .alt l5
  (fun a6 =>
   .ret (.inl a6))
  (fun b7 =>
   .ret (.inr (b7.1,b7.2.1,b7.2.2)))
noncomputable def yC (p0:(List Int)):Option ((List Int) ⊕ (Nat×Nat×(List Int))):=(TQ p0).run some
-- more
def az0:(List Int) ⊕ (Nat×Nat×(List Int))→List Int
 |.inl a=>a
 |.inr b=>(b.2.2.drop b.1).take b.2.1
def st4 (l:List Nat) (n:Nat):(List Int) ⊕ (Nat×Nat×(List Int)):=if n=l.length then .inl (aS l) else .inr (0,n,aS l)
theorem akQ {l:List Nat} (hl2:l.length≤1000):∃ r,yC (aS l)=some r∧az0 r=aS (bY l):=by
 have htl:=lg l
 have hlen:=aW l
 have hx:∀ n,0 < n→n≤l.length→(aS l)[n - 1]?=some (cf l (n - 1):Int):=fun n h1 h2=>dG (eT (by omega))
 have hstep:∀ n,0 < n→n≤l.length→cf l (n - 1)=0→(dX (if n=l.length then .inl (aS l) else .inr (0,n,aS l))).run some=some (.inl (.inr (0,n - 1,aS l))):=by
  intro n h1 h2 h0
  by_cases hn:n=l.length
  ·have hm:aO .i64 (((aS l).length:Int) - 1)=((n - 1:Nat):Int):=by rw [hlen,← hn,gM (by omega) (by omega)]
   rw [if_pos hn]
   unfold dX
   dsimp only
   rw [Tre.aG,decide_eq_true (by omega),cond_true,hm,dB (hx n h1 h2),Tre.aG,decide_eq_true (by omega),cond_true,Tre.run_ite,if_pos (by omega),Tre.aL]
   rw [show (((n - 1:Nat):Int) - 0).toNat=n - 1 by omega]
  ·have hm:aO .i64 ((n:Int) - 1)=((n - 1:Nat):Int):=gM (by omega) (by omega)
   rw [if_neg hn]
   unfold dX
   dsimp only
   rw [Tre.aG,decide_eq_true (by omega),cond_true,hm,Tre.run_ite,if_pos (by omega),Int.toNat_natCast,Nat.zero_add,ah (hx n h1 h2),Tre.aG,decide_eq_true (by omega),cond_true,Tre.run_ite,if_pos (by omega),Tre.aL]
   rw [show (((n - 1:Nat):Int) - 0).toNat=n - 1 by omega]
 have hend:∀ n,n≤l.length→(n=0∨cf l (n - 1)≠0)→∃ r,(dX (if n=l.length then .inl (aS l) else .inr (0,n,aS l))).run some=some (.inr r)∧r=if n=l.length then .inl (aS l) else .inr (0,n,aS l):=by
  intro n h2 h0
  refine ⟨_,?_,rfl⟩
  by_cases hn:n=l.length
  ·have hm:0 < n→aO .i64 (((aS l).length:Int) - 1)=((n - 1:Nat):Int):=fun h1=>by rw [hlen,← hn,gM (by omega) (by omega)]
   rw [if_pos hn]
   unfold dX
   dsimp only
   by_cases h1:n=0
   ·rw [Tre.aG,decide_eq_false (by omega),cond_false,Tre.aL]
   ·have h0:=h0.resolve_left h1
    rw [Tre.aG,decide_eq_true (by omega),cond_true,hm (by omega),dB (hx n (by omega) h2),Tre.aG,decide_eq_false (by omega),cond_false,Tre.aL]
  ·rw [if_neg hn]
   unfold dX
   dsimp only
   by_cases h1:n=0
   ·rw [Tre.aG,decide_eq_false (by omega),cond_false,Tre.aL]
   ·have hm:aO .i64 ((n:Int) - 1)=((n - 1:Nat):Int):=gM (by omega) (by omega)
    have h0:=h0.resolve_left h1
    rw [Tre.aG,decide_eq_true (by omega),cond_true,hm,Tre.run_ite,if_pos (by omega),Int.toNat_natCast,Nat.zero_add,ah (hx n (by omega) h2),Tre.aG,decide_eq_false (by omega),cond_false,Tre.aL]
 obtain ⟨r,hr1,hr2⟩:=hend (bY l).length htl (OT l)
 refine ⟨r,?_,?_⟩
 ·unfold yC TQ
  have hl:aR dX (.inl (aS l))=some r:=by
   have h0:(.inl (aS l):(List Int) ⊕ (Nat×Nat×(List Int)))=st4 l (l.length - 0):=by simp [st4]
   rw [h0]
   refine cZ (fun i=>st4 l (l.length - i)) (l.length - (bY l).length) _ (fun i hi=>?_) ?_
   ·unfold st4
    rw [hstep (l.length - i) (by omega) (by omega) (Ip (by omega))]
    rw [if_neg (show ¬ l.length - (i+1)=l.length by omega),Nat.sub_sub]
   ·rw [show l.length - (l.length - (bY l).length)=(bY l).length by omega];exact hr1
  rw [ah hl]
  cases r <;> rfl
 ·rw [hr2]
  split
  ·rename_i h
   show aS l=_
   have:=abQ l
   rw [h,List.take_length] at this
   rw [← this]
  ·show ((aS l).drop 0).take (bY l).length=_
   rw [List.drop_zero,← VP,abQ]
noncomputable def yD:Env:=⟨tau,[],[]⟩
noncomputable def Dy:Code:=(Tryz.f48.body).getD .skip
noncomputable def uD:((List Int) ⊕ (Nat×Nat×(List Int)))→St
 |.inl x=>bR [(0,(.ref (0,0) []))] [((0,0),some ⟨false,(.sl (.int .i64)),.own,x⟩)]
 |.inr x=>bR [(0,(.slc (0,0) [] x.1 x.2.1))] [((0,0),some ⟨false,(.sl (.int .i64)),.own,x.2.2⟩)]
noncomputable def iP:((List Int) ⊕ (Nat×Nat×(List Int)))→Ex×St
 |.inl x=>(.exit 0,bR [(0,(.ref (0,0) []))] [((0,0),some ⟨false,(.sl (.int .i64)),.own,x⟩)])
 |.inr x=>(.exit 0,bR [(0,(.slc (0,0) [] x.1 x.2.1))] [((0,0),some ⟨false,(.sl (.int .i64)),.own,x.2.2⟩)])
noncomputable def N7 (s:St):Tre (Ex×St) :=
 cond (AV.isRef (s.tmps 0))
 (dz (0,0) [] (s.tmps 0) <|
 bD false (.sl (.int .i64)) (s.roots (0,0)) fun m3 d4 =>
 asM .own m3 <|
 .mat (aR dX (.inl d4)) fun x=>.alt x (fun a0=>.ret (iP (.inl a0))) (fun b0=>.ret (iP (.inr b0))))
 (atx (0,0) [] (s.tmps 0) fun i2 n3 =>
 bD false (.sl (.int .i64)) (s.roots (0,0)) fun m5 d6 =>
 asM .own m5 <|
 .mat (aR dX (.inr (i2,n3,d6))) fun x=>.alt x (fun a0=>.ret (iP (.inl a0))) (fun b0=>.ret (iP (.inr b0))))
noncomputable def mg:bJ:=⟨([0],[(0,0)]),([0],[(0,0)]),N7⟩
noncomputable def Dx:List (Nat×bJ):=[(1,mg)]
theorem Gv:∀ (x:((List Int) ⊕ (Nat×Nat×(List Int)))) (c:St→Option (Ex×St)),den yD Dx (aY Dy 0) (uD x) (bV mg.kp mg.kx c)=(dX x).run (bW (uD) (iP) c):=fun x _=>by
 rcases x with x | x <;> kernel_rfl
theorem Z7:bS yD Dx (aY Dy 0) mg:=bA fun s e s' h=>by
 generalize hs:restrict mg.kp s=s1 at h
 have h:(N7 s1).run some=some (e,s'):=h
 cases ht0:AV.isRef (s1.tmps 0) with
 |true =>
  have h:=avq ht0 h
  obtain ⟨e1,h_0⟩:=bf h
  obtain ⟨m3,d4,e2,h_1⟩:=aH h_0
  obtain ⟨rfl,h_2⟩:=aQ h_1
  obtain ⟨y,hy,hz⟩:=kE h_2
  refine ⟨_,_,uD,iP,dX,(.inl d4),y,?_,hy,?_,Gv⟩
  ·subst hs;exact aT (T:=[(0,(.ref (0,0) []))]) (U:=[((0,0),some ⟨false,(.sl (.int .i64)),.own,d4⟩)]) rfl rfl ⟨e1,trivial⟩ ⟨e2,trivial⟩
  ·rcases y with x | x <;> exact Option.some.inj hz
 |false =>
  have h:=atf ht0 h
  obtain ⟨i2,n3,e1,h_0⟩:=apx h
  obtain ⟨m5,d6,e4,h_1⟩:=aH h_0
  obtain ⟨rfl,h_2⟩:=aQ h_1
  obtain ⟨y,hy,hz⟩:=kE h_2
  refine ⟨_,_,uD,iP,dX,(.inr (i2,n3,d6)),y,?_,hy,?_,Gv⟩
  ·subst hs;exact aT (T:=[(0,(.slc (0,0) [] i2 n3))]) (U:=[((0,0),some ⟨false,(.sl (.int .i64)),.own,d6⟩)]) rfl rfl ⟨e1,trivial⟩ ⟨e4,trivial⟩
  ·rcases y with x | x <;> exact Option.some.inj hz
noncomputable def Xr:FnI:=⟨Dy,Tryz.f48.results.toList,Tryz.f48.resultTypes.toList,Dx⟩
noncomputable def FD (_p0:(List Int)):((List Int) ⊕ (Nat×Nat×(List Int)))→aB
 |.inl r=>⟨(.ref (0,0) []),[⟨false,(.sl (.int .i64)),.own,r⟩],[]⟩
 |.inr r=>⟨(.slc (0,0) [] r.1 r.2.1),[⟨false,(.sl (.int .i64)),.own,r.2.2⟩],[]⟩
theorem ahw:∀ (p0:(List Int)),bQ yD Xr ⟨[(.ref (0,0) [])],[⟨false,(.sl (.int .i64)),.own,p0⟩]⟩=(TQ p0).run fun r=>some (FD p0 r):=fun _=>by kernel_rfl
noncomputable def Xq (av:List AV) (rs:List Root):Tre aB :=
 aJ av fun a0_ av0 =>
 aU av0 <|
 aJ rs fun r0_ rs0 =>
 aU rs0 <|
 dz (0,0) [] a0_ <|
 Io false (.sl (.int .i64)) r0_ fun m1 d2 =>
 asM .own m1 <|
 .mat (yC d2) fun r=>.alt r (fun a0=>.ret (FD d2 (.inl a0))) (fun b0=>.ret (FD d2 (.inr b0)))
noncomputable def MS:Ctr:=⟨[0],fun ci=>Xq ci.args ci.roots,false⟩
theorem afJ:bP Tryz.prog .none yD:=aP
theorem TR:Contract Tryz.prog .none 48 MS:=by
 have hl:aZ yD Dx Dy:=(bC (n:=1) (by kernel_rfl) fun k hk=>by
   match k,hk with
   |0,_=>exact bq (id:=1) (L:=mg) (by kernel_rfl) (by kernel_rfl) Z7)
 refine (aI (F:=Xr) bn afJ Tryz.func48 (by kernel_rfl) (by kernel_rfl) (by kernel_rfl) hl [0]).weaken ?_
 rintro ⟨av,rs⟩ co h
 have h:(Xq av rs).run some=some co:=h
 obtain ⟨a0_,av0,rfl,h_0⟩:=au h
 obtain ⟨rfl,h_1⟩:=ay h_0
 obtain ⟨r0_,rs0,rfl,h_2⟩:=au h_1
 obtain ⟨rfl,h_3⟩:=ay h_2
 obtain ⟨rfl,h_4⟩:=bf h_3
 obtain ⟨m1,d2,rfl,h_5⟩:=eX h_4
 obtain ⟨rfl,h_6⟩:=aQ h_5
 exact Zy (ahw d2) h_6 (by rintro (x | x) <;> rfl)
noncomputable def CK (h4_0_0:(List Int)) (h4_0_1:Int):(Int×(List Int))→Tre ((Int×(List Int)) ⊕ (List Int)):=fun s4 =>
 .cond (decide (s4.1 < h4_0_1))
  (.ite (0≤s4.1∧s4.1 < (h4_0_0.length:Int)) <|
  .mat (h4_0_0[s4.1.toNat]?) fun x3 =>
  .ite (0≤s4.1∧s4.1 < (s4.2.length:Int)) <|
  .mat (s4.2[s4.1.toNat]?) fun x4 =>
  .ite (0≤s4.1∧s4.1 < (s4.2.length:Int)) <|
  .mat (s4.2[s4.1.toNat]?) fun _ =>
  let v6:=s4.2.set s4.1.toNat (jI .i64 x4 x3)
  .ret (.inl (aO .i64 (s4.1+1),v6)))
  (.ret (.inr s4.2))
noncomputable def ap6 (p0:(List Int)) (p1:(List Int)):Tre (List Int) :=
 let v1:=if (p0.length:Int) < (p1.length:Int) then (p1.length:Int) else (p0.length:Int)
 .ite (((.int .i64):K)=(.int .i64)∧0≤v1∧v1=v1∧v1 * (8:Nat)≤140737488355328∧1≤8) <|
 let v2:=p0.take (List.replicate v1.toNat (0:Int)).length++(List.replicate v1.toNat (0:Int)).drop p0.length
 .mat (aR (CK p1 (p1.length:Int)) (0,v2)) fun l7 =>
 .mat (yC l7) fun r8 =>
 .alt r8
  (fun a9 =>
   .ret a9)
  (fun b10 =>
   .ret ((b10.2.2.drop b10.1).take b10.2.1))
noncomputable def Jy (p0:(List Int)) (p1:(List Int)):Option (List Int):=(ap6 p0 p1).run some
-- more
theorem ato {f:TF3} (hf:aN f=true) {A Q:List Nat} (hA:inL (FOf f hf) A) (hQ:inL (FOf f hf) Q) (hl:Q.length≤A.length) {i:Nat} (hi:i < Q.length) :
  (aS (jM A (Q.take i)))[i]?=some (cf A i:Int)∧(aS Q)[i]?=some (cf Q i:Int)∧jI .i64 (cf A i:Int) (cf Q i:Int)=((cf A i ^^^ cf Q i:Nat):Int) ∧
  (aS (jM A (Q.take i))).set i (((cf A i ^^^ cf Q i:Nat):Int))=aS (jM A (Q.take (i+1))):=by
 have hti:(Q.take i).length=i:=by rw [List.length_take];omega
 obtain ⟨h1,h2⟩:=anf (Q.take i) A (cf Q i) (by omega)
 rw [hti] at h1 h2
 refine ⟨dG h1,dG (eT hi),Zl hf (pq hA i) (pq hQ i),?_⟩
 rw [← TU,h2,List.take_add_one,eT hi];rfl
theorem aoa {f:TF3} (hf:aN f=true) {P Q:List Nat} (hP:inL (FOf f hf) P) (hQ:inL (FOf f hf) Q) (hp:P.length≤1000) (hq:Q.length≤1000):Jy (aS P) (aS Q)=some (aS (bY (jM P Q))):=by
 have hm:(if ((aS P).length:Int) < ((aS Q).length:Int) then ((aS Q).length:Int) else ((aS P).length:Int))=((max P.length Q.length:Nat):Int):=by
  rw [aW,aW];split <;> omega
 have hv:(aS P).take (List.replicate (max P.length Q.length) (0:Int)).length++(List.replicate (max P.length Q.length) (0:Int)).drop (aS P).length=aS (tY (max P.length Q.length) P):=by
  rw [List.length_replicate,List.take_of_length_le (by rw [aW];omega),List.drop_replicate,aW]
  unfold tY
  rw [vE,CQ]
 have hpl:(tY (max P.length Q.length) P).length=max P.length Q.length:=aaJ (by omega)
 have hpi:inL (FOf f hf) (tY (max P.length Q.length) P):=aad hP fun x hx=>by rw [(List.mem_replicate.1 hx).2];exact FO.zlt _
 obtain ⟨r,hr1,hr2⟩:=akQ (l:=jM (tY (max P.length Q.length) P) Q) (by rw [Nk];omega)
 unfold Jy ap6
 dsimp only
 rw [hm,Tre.run_ite,if_pos ⟨rfl,by omega,rfl,by omega,by omega⟩,Int.toNat_natCast,hv]
 rw [ah (show aR (CK (aS Q) ((aS Q).length:Int)) (0,aS (tY (max P.length Q.length) P))=some (aS (jM (tY (max P.length Q.length) P) Q)) from ?_),ah hr1]
 ·rw [← ane (max P.length Q.length),← hr2]
  cases r <;> rfl
 have h0:tY (max P.length Q.length) P=jM (tY (max P.length Q.length) P) (Q.take 0):=by rw [List.take_zero,agH]
 conv=>lhs;rw [h0]
 refine cZ (fun i=>((i:Int),aS (jM (tY (max P.length Q.length) P) (Q.take i)))) Q.length _ (fun i hi=>?_) ?_
 ·obtain ⟨h1,h2,h3,h4⟩:=ato hf hpi hQ (by omega) hi
  unfold CK
  dsimp only
  rw [eu h2,dB h1,dB h1,h3,Int.toNat_natCast,h4,Tre.aL,aX (by omega)]
 ·unfold CK
  dsimp only
  rw [aW,dF,Tre.aL,List.take_length]
noncomputable def TK:Env:=⟨tau,[(48,MS)],[]⟩
noncomputable def ZW:Code:=(Tryz.f77.body).getD .skip
noncomputable def Pw (z4_0:Bool) (h4_0_0:(List Int)) (h4_0_1:Int):(Int×(List Int))→St:=fun x=>bR [(5,(.ref (7,0) [])),(17,(.imm z4_0 (.sl (.int .i64)) h4_0_0)),(18,(.imm true (.int .i64) h4_0_1)),(19,(.imm true (.int .i64) x.1))] [((7,0),some ⟨false,(.sl (.int .i64)),.own,x.2⟩)]
noncomputable def MR (_z4_0:Bool) (_h4_0_0:(List Int)) (_h4_0_1:Int):(List Int)→Ex×St:=fun x=>(.exit 0,bR [(5,(.ref (7,0) []))] [((7,0),some ⟨false,(.sl (.int .i64)),.own,x⟩)])
noncomputable def aea (s:St):Tre (Ex×St) :=
 dz (7,0) [] (s.tmps 5) <|
 bH (.sl (.int .i64)) (s.tmps 17) fun z4 d3 =>
 aC true (.int .i64) (s.tmps 18) fun d6 =>
 aC true (.int .i64) (s.tmps 19) fun d8 =>
 bD false (.sl (.int .i64)) (s.roots (7,0)) fun m10 d11 =>
 asM .own m10 <|
 .mat (aR (CK d3 d6) (d8,d11)) fun x=>.ret (MR z4 d3 d6 x)
noncomputable def zX:bJ:=⟨([5,17,18,19],[(7,0)]),([5],[(7,0)]),aea⟩
noncomputable def ZV:List (Nat×bJ):=[(4,zX)]
theorem ahm:∀ (z4_0:Bool) (h4_0_0:(List Int)) (h4_0_1:Int) (x:(Int×(List Int))) (c:St→Option (Ex×St)),den TK ZV (aY ZW 0) (Pw z4_0 h4_0_0 h4_0_1 x) (bV zX.kp zX.kx c)=(CK h4_0_0 h4_0_1 x).run (bW (Pw z4_0 h4_0_0 h4_0_1) (MR z4_0 h4_0_0 h4_0_1) c):=fun _ _ _ _ _=>by
 kernel_rfl
theorem alS:bS TK ZV (aY ZW 0) zX:=bA fun s e s' h=>by
 generalize hs:restrict zX.kp s=s1 at h
 have h:(aea s1).run some=some (e,s'):=h
 obtain ⟨e1,h_0⟩:=bf h
 obtain ⟨z4,d3,e2,h_1⟩:=aF h_0
 obtain ⟨d6,e5,h_2⟩:=ak h_1
 obtain ⟨d8,e7,h_3⟩:=ak h_2
 obtain ⟨m10,d11,e9,h_4⟩:=aH h_3
 obtain ⟨rfl,h_5⟩:=aQ h_4
 obtain ⟨y,hy,hz⟩:=bT h_5
 refine ⟨_,_,Pw z4 d3 d6,MR z4 d3 d6,CK d3 d6,(d8,d11),y,?_,hy,?_,ahm z4 d3 d6⟩
 ·subst hs;exact aT (T:=[(5,(.ref (7,0) [])),(17,(.imm z4 (.sl (.int .i64)) d3)),(18,(.imm true (.int .i64) d6)),(19,(.imm true (.int .i64) d8))]) (U:=[((7,0),some ⟨false,(.sl (.int .i64)),.own,d11⟩)]) rfl rfl ⟨e1,e2,e5,e7,trivial⟩ ⟨e9,trivial⟩
 ·exact Option.some.inj hz
noncomputable def anX:FnI:=⟨ZW,Tryz.f77.results.toList,Tryz.f77.resultTypes.toList,ZV⟩
noncomputable def ahn (_zp0:Bool) (_zp1:Bool) (_p0:(List Int)) (_p1:(List Int)):(List Int)→aB:=fun r=>⟨(.ref (1,0) []),[],[⟨false,(.sl (.int .i64)),.own,r⟩]⟩
theorem asr:∀ (zp0:Bool) (zp1:Bool) (p0:(List Int)) (p1:(List Int)),bQ TK anX ⟨[(.imm zp0 (.sl (.int .i64)) p0),(.imm zp1 (.sl (.int .i64)) p1)],[]⟩=(ap6 p0 p1).run fun r=>some (ahn zp0 zp1 p0 p1 r):=fun _ _ _ _=>by kernel_rfl
noncomputable def anW (av:List AV) (rs:List Root):Tre aB :=
 aJ av fun a0_ av0 =>
 aJ av0 fun a1_ av1 =>
 aU av1 <|
 aU rs <|
 bH (.sl (.int .i64)) a0_ fun z2 d1 =>
 bH (.sl (.int .i64)) a1_ fun z4 d3 =>
 .mat (Jy d1 d3) fun r=>.ret (ahn z2 z4 d1 d3 r)
noncomputable def anY:Ctr:=⟨[],fun ci=>anW ci.args ci.roots,false⟩
theorem ap7:bP Tryz.prog .none TK:=(aA TR at5 aP)
theorem asu:Contract Tryz.prog .none 77 anY:=by
 have hl:aZ TK ZV ZW:=(bC (n:=1) (by kernel_rfl) fun k hk=>by
   match k,hk with
   |0,_=>exact bq (id:=4) (L:=zX) (by kernel_rfl) (by kernel_rfl) alS)
 refine (aI (F:=anX) bn ap7 Tryz.func77 (by kernel_rfl) (by kernel_rfl) (by kernel_rfl) hl []).weaken ?_
 rintro ⟨av,rs⟩ co h
 have h:(anW av rs).run some=some co:=h
 obtain ⟨a0_,av0,rfl,h_0⟩:=au h
 obtain ⟨a1_,av1,rfl,h_1⟩:=au h_0
 obtain ⟨rfl,h_2⟩:=ay h_1
 obtain ⟨rfl,h_3⟩:=ay h_2
 obtain ⟨z2,d1,rfl,h_4⟩:=aF h_3
 obtain ⟨z4,d3,rfl,h_5⟩:=aF h_4
 exact bK (asr z2 z4 d1 d3) h_5
noncomputable def vU (h2_0_0:(List Int)):(List Int)→Tre ((List Int) ⊕ (List Int)):=fun s2 =>
 .cond (decide ((s2.length:Int) < (h2_0_0.length:Int)))
  (.ite ((s2.length+1) * 8≤bM∧1≤8) <|
  .ret (.inl (s2++([0]))))
  (.ret (.inr s2))
noncomputable def vV (h5_0_0:(List Int)):(Int×(List Int))→Tre ((Int×(List Int)) ⊕ (List Int)):=fun s5 =>
 .cond (decide (s5.1 < (h5_0_0.length:Int)))
  (.ite (0≤s5.1∧s5.1 < (s5.2.length:Int)) <|
  .mat (s5.2[s5.1.toNat]?) fun x3 =>
  .ite (0≤s5.1∧s5.1 < (h5_0_0.length:Int)) <|
  .mat (h5_0_0[s5.1.toNat]?) fun x4 =>
  .ite (0≤s5.1∧s5.1 < (s5.2.length:Int)) <|
  .mat (s5.2[s5.1.toNat]?) fun _ =>
  let v6:=s5.2.set s5.1.toNat (jI .i64 x3 x4)
  .ret (.inl (aO .i64 (s5.1+1),v6)))
  (.ret (.inr s5.2))
noncomputable def aiM (p0:(List Int)) (p1:(List Int)):Tre (List Int) :=
 .mat (fD p0) fun r1 =>
 .mat (aR (vU p1) r1) fun l2 =>
 .mat (aR (vV p1) (0,l2)) fun l7 =>
 .mat (EY l7) fun r8 =>
 .ret r8
noncomputable def J6 (p0:(List Int)) (p1:(List Int)):Option (List Int):=(aiM p0 p1).run some
-- more
theorem arO {f:TF3} (hf:aN f=true) {P Q:List Nat} (hP:inL (FOf f hf) P) (hQ:inL (FOf f hf) Q) (hp:P.length≤1000) (hq:Q.length≤1000):J6 (aS P) (aS Q)=some (aS (bY (jM P Q))):=by
 have hpl:(tY Q.length P).length=max P.length Q.length:=by simp [tY];omega
 have hpi:inL (FOf f hf) (tY Q.length P):=aad hP fun x hx=>by rw [(List.mem_replicate.1 hx).2];exact FO.zlt _
 unfold J6 aiM
 rw [ah (show fD (aS P)=some (aS P) from JG (by rw [aW];omega))]
 rw [ah (show aR (vU (aS Q)) (aS P)=some (aS (tY Q.length P)) from ?_)]
 ·rw [ah (show aR (vV (aS Q)) (0,aS (tY Q.length P))=some (aS (jM (tY Q.length P) Q)) from ?_),ah (apd (by rw [Nk];omega)),Tre.aL,ane]
  have h0:tY Q.length P=jM (tY Q.length P) (Q.take 0):=by rw [List.take_zero,agH]
  conv=>lhs;rw [h0]
  refine cZ (fun i=>((i:Int),aS (jM (tY Q.length P) (Q.take i)))) Q.length _ (fun i hi=>?_) ?_
  ·obtain ⟨h1,h2,h3,h4⟩:=ato hf hpi hQ (by omega) hi
   unfold vV
   dsimp only
   rw [Tre.aG,decide_eq_true (by rw [aW];omega),cond_true,dB h1,dB h2,dB h1,h3,Int.toNat_natCast,h4,Tre.aL,aX (by omega)]
  ·unfold vV
   dsimp only
   rw [aW,dF,Tre.aL,List.take_length]
 ·have h0:aS P=aS (P++List.replicate 0 0):=by simp
  conv=>lhs;rw [h0]
  refine cZ (fun i=>aS (P++List.replicate i 0)) (Q.length - P.length) _ (fun i hi=>?_) ?_
  ·unfold vU
   rw [Tre.aG,decide_eq_true (by rw [aW,aW,List.length_append,List.length_replicate];omega),cond_true,Tre.run_ite,if_pos (by rw [aW,List.length_append,List.length_replicate];unfold bM;omega),Tre.aL]
   rw [List.replicate_succ',← List.append_assoc,vE (P++List.replicate i 0)]
   rfl
  ·unfold vU
   rw [Tre.aG,decide_eq_false (by rw [aW,aW,List.length_append,List.length_replicate];omega),cond_false,Tre.aL]
   rfl
noncomputable def zH:Env:=⟨tau,[(108,C9),(126,Vg)],[]⟩
noncomputable def Dh:Code:=(Tryz.f130.body).getD .skip
noncomputable def J7 (z2_0:Bool) (h2_0_0:(List Int)):(List Int)→St:=fun x=>bR [(1,(.imm z2_0 (.sl (.int .i64)) h2_0_0)),(5,(.ref (7,0) []))] [((7,0),some ⟨false,(.sl (.int .i64)),.own,x⟩)]
noncomputable def FV (z2_0:Bool) (h2_0_0:(List Int)):(List Int)→Ex×St:=fun x=>(.exit 0,bR [(1,(.imm z2_0 (.sl (.int .i64)) h2_0_0)),(5,(.ref (7,0) []))] [((7,0),some ⟨false,(.sl (.int .i64)),.own,x⟩)])
noncomputable def XV (s:St):Tre (Ex×St) :=
 bH (.sl (.int .i64)) (s.tmps 1) fun z3 d2 =>
 dz (7,0) [] (s.tmps 5) <|
 bD false (.sl (.int .i64)) (s.roots (7,0)) fun m6 d7 =>
 asM .own m6 <|
 .mat (aR (vU d2) d7) fun x=>.ret (FV z3 d2 x)
noncomputable def sV:bJ:=⟨([1,5],[(7,0)]),([1,5],[(7,0)]),XV⟩
noncomputable def J8 (z5_0:Bool) (h5_0_0:(List Int)):(Int×(List Int))→St:=fun x=>bR [(1,(.imm z5_0 (.sl (.int .i64)) h5_0_0)),(5,(.ref (7,0) [])),(6,(.imm true (.int .i64) x.1))] [((7,0),some ⟨false,(.sl (.int .i64)),.own,x.2⟩)]
noncomputable def FW (_z5_0:Bool) (_h5_0_0:(List Int)):(List Int)→Ex×St:=fun x=>(.exit 2,bR [(5,(.ref (7,0) []))] [((7,0),some ⟨false,(.sl (.int .i64)),.own,x⟩)])
noncomputable def XW (s:St):Tre (Ex×St) :=
 bH (.sl (.int .i64)) (s.tmps 1) fun z3 d2 =>
 dz (7,0) [] (s.tmps 5) <|
 aC true (.int .i64) (s.tmps 6) fun d6 =>
 bD false (.sl (.int .i64)) (s.roots (7,0)) fun m8 d9 =>
 asM .own m8 <|
 .mat (aR (vV d2) (d6,d9)) fun x=>.ret (FW z3 d2 x)
noncomputable def sW:bJ:=⟨([1,5,6],[(7,0)]),([5],[(7,0)]),XW⟩
noncomputable def Df:List (Nat×bJ):=[(2,sV),(5,sW)]
theorem ady:∀ (z2_0:Bool) (h2_0_0:(List Int)) (x:(List Int)) (c:St→Option (Ex×St)),den zH Df (aY Dh 0) (J7 z2_0 h2_0_0 x) (bV sV.kp sV.kx c)=(vU h2_0_0 x).run (bW (J7 z2_0 h2_0_0) (FV z2_0 h2_0_0) c):=fun _ _ _ _=>by
 kernel_rfl
theorem aiQ:bS zH Df (aY Dh 0) sV:=bA fun s e s' h=>by
 generalize hs:restrict sV.kp s=s1 at h
 have h:(XV s1).run some=some (e,s'):=h
 obtain ⟨z3,d2,e1,h_0⟩:=aF h
 obtain ⟨e4,h_1⟩:=bf h_0
 obtain ⟨m6,d7,e5,h_2⟩:=aH h_1
 obtain ⟨rfl,h_3⟩:=aQ h_2
 obtain ⟨y,hy,hz⟩:=bT h_3
 refine ⟨_,_,J7 z3 d2,FV z3 d2,vU d2,d7,y,?_,hy,?_,ady z3 d2⟩
 ·subst hs;exact aT (T:=[(1,(.imm z3 (.sl (.int .i64)) d2)),(5,(.ref (7,0) []))]) (U:=[((7,0),some ⟨false,(.sl (.int .i64)),.own,d7⟩)]) rfl rfl ⟨e1,e4,trivial⟩ ⟨e5,trivial⟩
 ·exact Option.some.inj hz
theorem adz:∀ (z5_0:Bool) (h5_0_0:(List Int)) (x:(Int×(List Int))) (c:St→Option (Ex×St)),den zH Df (aY Dh 1) (J8 z5_0 h5_0_0 x) (bV sW.kp sW.kx c)=(vV h5_0_0 x).run (bW (J8 z5_0 h5_0_0) (FW z5_0 h5_0_0) c):=fun _ _ _ _=>by
 kernel_rfl
theorem aiR:bS zH Df (aY Dh 1) sW:=bA fun s e s' h=>by
 generalize hs:restrict sW.kp s=s1 at h
 have h:(XW s1).run some=some (e,s'):=h
 obtain ⟨z3,d2,e1,h_0⟩:=aF h
 obtain ⟨e4,h_1⟩:=bf h_0
 obtain ⟨d6,e5,h_2⟩:=ak h_1
 obtain ⟨m8,d9,e7,h_3⟩:=aH h_2
 obtain ⟨rfl,h_4⟩:=aQ h_3
 obtain ⟨y,hy,hz⟩:=bT h_4
 refine ⟨_,_,J8 z3 d2,FW z3 d2,vV d2,(d6,d9),y,?_,hy,?_,adz z3 d2⟩
 ·subst hs;exact aT (T:=[(1,(.imm z3 (.sl (.int .i64)) d2)),(5,(.ref (7,0) [])),(6,(.imm true (.int .i64) d6))]) (U:=[((7,0),some ⟨false,(.sl (.int .i64)),.own,d9⟩)]) rfl rfl ⟨e1,e4,e5,trivial⟩ ⟨e7,trivial⟩
 ·exact Option.some.inj hz
noncomputable def aiO:FnI:=⟨Dh,Tryz.f130.results.toList,Tryz.f130.resultTypes.toList,Df⟩
noncomputable def abl (_zp0:Bool) (_zp1:Bool) (_p0:(List Int)) (_p1:(List Int)):(List Int)→aB:=fun r=>⟨(.ref (1,0) []),[],[⟨false,(.sl (.int .i64)),.own,r⟩]⟩
theorem ao1:∀ (zp0:Bool) (zp1:Bool) (p0:(List Int)) (p1:(List Int)),bQ zH aiO ⟨[(.imm zp0 (.sl (.int .i64)) p0),(.imm zp1 (.sl (.int .i64)) p1)],[]⟩=(aiM p0 p1).run fun r=>some (abl zp0 zp1 p0 p1 r):=fun _ _ _ _=>by kernel_rfl
noncomputable def aiN (av:List AV) (rs:List Root):Tre aB :=
 aJ av fun a0_ av0 =>
 aJ av0 fun a1_ av1 =>
 aU av1 <|
 aU rs <|
 bH (.sl (.int .i64)) a0_ fun z2 d1 =>
 bH (.sl (.int .i64)) a1_ fun z4 d3 =>
 .mat (J6 d1 d3) fun r=>.ret (abl z2 z4 d1 d3 r)
noncomputable def aiP:Ctr:=⟨[],fun ci=>aiN ci.args ci.roots,false⟩
theorem amL:bP Tryz.prog .none zH:=(aA ET acf (aA abn at1 aP))
theorem ao2:Contract Tryz.prog .none 130 aiP:=by
 have hl:aZ zH Df Dh:=(bC (n:=2) (by kernel_rfl) fun k hk=>by
   match k,hk with
   |0,_=>exact bq (id:=2) (L:=sV) (by kernel_rfl) (by kernel_rfl) aiQ
   |1,_=>exact bq (id:=5) (L:=sW) (by kernel_rfl) (by kernel_rfl) aiR)
 refine (aI (F:=aiO) bn amL Tryz.func130 (by kernel_rfl) (by kernel_rfl) (by kernel_rfl) hl []).weaken ?_
 rintro ⟨av,rs⟩ co h
 have h:(aiN av rs).run some=some co:=h
 obtain ⟨a0_,av0,rfl,h_0⟩:=au h
 obtain ⟨a1_,av1,rfl,h_1⟩:=au h_0
 obtain ⟨rfl,h_2⟩:=ay h_1
 obtain ⟨rfl,h_3⟩:=ay h_2
 obtain ⟨z2,d1,rfl,h_4⟩:=aF h_3
 obtain ⟨z4,d3,rfl,h_5⟩:=aF h_4
 exact bK (ao1 z2 z4 d1 d3) h_5
noncomputable def iN (h8_0_1:Int) (h8_0_2:Int) (h8_0_6:(List Int)) (h8_0_7:Int) (h8_0_9:(Int×(Int×Unit))):(Int×(List Int))→Tre ((Int×(List Int)) ⊕ (List Int)):=fun s8 =>
 .cond (decide (s8.1 < h8_0_7))
  (.ite (0≤s8.1∧s8.1 < (h8_0_6.length:Int)) <|
  .mat (h8_0_6[s8.1.toNat]?) fun x3 =>
  let v4:=aO .i64 (h8_0_1+s8.1)
  .ite (0≤v4∧v4 < (s8.2.length:Int)) <|
  .mat (s8.2[v4.toNat]?) fun x5 =>
  .mat (fV h8_0_9 x3 h8_0_1) fun r6 =>
  .mat (bX h8_0_9 h8_0_2 r6) fun r7 =>
  .ite (0≤v4∧v4 < (s8.2.length:Int)) <|
  .mat (s8.2[v4.toNat]?) fun _ =>
  let v9:=s8.2.set v4.toNat (jI .i64 x5 r7)
  .ret (.inl (aO .i64 (s8.1+1),v9)))
  (.ret (.inr s8.2))
noncomputable def iM (h5_0_0:(List Int)) (h5_0_1:(List Int)) (h5_0_2:Int) (h5_0_4:(Int×(Int×Unit))):(Int×(List Int))→Tre ((Int×(List Int)) ⊕ (List Int)):=fun s5 =>
 .cond (decide (s5.1 < h5_0_2))
  (.ite (0≤s5.1∧s5.1 < (h5_0_1.length:Int)) <|
  .mat (h5_0_1[s5.1.toNat]?) fun x2 =>
  .mat (aR (iN s5.1 x2 h5_0_0 (h5_0_0.length:Int) h5_0_4) (0,s5.2)) fun l10 =>
  .ret (.inl (aO .i64 (s5.1+1),l10)))
  (.ret (.inr s5.2))
noncomputable def Fq (p0:(Int×(Int×Unit))) (p1:(List Int)) (p2:(List Int)):Tre (List Int) :=
 .cond (decide ((p1.length:Int)=0))
  (.ret [])
  (.cond (decide ((p2.length:Int)=0))
   (.ret [])
   (let v1:=aO .i64 ((p1.length:Int)+(p2.length:Int))
   .ite (((.int .i64):K)=(.int .i64)∧0≤aO .i64 (v1 - 1)∧aO .i64 (v1 - 1)=aO .i64 (v1 - 1)∧aO .i64 (v1 - 1) * (8:Nat)≤140737488355328∧1≤8) <|
   .mat (aR (iM p2 p1 (p1.length:Int) p0) (0,List.replicate (aO .i64 (v1 - 1)).toNat (0:Int))) fun l11 =>
   .mat (yC l11) fun r12 =>
   .alt r12
    (fun a13 =>
     .ret a13)
    (fun b14 =>
     .ret ((b14.2.2.drop b14.1).take b14.2.1))))
noncomputable def nM (p0:(Int×(Int×Unit))) (p1:(List Int)) (p2:(List Int)):Option (List Int):=(Fq p0 p1 p2).run some
-- more
theorem aqL (F:FO):∀ (V:List Nat) (x:Nat→Nat) (i:Nat),(∀ i,x i=0)→F.fB V x i=0:=by
 intro V
 induction V with
 |nil=>intro x i _;simp [FO.fB]
 |cons v vs ih =>
  intro x i hx
  simp only [FO.fB]
  rw [hx,F.mul_zero,Nat.zero_xor]
  cases i with
  |zero=>rfl
  |succ i=>exact ih _ i fun j=>by rw [hx,F.Ie]
theorem aqM {f:TF3} (hf:aN f=true) {A Y:List Nat} (hA:inL (FOf f hf) A) (hY:inL (FOf f hf) Y) {i:Nat} (hl:i+Y.length≤A.length) {j:Nat} (hj:j < Y.length) :
  (aS (jM A (List.replicate i 0++Y.take j)))[i+j]?=some (cf A (i+j):Int)∧jI .i64 (cf A (i+j):Int) (cf Y j:Int)=((cf A (i+j) ^^^ cf Y j:Nat):Int) ∧
  (aS (jM A (List.replicate i 0++Y.take j))).set (i+j) (((cf A (i+j) ^^^ cf Y j:Nat):Int))=aS (jM A (List.replicate i 0++Y.take (j+1))):=by
 have hti:(List.replicate i 0++Y.take j).length=i+j:=by rw [List.length_append,List.length_replicate,List.length_take];omega
 obtain ⟨h1,h2⟩:=anf (List.replicate i 0++Y.take j) A (cf Y j) (by omega)
 rw [hti] at h1 h2
 refine ⟨dG h1,Zl hf (pq hA _) (pq hY j),?_⟩
 rw [← TU,h2,List.take_add_one,eT hj,List.append_assoc];rfl
theorem aqJ (A:List Nat) (i:Nat) (h:i≤A.length):jM A (List.replicate i 0)=A:=apD (aqI (by rw [List.length_replicate];exact h)) fun s=>by rw [Du,ant,Nat.xor_zero]
theorem arI (F:FO) (i c:Nat) (q:List Nat):inL F (F.aaT i c q):=by
 intro x hx
 obtain ⟨d,_,rfl⟩:=List.mem_map.1 hx
 exact F.lt _ _
theorem arH (F:FO) {i c:Nat} {q:List Nat} (j:Nat):cf (F.aaT i c q) j=F.mul c (F.sqn i (cf q j)):=by
 unfold FO.aaT
 rw [alH (by rw [F.apc,F.mul_zero])]
theorem an6 {f:TF3} (hf:aN f=true) {P Q:List Nat} (hP:inL (FOf f hf) P) (hQ:inL (FOf f hf) Q) (hp:P.length≤400) (hq:Q.length≤400):nM f (aS P) (aS Q)=some (aS (bY ((FOf f hf).zN P Q))):=by
 unfold nM Fq
 rw [Tre.aG,aW,aW]
 by_cases h1:P=[]
 ·subst h1;rfl
 have hpl:0 < P.length:=List.length_pos_iff.2 h1
 rw [decide_eq_false (by omega),cond_false,Tre.aG]
 by_cases h2:Q=[]
 ·subst h2
  rw [decide_eq_true (show ((([]:List Nat).length:Nat):Int)=0 from rfl),cond_true,Tre.aL,als fun i=>by rw [FO.SF,aqL _ _ _ _ Ai]]
  rfl
 have hql:0 < Q.length:=List.length_pos_iff.2 h2
 have hw1:aO .i64 ((P.length:Int)+(Q.length:Int))=((P.length+Q.length:Nat):Int):=by rw [dN (by omega) (by omega)];omega
 have hw2:aO .i64 (((P.length+Q.length:Nat):Int) - 1)=((P.length+Q.length - 1:Nat):Int):=gM (by omega) (by omega)
 have holen:=(FOf f hf).aoH P Q h2
 have hoin:=(FOf f hf).arC P Q
 obtain ⟨r,hr1,hr2⟩:=akQ (l:=(FOf f hf).Hz P Q P.length) (by rw [holen _ (Nat.le_refl _)];omega)
 rw [decide_eq_false (by omega),cond_false]
 dsimp only
 rw [hw1,hw2,Tre.run_ite,if_pos ⟨rfl,by omega,rfl,by omega,by omega⟩,Int.toNat_natCast,← CQ]
 rw [ah (show aR (iM (aS Q) (aS P) (P.length:Int) f) (0,aS (List.replicate (P.length+Q.length - 1) 0))=some (aS ((FOf f hf).Hz P Q P.length)) from ?_),ah hr1]
 ·rw [← (FOf f hf).ak3,← hr2]
  cases r <;> rfl
 refine cZ (fun i=>((i:Int),aS ((FOf f hf).Hz P Q i))) P.length _ (fun i hi=>?_) ?_
 ·have hpi:=dG (eT hi)
  have hplen:(P.length:Int)=((aS P).length:Int):=by rw [aW]
  have hrl:((FOf f hf).aaT i (cf P i) Q).length=Q.length:=by unfold FO.aaT;rw [List.length_map]
  unfold iM
  dsimp only
  rw [hplen,eu hpi,aW]
  rw [ah (show aR (iN (i:Int) (cf P i:Int) (aS Q) (Q.length:Int) f) (0,aS ((FOf f hf).Hz P Q i))=some (aS ((FOf f hf).Hz P Q (i+1))) from ?_),Tre.aL,aX (by omega)]
  have h0:(FOf f hf).Hz P Q i=jM ((FOf f hf).Hz P Q i) (List.replicate i 0++((FOf f hf).aaT i (cf P i) Q).take 0):=by rw [List.take_zero,List.append_nil,aqJ _ _ (by rw [holen _ (by omega)];omega)]
  conv=>lhs;rw [h0]
  refine cZ (fun j=>((j:Int),aS (jM ((FOf f hf).Hz P Q i) (List.replicate i 0++((FOf f hf).aaT i (cf P i) Q).take j)))) Q.length _ (fun j hj=>?_) ?_
  ·obtain ⟨c1,c2,c3⟩:=aqM hf (hoin i) (arI _ i (cf P i) Q) (i:=i) (by rw [holen _ (by omega),hrl];omega) (j:=j) (by omega)
   have hqlen:(Q.length:Int)=((aS Q).length:Int):=by rw [aW]
   have hij:aO .i64 ((i:Int)+(j:Int))=((i+j:Nat):Int):=by rw [dN (by omega) (by omega)];omega
   have hqj:=pq hQ j
   unfold iN
   dsimp only
   rw [hqlen,eu (dG (eT hj)),hij,dB c1,ah (ahI hf hqj i),ah (alZ hf (pq hP i) ((FOf f hf).Nh i hqj)),dB c1,← arH,c2,Int.toNat_natCast,c3,Tre.aL,aX (by omega)]
  ·unfold iN
   dsimp only
   rw [dF,Tre.aL,List.take_of_length_le (by omega)]
   rfl
 ·unfold iM
  dsimp only
  rw [dF,Tre.aL]
noncomputable def jl:Env:=⟨tau,[(62,lZ),(75,ow),(48,MS)],[]⟩
noncomputable def kL:Code:=(Tryz.f70.body).getD .skip
noncomputable def tC (z8_0:Bool) (z8_1:Bool) (z8_2:Bool) (h8_0_0:(List Int)) (h8_0_1:Int) (h8_0_2:Int) (h8_0_3:(List Int)) (h8_0_4:Int) (h8_0_5:Int) (h8_0_6:(List Int)) (h8_0_7:Int) (h8_0_9:(Int×(Int×Unit))):(Int×(List Int))→St:=fun x=>bR [(2,(.imm z8_0 (.sl (.int .i64)) h8_0_0)),(3,(.ptr (5,0) [])),(7,(.ref (9,0) [])),(8,(.imm true (.int .i64) h8_0_1)),(9,(.imm true (.int .i64) h8_0_2)),(27,(.imm z8_1 (.sl (.int .i64)) h8_0_3)),(28,(.imm true (.int .i64) h8_0_4)),(29,(.imm true (.int .i64) h8_0_5)),(34,(.imm z8_2 (.sl (.int .i64)) h8_0_6)),(35,(.imm true (.int .i64) h8_0_7)),(36,(.imm true (.int .i64) x.1))] [((5,0),some ⟨true,aM,.own,h8_0_9⟩),((9,0),some ⟨false,(.sl (.int .i64)),.own,x.2⟩)]
noncomputable def qL (z8_0:Bool) (z8_1:Bool) (_z8_2:Bool) (h8_0_0:(List Int)) (_h8_0_1:Int) (_h8_0_2:Int) (h8_0_3:(List Int)) (h8_0_4:Int) (h8_0_5:Int) (_h8_0_6:(List Int)) (_h8_0_7:Int) (h8_0_9:(Int×(Int×Unit))):(List Int)→Ex×St:=fun x=>(.exit 2,bR [(2,(.imm z8_0 (.sl (.int .i64)) h8_0_0)),(3,(.ptr (5,0) [])),(7,(.ref (9,0) [])),(27,(.imm z8_1 (.sl (.int .i64)) h8_0_3)),(28,(.imm true (.int .i64) h8_0_4)),(29,(.imm true (.int .i64) h8_0_5))] [((5,0),some ⟨true,aM,.own,h8_0_9⟩),((9,0),some ⟨false,(.sl (.int .i64)),.own,x⟩)])
noncomputable def D7 (s:St):Tre (Ex×St) :=
 bH (.sl (.int .i64)) (s.tmps 2) fun z3 d2 =>
 dW (5,0) [] (s.tmps 3) <|
 dz (9,0) [] (s.tmps 7) <|
 aC true (.int .i64) (s.tmps 8) fun d7 =>
 aC true (.int .i64) (s.tmps 9) fun d9 =>
 bH (.sl (.int .i64)) (s.tmps 27) fun z12 d11 =>
 aC true (.int .i64) (s.tmps 28) fun d14 =>
 aC true (.int .i64) (s.tmps 29) fun d16 =>
 bH (.sl (.int .i64)) (s.tmps 34) fun z19 d18 =>
 aC true (.int .i64) (s.tmps 35) fun d21 =>
 aC true (.int .i64) (s.tmps 36) fun d23 =>
 bD true aM (s.roots (5,0)) fun m25 d26 =>
 asM .own m25 <|
 bD false (.sl (.int .i64)) (s.roots (9,0)) fun m28 d29 =>
 asM .own m28 <|
 .mat (aR (iN d7 d9 d18 d21 d26) (d23,d29)) fun x=>.ret (qL z3 z12 z19 d2 d7 d9 d11 d14 d16 d18 d21 d26 x)
noncomputable def iR:bJ:=⟨([2,3,7,8,9,27,28,29,34,35,36],[(5,0),(9,0)]),([2,3,7,27,28,29],[(5,0),(9,0)]),D7⟩
noncomputable def tu (z5_0:Bool) (z5_1:Bool) (h5_0_0:(List Int)) (h5_0_1:(List Int)) (h5_0_2:Int) (h5_0_4:(Int×(Int×Unit))):(Int×(List Int))→St:=fun x=>bR [(2,(.imm z5_0 (.sl (.int .i64)) h5_0_0)),(3,(.ptr (5,0) [])),(7,(.ref (9,0) [])),(27,(.imm z5_1 (.sl (.int .i64)) h5_0_1)),(28,(.imm true (.int .i64) h5_0_2)),(29,(.imm true (.int .i64) x.1))] [((5,0),some ⟨true,aM,.own,h5_0_4⟩),((9,0),some ⟨false,(.sl (.int .i64)),.own,x.2⟩)]
noncomputable def qK (_z5_0:Bool) (_z5_1:Bool) (_h5_0_0:(List Int)) (_h5_0_1:(List Int)) (_h5_0_2:Int) (_h5_0_4:(Int×(Int×Unit))):(List Int)→Ex×St:=fun x=>(.exit 0,bR [(7,(.ref (9,0) []))] [((9,0),some ⟨false,(.sl (.int .i64)),.own,x⟩)])
noncomputable def D6 (s:St):Tre (Ex×St) :=
 bH (.sl (.int .i64)) (s.tmps 2) fun z3 d2 =>
 dW (5,0) [] (s.tmps 3) <|
 dz (9,0) [] (s.tmps 7) <|
 bH (.sl (.int .i64)) (s.tmps 27) fun z8 d7 =>
 aC true (.int .i64) (s.tmps 28) fun d10 =>
 aC true (.int .i64) (s.tmps 29) fun d12 =>
 bD true aM (s.roots (5,0)) fun m14 d15 =>
 asM .own m14 <|
 bD false (.sl (.int .i64)) (s.roots (9,0)) fun m17 d18 =>
 asM .own m17 <|
 .mat (aR (iM d2 d7 d10 d15) (d12,d18)) fun x=>.ret (qK z3 z8 d2 d7 d10 d15 x)
noncomputable def iQ:bJ:=⟨([2,3,7,27,28,29],[(5,0),(9,0)]),([7],[(9,0)]),D6⟩
noncomputable def kK:List (Nat×bJ):=[(8,iR),(5,iQ)]
theorem Nr:∀ (z8_0:Bool) (z8_1:Bool) (z8_2:Bool) (h8_0_0:(List Int)) (h8_0_1:Int) (h8_0_2:Int) (h8_0_3:(List Int)) (h8_0_4:Int) (h8_0_5:Int) (h8_0_6:(List Int)) (h8_0_7:Int) (h8_0_9:(Int×(Int×Unit))) (x:(Int×(List Int))) (c:St→Option (Ex×St)),den jl kK (aY kL 1) (tC z8_0 z8_1 z8_2 h8_0_0 h8_0_1 h8_0_2 h8_0_3 h8_0_4 h8_0_5 h8_0_6 h8_0_7 h8_0_9 x) (bV iR.kp iR.kx c)=(iN h8_0_1 h8_0_2 h8_0_6 h8_0_7 h8_0_9 x).run (bW (tC z8_0 z8_1 z8_2 h8_0_0 h8_0_1 h8_0_2 h8_0_3 h8_0_4 h8_0_5 h8_0_6 h8_0_7 h8_0_9) (qL z8_0 z8_1 z8_2 h8_0_0 h8_0_1 h8_0_2 h8_0_3 h8_0_4 h8_0_5 h8_0_6 h8_0_7 h8_0_9) c):=fun _ _ _ _ _ _ _ _ _ _ _ _ _ _=>by
 kernel_rfl
theorem RN:bS jl kK (aY kL 1) iR:=bA fun s e s' h=>by
 generalize hs:restrict iR.kp s=s1 at h
 have h:(D7 s1).run some=some (e,s'):=h
 obtain ⟨z3,d2,e1,h_0⟩:=aF h
 obtain ⟨e4,h_1⟩:=bI h_0
 obtain ⟨e5,h_2⟩:=bf h_1
 obtain ⟨d7,e6,h_3⟩:=ak h_2
 obtain ⟨d9,e8,h_4⟩:=ak h_3
 obtain ⟨z12,d11,e10,h_5⟩:=aF h_4
 obtain ⟨d14,e13,h_6⟩:=ak h_5
 obtain ⟨d16,e15,h_7⟩:=ak h_6
 obtain ⟨z19,d18,e17,h_8⟩:=aF h_7
 obtain ⟨d21,e20,h_9⟩:=ak h_8
 obtain ⟨d23,e22,h_10⟩:=ak h_9
 obtain ⟨m25,d26,e24,h_11⟩:=aH h_10
 obtain ⟨rfl,h_12⟩:=aQ h_11
 obtain ⟨m28,d29,e27,h_13⟩:=aH h_12
 obtain ⟨rfl,h_14⟩:=aQ h_13
 obtain ⟨y,hy,hz⟩:=bT h_14
 refine ⟨_,_,tC z3 z12 z19 d2 d7 d9 d11 d14 d16 d18 d21 d26,qL z3 z12 z19 d2 d7 d9 d11 d14 d16 d18 d21 d26,iN d7 d9 d18 d21 d26,(d23,d29),y,?_,hy,?_,Nr z3 z12 z19 d2 d7 d9 d11 d14 d16 d18 d21 d26⟩
 ·subst hs;exact aT (T:=[(2,(.imm z3 (.sl (.int .i64)) d2)),(3,(.ptr (5,0) [])),(7,(.ref (9,0) [])),(8,(.imm true (.int .i64) d7)),(9,(.imm true (.int .i64) d9)),(27,(.imm z12 (.sl (.int .i64)) d11)),(28,(.imm true (.int .i64) d14)),(29,(.imm true (.int .i64) d16)),(34,(.imm z19 (.sl (.int .i64)) d18)),(35,(.imm true (.int .i64) d21)),(36,(.imm true (.int .i64) d23))]) (U:=[((5,0),some ⟨true,aM,.own,d26⟩),((9,0),some ⟨false,(.sl (.int .i64)),.own,d29⟩)]) rfl rfl ⟨e1,e4,e5,e6,e8,e10,e13,e15,e17,e20,e22,trivial⟩ ⟨e24,e27,trivial⟩
 ·exact Option.some.inj hz
theorem Nq:∀ (z5_0:Bool) (z5_1:Bool) (h5_0_0:(List Int)) (h5_0_1:(List Int)) (h5_0_2:Int) (h5_0_4:(Int×(Int×Unit))) (x:(Int×(List Int))) (c:St→Option (Ex×St)),den jl kK (aY kL 0) (tu z5_0 z5_1 h5_0_0 h5_0_1 h5_0_2 h5_0_4 x) (bV iQ.kp iQ.kx c)=(iM h5_0_0 h5_0_1 h5_0_2 h5_0_4 x).run (bW (tu z5_0 z5_1 h5_0_0 h5_0_1 h5_0_2 h5_0_4) (qK z5_0 z5_1 h5_0_0 h5_0_1 h5_0_2 h5_0_4) c):=fun _ _ _ _ _ _ _ _=>by
 kernel_rfl
theorem RL:bS jl kK (aY kL 0) iQ:=bA fun s e s' h=>by
 generalize hs:restrict iQ.kp s=s1 at h
 have h:(D6 s1).run some=some (e,s'):=h
 obtain ⟨z3,d2,e1,h_0⟩:=aF h
 obtain ⟨e4,h_1⟩:=bI h_0
 obtain ⟨e5,h_2⟩:=bf h_1
 obtain ⟨z8,d7,e6,h_3⟩:=aF h_2
 obtain ⟨d10,e9,h_4⟩:=ak h_3
 obtain ⟨d12,e11,h_5⟩:=ak h_4
 obtain ⟨m14,d15,e13,h_6⟩:=aH h_5
 obtain ⟨rfl,h_7⟩:=aQ h_6
 obtain ⟨m17,d18,e16,h_8⟩:=aH h_7
 obtain ⟨rfl,h_9⟩:=aQ h_8
 obtain ⟨y,hy,hz⟩:=bT h_9
 refine ⟨_,_,tu z3 z8 d2 d7 d10 d15,qK z3 z8 d2 d7 d10 d15,iM d2 d7 d10 d15,(d12,d18),y,?_,hy,?_,Nq z3 z8 d2 d7 d10 d15⟩
 ·subst hs;exact aT (T:=[(2,(.imm z3 (.sl (.int .i64)) d2)),(3,(.ptr (5,0) [])),(7,(.ref (9,0) [])),(27,(.imm z8 (.sl (.int .i64)) d7)),(28,(.imm true (.int .i64) d10)),(29,(.imm true (.int .i64) d12))]) (U:=[((5,0),some ⟨true,aM,.own,d15⟩),((9,0),some ⟨false,(.sl (.int .i64)),.own,d18⟩)]) rfl rfl ⟨e1,e4,e5,e6,e9,e11,trivial⟩ ⟨e13,e16,trivial⟩
 ·exact Option.some.inj hz
noncomputable def KY:FnI:=⟨kL,Tryz.f70.results.toList,Tryz.f70.resultTypes.toList,kK⟩
noncomputable def Gm (_zp0:Bool) (_zp1:Bool) (_p0:(Int×(Int×Unit))) (_p1:(List Int)) (_p2:(List Int)):(List Int)→aB:=fun r=>⟨(.ref (1,0) []),[],[⟨false,(.sl (.int .i64)),.own,r⟩]⟩
theorem Yr:∀ (zp0:Bool) (zp1:Bool) (p0:(Int×(Int×Unit))) (p1:(List Int)) (p2:(List Int)),bQ jl KY ⟨[(.imm true aM p0),(.imm zp0 (.sl (.int .i64)) p1),(.imm zp1 (.sl (.int .i64)) p2)],[]⟩=(Fq p0 p1 p2).run fun r=>some (Gm zp0 zp1 p0 p1 p2 r):=fun _ _ _ _ _=>by kernel_rfl
noncomputable def KX (av:List AV) (rs:List Root):Tre aB :=
 aJ av fun a0_ av0 =>
 aJ av0 fun a1_ av1 =>
 aJ av1 fun a2_ av2 =>
 aU av2 <|
 aU rs <|
 aC true aM a0_ fun d1 =>
 bH (.sl (.int .i64)) a1_ fun z3 d2 =>
 bH (.sl (.int .i64)) a2_ fun z5 d4 =>
 .mat (nM d1 d2 d4) fun r=>.ret (Gm z3 z5 d1 d2 d4 r)
noncomputable def KZ:Ctr:=⟨[],fun ci=>KX ci.args ci.roots,false⟩
theorem Wi:bP Tryz.prog .none jl:=(aA nO anL (aA pE akE (aA TR at5 aP)))
theorem Yt:Contract Tryz.prog .none 70 KZ:=by
 have hl:aZ jl kK kL:=(bC (n:=2) (by kernel_rfl) fun k hk=>by
   match k,hk with
   |0,_=>exact bq (id:=5) (L:=iQ) (by kernel_rfl) (by kernel_rfl) RL
   |1,_=>exact bq (id:=8) (L:=iR) (by kernel_rfl) (by kernel_rfl) RN)
 refine (aI (F:=KY) bn Wi Tryz.func70 (by kernel_rfl) (by kernel_rfl) (by kernel_rfl) hl []).weaken ?_
 rintro ⟨av,rs⟩ co h
 have h:(KX av rs).run some=some co:=h
 obtain ⟨a0_,av0,rfl,h_0⟩:=au h
 obtain ⟨a1_,av1,rfl,h_1⟩:=au h_0
 obtain ⟨a2_,av2,rfl,h_2⟩:=au h_1
 obtain ⟨rfl,h_3⟩:=ay h_2
 obtain ⟨rfl,h_4⟩:=ay h_3
 obtain ⟨d1,rfl,h_5⟩:=ak h_4
 obtain ⟨z3,d2,rfl,h_6⟩:=aF h_5
 obtain ⟨z5,d4,rfl,h_7⟩:=aF h_6
 exact bK (Yr z3 z5 d1 d2 d4) h_7
noncomputable def lF (h8_0_0:(List Int)) (h8_0_1:(List Int)) (h8_0_2:Int) (h8_0_4:(Int×(Int×Unit))):(Int×(List Int))→Tre ((Int×(List Int)) ⊕ (List Int)):=fun s8 =>
 .cond (decide (s8.1 < (h8_0_1.length:Int)))
  (let v2:=aO .i64 (h8_0_2+s8.1)
  .ite (0≤v2∧v2 < (s8.2.length:Int)) <|
  .mat (s8.2[v2.toNat]?) fun x3 =>
  .ite (0≤h8_0_2∧h8_0_2 < (h8_0_0.length:Int)) <|
  .mat (h8_0_0[h8_0_2.toNat]?) fun x4 =>
  .ite (0≤s8.1∧s8.1 < (h8_0_1.length:Int)) <|
  .mat (h8_0_1[s8.1.toNat]?) fun x5 =>
  .mat (lU h8_0_4 x5 h8_0_2) fun r6 =>
  .mat (dH h8_0_4 x4 r6) fun r7 =>
  .ite (0≤v2∧v2 < (s8.2.length:Int)) <|
  .mat (s8.2[v2.toNat]?) fun _ =>
  let v9:=s8.2.set v2.toNat (jI .i64 x3 r7)
  .ret (.inl (aO .i64 (s8.1+1),v9)))
  (.ret (.inr s8.2))
noncomputable def lD (h5_0_0:(List Int)) (h5_0_1:(List Int)) (h5_0_3:(Int×(Int×Unit))):(Int×(List Int))→Tre ((Int×(List Int)) ⊕ (List Int)):=fun s5 =>
 .cond (decide (s5.1 < (h5_0_0.length:Int)))
  (.mat (aR (lF h5_0_0 h5_0_1 s5.1 h5_0_3) (0,s5.2)) fun l10 =>
  .ret (.inl (aO .i64 (s5.1+1),l10)))
  (.ret (.inr s5.2))
noncomputable def Qf (p0:(Int×(Int×Unit))) (p1:(List Int)) (p2:(List Int)):Tre (List Int) :=
 .cond (decide ((p1.length:Int)=0))
  (.ret [])
  (.cond (decide ((p2.length:Int)=0))
   (.ret [])
   (let v1:=aO .i64 ((p1.length:Int)+(p2.length:Int))
   .ite (((.int .i64):K)=(.int .i64)∧0≤aO .i64 (v1 - 1)∧aO .i64 (v1 - 1)=aO .i64 (v1 - 1)∧aO .i64 (v1 - 1) * (8:Nat)≤140737488355328∧1≤8) <|
   .mat (aR (lD p1 p2 p0) (0,List.replicate (aO .i64 (v1 - 1)).toNat (0:Int))) fun l11 =>
   .mat (EY l11) fun r12 =>
   .ret r12))
noncomputable def Bz (p0:(Int×(Int×Unit))) (p1:(List Int)) (p2:(List Int)):Option (List Int):=(Qf p0 p1 p2).run some
-- more
theorem ao6 {f:TF3} (hf:aN f=true) {P Q:List Nat} (hP:inL (FOf f hf) P) (hQ:inL (FOf f hf) Q) (hp:P.length≤400) (hq:Q.length≤400):Bz f (aS P) (aS Q)=some (aS (bY ((FOf f hf).zN P Q))):=by
 unfold Bz Qf
 rw [Tre.aG,aW,aW]
 by_cases h1:P=[]
 ·subst h1;rfl
 have hpl:0 < P.length:=List.length_pos_iff.2 h1
 rw [decide_eq_false (by omega),cond_false,Tre.aG]
 by_cases h2:Q=[]
 ·subst h2
  rw [decide_eq_true (show ((([]:List Nat).length:Nat):Int)=0 from rfl),cond_true,Tre.aL,als fun i=>by rw [FO.SF,aqL _ _ _ _ Ai]]
  rfl
 have hql:0 < Q.length:=List.length_pos_iff.2 h2
 have hw1:aO .i64 ((P.length:Int)+(Q.length:Int))=((P.length+Q.length:Nat):Int):=by rw [dN (by omega) (by omega)];omega
 have hw2:aO .i64 (((P.length+Q.length:Nat):Int) - 1)=((P.length+Q.length - 1:Nat):Int):=gM (by omega) (by omega)
 have holen:=(FOf f hf).aoH P Q h2
 have hoin:=(FOf f hf).arC P Q
 rw [decide_eq_false (by omega),cond_false]
 dsimp only
 rw [hw1,hw2,Tre.run_ite,if_pos ⟨rfl,by omega,rfl,by omega,by omega⟩,Int.toNat_natCast,← CQ]
 rw [ah (show aR (lD (aS P) (aS Q) f) (0,aS (List.replicate (P.length+Q.length - 1) 0))=some (aS ((FOf f hf).Hz P Q P.length)) from ?_),ah (apd (by rw [holen _ (Nat.le_refl _)];omega)),Tre.aL,FO.ak3]
 refine cZ (fun i=>((i:Int),aS ((FOf f hf).Hz P Q i))) P.length _ (fun i hi=>?_) ?_
 ·have hpi:=dG (eT hi)
  have hrl:((FOf f hf).aaT i (cf P i) Q).length=Q.length:=by unfold FO.aaT;rw [List.length_map]
  unfold lD
  dsimp only
  rw [Tre.aG,decide_eq_true (by rw [aW];omega),cond_true]
  rw [ah (show aR (lF (aS P) (aS Q) (i:Int) f) (0,aS ((FOf f hf).Hz P Q i))=some (aS ((FOf f hf).Hz P Q (i+1))) from ?_),Tre.aL,aX (by omega)]
  have h0:(FOf f hf).Hz P Q i=jM ((FOf f hf).Hz P Q i) (List.replicate i 0++((FOf f hf).aaT i (cf P i) Q).take 0):=by rw [List.take_zero,List.append_nil,aqJ _ _ (by rw [holen _ (by omega)];omega)]
  conv=>lhs;rw [h0]
  refine cZ (fun j=>((j:Int),aS (jM ((FOf f hf).Hz P Q i) (List.replicate i 0++((FOf f hf).aaT i (cf P i) Q).take j)))) Q.length _ (fun j hj=>?_) ?_
  ·obtain ⟨c1,c2,c3⟩:=aqM hf (hoin i) (arI _ i (cf P i) Q) (i:=i) (by rw [holen _ (by omega),hrl];omega) (j:=j) (by omega)
   have hij:aO .i64 ((i:Int)+(j:Int))=((i+j:Nat):Int):=by rw [dN (by omega) (by omega)];omega
   have hqj:=pq hQ j
   unfold lF
   dsimp only
   rw [Tre.aG,decide_eq_true (by rw [aW];omega),cond_true,hij,dB c1,dB hpi,dB (dG (eT hj)),ah (ai7 hf hqj i),ah (ai4 hf (pq hP i) ((FOf f hf).Nh i hqj)),dB c1,← arH,c2,Int.toNat_natCast,c3,Tre.aL,aX (by omega)]
  ·unfold lF
   dsimp only
   rw [aW,dF,Tre.aL,List.take_of_length_le (by omega)]
   rfl
 ·unfold lD
  dsimp only
  rw [aW,dF,Tre.aL]
noncomputable def mP:Env:=⟨tau,[(56,yJ),(68,vQ),(126,Vg)],[]⟩
noncomputable def qj:Code:=(Tryz.f102.body).getD .skip
noncomputable def zG (z8_0:Bool) (z8_1:Bool) (h8_0_0:(List Int)) (h8_0_1:(List Int)) (h8_0_2:Int) (h8_0_4:(Int×(Int×Unit))):(Int×(List Int))→St:=fun x=>bR [(1,(.imm z8_0 (.sl (.int .i64)) h8_0_0)),(2,(.imm z8_1 (.sl (.int .i64)) h8_0_1)),(3,(.ptr (5,0) [])),(7,(.ref (9,0) [])),(8,(.imm true (.int .i64) h8_0_2)),(9,(.imm true (.int .i64) x.1))] [((5,0),some ⟨true,aM,.own,h8_0_4⟩),((9,0),some ⟨false,(.sl (.int .i64)),.own,x.2⟩)]
noncomputable def xW (z8_0:Bool) (z8_1:Bool) (h8_0_0:(List Int)) (h8_0_1:(List Int)) (h8_0_2:Int) (h8_0_4:(Int×(Int×Unit))):(List Int)→Ex×St:=fun x=>(.exit 2,bR [(1,(.imm z8_0 (.sl (.int .i64)) h8_0_0)),(2,(.imm z8_1 (.sl (.int .i64)) h8_0_1)),(3,(.ptr (5,0) [])),(7,(.ref (9,0) [])),(8,(.imm true (.int .i64) h8_0_2))] [((5,0),some ⟨true,aM,.own,h8_0_4⟩),((9,0),some ⟨false,(.sl (.int .i64)),.own,x⟩)])
noncomputable def L8 (s:St):Tre (Ex×St) :=
 bH (.sl (.int .i64)) (s.tmps 1) fun z3 d2 =>
 bH (.sl (.int .i64)) (s.tmps 2) fun z6 d5 =>
 dW (5,0) [] (s.tmps 3) <|
 dz (9,0) [] (s.tmps 7) <|
 aC true (.int .i64) (s.tmps 8) fun d10 =>
 aC true (.int .i64) (s.tmps 9) fun d12 =>
 bD true aM (s.roots (5,0)) fun m14 d15 =>
 asM .own m14 <|
 bD false (.sl (.int .i64)) (s.roots (9,0)) fun m17 d18 =>
 asM .own m17 <|
 .mat (aR (lF d2 d5 d10 d15) (d12,d18)) fun x=>.ret (xW z3 z6 d2 d5 d10 d15 x)
noncomputable def kW:bJ:=⟨([1,2,3,7,8,9],[(5,0),(9,0)]),([1,2,3,7,8],[(5,0),(9,0)]),L8⟩
noncomputable def zF (z5_0:Bool) (z5_1:Bool) (h5_0_0:(List Int)) (h5_0_1:(List Int)) (h5_0_3:(Int×(Int×Unit))):(Int×(List Int))→St:=fun x=>bR [(1,(.imm z5_0 (.sl (.int .i64)) h5_0_0)),(2,(.imm z5_1 (.sl (.int .i64)) h5_0_1)),(3,(.ptr (5,0) [])),(7,(.ref (9,0) [])),(8,(.imm true (.int .i64) x.1))] [((5,0),some ⟨true,aM,.own,h5_0_3⟩),((9,0),some ⟨false,(.sl (.int .i64)),.own,x.2⟩)]
noncomputable def xV (_z5_0:Bool) (_z5_1:Bool) (_h5_0_0:(List Int)) (_h5_0_1:(List Int)) (_h5_0_3:(Int×(Int×Unit))):(List Int)→Ex×St:=fun x=>(.exit 0,bR [(7,(.ref (9,0) []))] [((9,0),some ⟨false,(.sl (.int .i64)),.own,x⟩)])
noncomputable def L6 (s:St):Tre (Ex×St) :=
 bH (.sl (.int .i64)) (s.tmps 1) fun z3 d2 =>
 bH (.sl (.int .i64)) (s.tmps 2) fun z6 d5 =>
 dW (5,0) [] (s.tmps 3) <|
 dz (9,0) [] (s.tmps 7) <|
 aC true (.int .i64) (s.tmps 8) fun d10 =>
 bD true aM (s.roots (5,0)) fun m12 d13 =>
 asM .own m12 <|
 bD false (.sl (.int .i64)) (s.roots (9,0)) fun m15 d16 =>
 asM .own m15 <|
 .mat (aR (lD d2 d5 d13) (d10,d16)) fun x=>.ret (xV z3 z6 d2 d5 d13 x)
noncomputable def kV:bJ:=⟨([1,2,3,7,8],[(5,0),(9,0)]),([7],[(9,0)]),L6⟩
noncomputable def qh:List (Nat×bJ):=[(8,kW),(5,kV)]
theorem Vb:∀ (z8_0:Bool) (z8_1:Bool) (h8_0_0:(List Int)) (h8_0_1:(List Int)) (h8_0_2:Int) (h8_0_4:(Int×(Int×Unit))) (x:(Int×(List Int))) (c:St→Option (Ex×St)),den mP qh (aY qj 1) (zG z8_0 z8_1 h8_0_0 h8_0_1 h8_0_2 h8_0_4 x) (bV kW.kp kW.kx c)=(lF h8_0_0 h8_0_1 h8_0_2 h8_0_4 x).run (bW (zG z8_0 z8_1 h8_0_0 h8_0_1 h8_0_2 h8_0_4) (xW z8_0 z8_1 h8_0_0 h8_0_1 h8_0_2 h8_0_4) c):=fun _ _ _ _ _ _ _ _=>by
 kernel_rfl
theorem Y8:bS mP qh (aY qj 1) kW:=bA fun s e s' h=>by
 generalize hs:restrict kW.kp s=s1 at h
 have h:(L8 s1).run some=some (e,s'):=h
 obtain ⟨z3,d2,e1,h_0⟩:=aF h
 obtain ⟨z6,d5,e4,h_1⟩:=aF h_0
 obtain ⟨e7,h_2⟩:=bI h_1
 obtain ⟨e8,h_3⟩:=bf h_2
 obtain ⟨d10,e9,h_4⟩:=ak h_3
 obtain ⟨d12,e11,h_5⟩:=ak h_4
 obtain ⟨m14,d15,e13,h_6⟩:=aH h_5
 obtain ⟨rfl,h_7⟩:=aQ h_6
 obtain ⟨m17,d18,e16,h_8⟩:=aH h_7
 obtain ⟨rfl,h_9⟩:=aQ h_8
 obtain ⟨y,hy,hz⟩:=bT h_9
 refine ⟨_,_,zG z3 z6 d2 d5 d10 d15,xW z3 z6 d2 d5 d10 d15,lF d2 d5 d10 d15,(d12,d18),y,?_,hy,?_,Vb z3 z6 d2 d5 d10 d15⟩
 ·subst hs;exact aT (T:=[(1,(.imm z3 (.sl (.int .i64)) d2)),(2,(.imm z6 (.sl (.int .i64)) d5)),(3,(.ptr (5,0) [])),(7,(.ref (9,0) [])),(8,(.imm true (.int .i64) d10)),(9,(.imm true (.int .i64) d12))]) (U:=[((5,0),some ⟨true,aM,.own,d15⟩),((9,0),some ⟨false,(.sl (.int .i64)),.own,d18⟩)]) rfl rfl ⟨e1,e4,e7,e8,e9,e11,trivial⟩ ⟨e13,e16,trivial⟩
 ·exact Option.some.inj hz
theorem Va:∀ (z5_0:Bool) (z5_1:Bool) (h5_0_0:(List Int)) (h5_0_1:(List Int)) (h5_0_3:(Int×(Int×Unit))) (x:(Int×(List Int))) (c:St→Option (Ex×St)),den mP qh (aY qj 0) (zF z5_0 z5_1 h5_0_0 h5_0_1 h5_0_3 x) (bV kV.kp kV.kx c)=(lD h5_0_0 h5_0_1 h5_0_3 x).run (bW (zF z5_0 z5_1 h5_0_0 h5_0_1 h5_0_3) (xV z5_0 z5_1 h5_0_0 h5_0_1 h5_0_3) c):=fun _ _ _ _ _ _ _=>by
 kernel_rfl
theorem Y7:bS mP qh (aY qj 0) kV:=bA fun s e s' h=>by
 generalize hs:restrict kV.kp s=s1 at h
 have h:(L6 s1).run some=some (e,s'):=h
 obtain ⟨z3,d2,e1,h_0⟩:=aF h
 obtain ⟨z6,d5,e4,h_1⟩:=aF h_0
 obtain ⟨e7,h_2⟩:=bI h_1
 obtain ⟨e8,h_3⟩:=bf h_2
 obtain ⟨d10,e9,h_4⟩:=ak h_3
 obtain ⟨m12,d13,e11,h_5⟩:=aH h_4
 obtain ⟨rfl,h_6⟩:=aQ h_5
 obtain ⟨m15,d16,e14,h_7⟩:=aH h_6
 obtain ⟨rfl,h_8⟩:=aQ h_7
 obtain ⟨y,hy,hz⟩:=bT h_8
 refine ⟨_,_,zF z3 z6 d2 d5 d13,xV z3 z6 d2 d5 d13,lD d2 d5 d13,(d10,d16),y,?_,hy,?_,Va z3 z6 d2 d5 d13⟩
 ·subst hs;exact aT (T:=[(1,(.imm z3 (.sl (.int .i64)) d2)),(2,(.imm z6 (.sl (.int .i64)) d5)),(3,(.ptr (5,0) [])),(7,(.ref (9,0) [])),(8,(.imm true (.int .i64) d10))]) (U:=[((5,0),some ⟨true,aM,.own,d13⟩),((9,0),some ⟨false,(.sl (.int .i64)),.own,d16⟩)]) rfl rfl ⟨e1,e4,e7,e8,e9,trivial⟩ ⟨e11,e14,trivial⟩
 ·exact Option.some.inj hz
noncomputable def U8:FnI:=⟨qj,Tryz.f102.results.toList,Tryz.f102.resultTypes.toList,qh⟩
noncomputable def Oz (_zp0:Bool) (_zp1:Bool) (_p0:(Int×(Int×Unit))) (_p1:(List Int)) (_p2:(List Int)):(List Int)→aB:=fun r=>⟨(.ref (1,0) []),[],[⟨false,(.sl (.int .i64)),.own,r⟩]⟩
theorem af5:∀ (zp0:Bool) (zp1:Bool) (p0:(Int×(Int×Unit))) (p1:(List Int)) (p2:(List Int)),bQ mP U8 ⟨[(.imm true aM p0),(.imm zp0 (.sl (.int .i64)) p1),(.imm zp1 (.sl (.int .i64)) p2)],[]⟩=(Qf p0 p1 p2).run fun r=>some (Oz zp0 zp1 p0 p1 p2 r):=fun _ _ _ _ _=>by kernel_rfl
noncomputable def U7 (av:List AV) (rs:List Root):Tre aB :=
 aJ av fun a0_ av0 =>
 aJ av0 fun a1_ av1 =>
 aJ av1 fun a2_ av2 =>
 aU av2 <|
 aU rs <|
 aC true aM a0_ fun d1 =>
 bH (.sl (.int .i64)) a1_ fun z3 d2 =>
 bH (.sl (.int .i64)) a2_ fun z5 d4 =>
 .mat (Bz d1 d2 d4) fun r=>.ret (Oz z3 z5 d1 d2 d4 r)
noncomputable def U9:Ctr:=⟨[],fun ci=>U7 ci.args ci.roots,false⟩
theorem ads:bP Tryz.prog .none mP:=(aA Bw aqQ (aA vR ag2 (aA abn at1 aP)))
theorem af6:Contract Tryz.prog .none 102 U9:=by
 have hl:aZ mP qh qj:=(bC (n:=2) (by kernel_rfl) fun k hk=>by
   match k,hk with
   |0,_=>exact bq (id:=5) (L:=kV) (by kernel_rfl) (by kernel_rfl) Y7
   |1,_=>exact bq (id:=8) (L:=kW) (by kernel_rfl) (by kernel_rfl) Y8)
 refine (aI (F:=U8) bn ads Tryz.func102 (by kernel_rfl) (by kernel_rfl) (by kernel_rfl) hl []).weaken ?_
 rintro ⟨av,rs⟩ co h
 have h:(U7 av rs).run some=some co:=h
 obtain ⟨a0_,av0,rfl,h_0⟩:=au h
 obtain ⟨a1_,av1,rfl,h_1⟩:=au h_0
 obtain ⟨a2_,av2,rfl,h_2⟩:=au h_1
 obtain ⟨rfl,h_3⟩:=ay h_2
 obtain ⟨rfl,h_4⟩:=ay h_3
 obtain ⟨d1,rfl,h_5⟩:=ak h_4
 obtain ⟨z3,d2,rfl,h_6⟩:=aF h_5
 obtain ⟨z5,d4,rfl,h_7⟩:=aF h_6
 exact bK (af5 z3 z5 d1 d2 d4) h_7
noncomputable def gU (h2_0_0:(List Int)) (h2_0_1:Bool) (h2_0_2:Int) (h2_0_3:(Int×(Int×Unit))):((List Int)×(List Int))→Tre (((List Int)×(List Int)) ⊕ ((List Int)×(List Int))):=fun s2 =>
 .cond (decide ((s2.2.length:Int) ≥ (h2_0_0.length:Int)))
  (let v3:=aO .i64 ((s2.2.length:Int) - (h2_0_0.length:Int))
  .ite (((.int .i64):K)=(.int .i64)∧0≤aO .i64 (v3+1)∧aO .i64 (v3+1)=aO .i64 (v3+1)∧aO .i64 (v3+1) * (8:Nat)≤140737488355328∧1≤8) <|
  let v4:=aO .i64 ((s2.2.length:Int) - 1)
  .ite (0≤v4∧v4 < (s2.2.length:Int)) <|
  .mat (s2.2[v4.toNat]?) fun x5 =>
  .cond h2_0_1
   (.ite (0≤h2_0_2∧h2_0_2 < (h2_0_0.length:Int)) <|
   .mat (h2_0_0[h2_0_2.toNat]?) fun x6 =>
   .mat (fV h2_0_3 x6 v3) fun r7 =>
   .mat (bZ h2_0_3 r7) fun r8 =>
   .mat (bX h2_0_3 x5 r8) fun r9 =>
   .ite (0≤v3∧v3 < ((List.replicate (aO .i64 (v3+1)).toNat (0:Int)).length:Int)) <|
   .mat ((List.replicate (aO .i64 (v3+1)).toNat (0:Int))[v3.toNat]?) fun _ =>
   let v11:=(List.replicate (aO .i64 (v3+1)).toNat (0:Int)).set v3.toNat r9
   .mat (nM h2_0_3 v11 h2_0_0) fun r12 =>
   .mat (Jy s2.2 r12) fun r13 =>
   .mat (Jy s2.1 v11) fun r14 =>
   .ret (.inl (r14,r13)))
   (.ite (0≤h2_0_2∧h2_0_2 < (h2_0_0.length:Int)) <|
   .mat (h2_0_0[h2_0_2.toNat]?) fun x15 =>
   .mat (bZ h2_0_3 x15) fun r16 =>
   .mat (bX h2_0_3 x5 r16) fun r17 =>
   .mat (Av h2_0_3 r17 h2_0_2) fun r18 =>
   .ite (0≤v3∧v3 < ((List.replicate (aO .i64 (v3+1)).toNat (0:Int)).length:Int)) <|
   .mat ((List.replicate (aO .i64 (v3+1)).toNat (0:Int))[v3.toNat]?) fun _ =>
   let v20:=(List.replicate (aO .i64 (v3+1)).toNat (0:Int)).set v3.toNat r18
   .mat (nM h2_0_3 h2_0_0 v20) fun r21 =>
   .mat (Jy s2.2 r21) fun r22 =>
   .mat (Jy s2.1 v20) fun r23 =>
   .ret (.inl (r23,r22))))
  (.ret (.inr (s2.1,s2.2)))
noncomputable def Iw (p0:(Int×(Int×Unit))) (p1:(List Int)) (p2:(List Int)) (p3:Bool):Tre ((List Int)×(List Int)) :=
 .mat (fD p1) fun r1 =>
 let v2:=aO .i64 ((p2.length:Int) - 1)
 .mat (aR (gU p2 p3 v2 p0) ([],r1)) fun l24 =>
 .ret (l24.1,l24.2)
noncomputable def wG (p0:(Int×(Int×Unit))) (p1:(List Int)) (p2:(List Int)) (p3:Bool):Option ((List Int)×(List Int)):=(Iw p0 p1 p2 p3).run some
-- more
theorem aqZ {f:TF3} (hf:aN f=true) {V:List Nat} (hV:inL (FOf f hf) V) (h0:cf V (V.length - 1)≠0):∃ iv:Nat,Ag f (cf V (V.length - 1):Int)=(iv:Int)∧iv < (FOf f hf).q∧(FOf f hf).mul (cf V (V.length - 1)) iv=1:=by
 obtain ⟨iv,h1,h2,h3⟩:=ayF hf (pq hV (V.length - 1))
 exact ⟨iv,h1,h2,h3 h0⟩
theorem arQ (k c:Nat):(List.replicate (k+1) (0:Int)).set k (c:Int)=aS (uK k c):=by
 unfold uK
 rw [TU,CQ]
theorem agV {A R V:List Nat} {c M:Nat} (hA:A.length≤M) (hR:R.length≤M) (hn:0 < V.length) (hl:V.length≤R.length) (F:FO) :
  (bY (jM A (uK (R.length - V.length) c))).length≤M∧(bY (F.zN V (uK (R.length - V.length) c))).length≤M∧(uK (R.length - V.length) c).length≤M:=by
 have h1:=lg (jM A (uK (R.length - V.length) c))
 rw [Nk,V9] at h1
 have h2:=lg (F.zN V (uK (R.length - V.length) c))
 have h3:=F.akv V (uK (R.length - V.length) c) (List.length_pos_iff.1 hn) (by intro h;have:=V9 (R.length - V.length) c;rw [h] at this;simp at this)
 rw [V9] at h3
 rw [V9]
 omega
theorem asy {f:TF3} (hf:aN f=true) {N V:List Nat} (hV:inL (FOf f hf) V) (hn:V≠[]) (ht:cf V (V.length - 1)≠0):∀ (m:Nat) (A R:List Nat),R.length≤m→A.length≤100→R.length≤100→V.length≤100→RI (FOf f hf) N V A R →
  ∃ A' R',aR (gU (aS V) false ((V.length - 1:Nat):Int) f) (aS A,aS R)=some (aS A',aS R')∧RI (FOf f hf) N V A' R'∧R'.length < V.length∧A'.length≤100:=by
 have hvl:0 < V.length:=List.length_pos_iff.2 hn
 obtain ⟨iv,hi1,hi2,hi3⟩:=aqZ hf hV ht
 intro m
 induction m with
 |zero =>
  intro A R hm hA hR hV2 h
  refine ⟨A,R,fu ?_,h,by omega,hA⟩
  unfold gU
  dsimp only
  rw [Tre.aG,decide_eq_false (by rw [aW,aW];omega),cond_false,Tre.aL]
 |succ m ih =>
  intro A R hm hA hR hV2 h
  by_cases hl:V.length≤R.length
  ·obtain ⟨hc,hD,hlt⟩:=anC hf hV h hn hl hi2 hi3
   obtain ⟨b1,b2,b3⟩:=agV (c:=(FOf f hf).sqn (XE f.1.toNat (V.length - 1)) ((FOf f hf).mul (cf R (R.length - 1)) iv)) hA hR hvl hl (FOf f hf)
   obtain ⟨A',R',h1,h2,h3,h4⟩:=ih _ _ (by omega) b1 (by omega) hV2 hD
   refine ⟨A',R',?_,h2,h3,h4⟩
   rw [← h1]
   refine mJ ?_
   have hk:aO .i64 (((aS R).length:Int) - ((aS V).length:Int))=((R.length - V.length:Nat):Int):=by rw [aW,aW,dN (by omega) (by omega)];omega
   have hr:aO .i64 (((aS R).length:Int) - 1)=((R.length - 1:Nat):Int):=by rw [aW];exact gM (by omega) (by omega)
   have hk1:aO .i64 (((R.length - V.length:Nat):Int)+1)=((R.length - V.length+1:Nat):Int):=aX (by omega)
   have hrl:=pq h.ir (R.length - 1)
   have hml:=(FOf f hf).lt (cf R (R.length - 1)) iv
   unfold gU
   dsimp only
   rw [Tre.aG,decide_eq_true (by rw [aW,aW];omega),cond_true,hk,hk1,Tre.run_ite,if_pos ⟨rfl,by omega,rfl,by omega,by omega⟩,hr,dB (dG (eT (show R.length - 1 < R.length by omega))),Tre.aG,cond_false]
   rw [dB (dG (eT (show V.length - 1 < V.length by omega))),ah (aqX hf ((Xt hf).2 ⟨_,rfl,pq hV _⟩)),hi1,ah (alZ hf hrl hi2),ah (auy hf hml _),Int.toNat_natCast]
   rw [dB (show (List.replicate (R.length - V.length+1) (0:Int))[R.length - V.length]?=some 0 by rw [List.getElem?_replicate,if_pos (by omega)]),Int.toNat_natCast,arQ]
   rw [ah (an6 hf hV (VD hc) (by omega) (by omega)),ah (aoa hf h.ir (vD (ahG _ _)) (by omega) (by omega)),ah (aoa hf h.ia (VD hc) (by omega) (by omega)),Tre.aL]
  ·refine ⟨A,R,fu ?_,h,by omega,hA⟩
   unfold gU
   dsimp only
   rw [Tre.aG,decide_eq_false (by rw [aW,aW];omega),cond_false,Tre.aL]
theorem RI.start {F:FO} {N V:List Nat} (hN:inL F N) (ht:Im N):RI F N V [] N:=⟨fun x hx=>absurd hx List.not_mem_nil,hN,fun h=>absurd rfl h,ht,fun i=>by rw [show F.fB V (cf []) i=0 from anu Ai,Nat.zero_xor]⟩
theorem aqb {f:TF3} (hf:aN f=true) {N V:List Nat} (hN:inL (FOf f hf) N) (hV:inL (FOf f hf) V) (hn:V≠[]) (htV:Im V) (htN:Im N) (hNl:N.length≤100) (hVl:V.length≤100) :
  ∃ A R,wG f (aS N) (aS V) false=some (aS A,aS R)∧RI (FOf f hf) N V A R∧R.length < V.length∧A.length≤100:=by
 have hvl:0 < V.length:=List.length_pos_iff.2 hn
 obtain ⟨A,R,h1,h2,h3,h4⟩:=asy hf hV hn (htV hn) N.length [] N (Nat.le_refl _) (Nat.zero_le _) hNl hVl (RI.start hN htN)
 refine ⟨A,R,?_,h2,h3,h4⟩
 have hd:aO .i64 (((aS V).length:Int) - 1)=((V.length - 1:Nat):Int):=by rw [aW];exact gM (by omega) (by omega)
 rw [show aS []=[] from rfl] at h1
 unfold wG Iw
 dsimp only
 rw [ah (show fD (aS N)=some (aS N) from JG (by rw [aW];omega)),hd,ah h1,Tre.aL]
noncomputable def pz:Env:=⟨tau,[(65,kH),(62,lZ),(76,Ar),(75,ow),(70,KZ),(77,anY),(78,Ti)],[(1000002,[((14,0),[],false)])]⟩
noncomputable def wH:Code:=(Tryz.f47.body).getD .skip
noncomputable def uS (z2_0:Bool) (h2_0_0:(List Int)) (h2_0_1:Bool) (h2_0_2:Int) (h2_0_3:(Int×(Int×Unit))):((List Int)×(List Int))→St:=fun x=>bR [(2,(.imm z2_0 (.sl (.int .i64)) h2_0_0)),(3,(.imm true .bool h2_0_1)),(4,(.ptr (6,0) [])),(10,(.ref (12,0) [])),(11,(.ref (13,0) [])),(12,(.imm true (.int .i64) h2_0_2))] [((6,0),some ⟨true,aM,.own,h2_0_3⟩),((12,0),some ⟨false,(.sl (.int .i64)),.own,x.1⟩),((13,0),some ⟨false,(.sl (.int .i64)),.own,x.2⟩)]
noncomputable def tF (_z2_0:Bool) (_h2_0_0:(List Int)) (_h2_0_1:Bool) (_h2_0_2:Int) (_h2_0_3:(Int×(Int×Unit))):((List Int)×(List Int))→Ex×St:=fun x=>(.exit 0,bR [(10,(.ref (12,0) [])),(11,(.ref (13,0) []))] [((12,0),some ⟨false,(.sl (.int .i64)),.own,x.1⟩),((13,0),some ⟨false,(.sl (.int .i64)),.own,x.2⟩)])
noncomputable def Gn (s:St):Tre (Ex×St) :=
 bH (.sl (.int .i64)) (s.tmps 2) fun z3 d2 =>
 aC true .bool (s.tmps 3) fun d5 =>
 dW (6,0) [] (s.tmps 4) <|
 dz (12,0) [] (s.tmps 10) <|
 dz (13,0) [] (s.tmps 11) <|
 aC true (.int .i64) (s.tmps 12) fun d10 =>
 bD true aM (s.roots (6,0)) fun m12 d13 =>
 asM .own m12 <|
 bD false (.sl (.int .i64)) (s.roots (12,0)) fun m15 d16 =>
 asM .own m15 <|
 bD false (.sl (.int .i64)) (s.roots (13,0)) fun m18 d19 =>
 asM .own m18 <|
 .mat (aR (gU d2 d5 d10 d13) (d16,d19)) fun x=>.ret (tF z3 d2 d5 d10 d13 x)
noncomputable def jw:bJ:=⟨([2,3,4,10,11,12],[(6,0),(12,0),(13,0)]),([10,11],[(12,0),(13,0)]),Gn⟩
noncomputable def wF:List (Nat×bJ):=[(2,jw)]
theorem O9:∀ (z2_0:Bool) (h2_0_0:(List Int)) (h2_0_1:Bool) (h2_0_2:Int) (h2_0_3:(Int×(Int×Unit))) (x:((List Int)×(List Int))) (c:St→Option (Ex×St)),den pz wF (aY wH 0) (uS z2_0 h2_0_0 h2_0_1 h2_0_2 h2_0_3 x) (bV jw.kp jw.kx c)=(gU h2_0_0 h2_0_1 h2_0_2 h2_0_3 x).run (bW (uS z2_0 h2_0_0 h2_0_1 h2_0_2 h2_0_3) (tF z2_0 h2_0_0 h2_0_1 h2_0_2 h2_0_3) c):=fun _ _ _ _ _ _ _=>by
 kernel_rfl
theorem SX:bS pz wF (aY wH 0) jw:=bA fun s e s' h=>by
 generalize hs:restrict jw.kp s=s1 at h
 have h:(Gn s1).run some=some (e,s'):=h
 obtain ⟨z3,d2,e1,h_0⟩:=aF h
 obtain ⟨d5,e4,h_1⟩:=ak h_0
 obtain ⟨e6,h_2⟩:=bI h_1
 obtain ⟨e7,h_3⟩:=bf h_2
 obtain ⟨e8,h_4⟩:=bf h_3
 obtain ⟨d10,e9,h_5⟩:=ak h_4
 obtain ⟨m12,d13,e11,h_6⟩:=aH h_5
 obtain ⟨rfl,h_7⟩:=aQ h_6
 obtain ⟨m15,d16,e14,h_8⟩:=aH h_7
 obtain ⟨rfl,h_9⟩:=aQ h_8
 obtain ⟨m18,d19,e17,h_10⟩:=aH h_9
 obtain ⟨rfl,h_11⟩:=aQ h_10
 obtain ⟨y,hy,hz⟩:=bT h_11
 refine ⟨_,_,uS z3 d2 d5 d10 d13,tF z3 d2 d5 d10 d13,gU d2 d5 d10 d13,(d16,d19),y,?_,hy,?_,O9 z3 d2 d5 d10 d13⟩
 ·subst hs;exact aT (T:=[(2,(.imm z3 (.sl (.int .i64)) d2)),(3,(.imm true .bool d5)),(4,(.ptr (6,0) [])),(10,(.ref (12,0) [])),(11,(.ref (13,0) [])),(12,(.imm true (.int .i64) d10))]) (U:=[((6,0),some ⟨true,aM,.own,d13⟩),((12,0),some ⟨false,(.sl (.int .i64)),.own,d16⟩),((13,0),some ⟨false,(.sl (.int .i64)),.own,d19⟩)]) rfl rfl ⟨e1,e4,e6,e7,e8,e9,trivial⟩ ⟨e11,e14,e17,trivial⟩
 ·exact Option.some.inj hz
noncomputable def Nu:FnI:=⟨wH,Tryz.f47.results.toList,Tryz.f47.resultTypes.toList,wF⟩
noncomputable def Iy (_zp0:Bool) (_zp1:Bool) (_p0:(Int×(Int×Unit))) (_p1:(List Int)) (_p2:(List Int)) (_p3:Bool):((List Int)×(List Int))→aB:=fun r=>⟨(.tcons (.ref (1,0) []) (.tcons (.ref (1,1) []) .tnil)),[],[⟨false,(.sl (.int .i64)),.own,r.1⟩,⟨false,(.sl (.int .i64)),.own,r.2⟩]⟩
theorem ZF:∀ (zp0:Bool) (zp1:Bool) (p0:(Int×(Int×Unit))) (p1:(List Int)) (p2:(List Int)) (p3:Bool),bQ pz Nu ⟨[(.imm true aM p0),(.imm zp0 (.sl (.int .i64)) p1),(.imm zp1 (.sl (.int .i64)) p2),(.imm true .bool p3)],[]⟩=(Iw p0 p1 p2 p3).run fun r=>some (Iy zp0 zp1 p0 p1 p2 p3 r):=fun _ _ _ _ _ _=>by kernel_rfl
noncomputable def Nt (av:List AV) (rs:List Root):Tre aB :=
 aJ av fun a0_ av0 =>
 aJ av0 fun a1_ av1 =>
 aJ av1 fun a2_ av2 =>
 aJ av2 fun a3_ av3 =>
 aU av3 <|
 aU rs <|
 aC true aM a0_ fun d1 =>
 bH (.sl (.int .i64)) a1_ fun z3 d2 =>
 bH (.sl (.int .i64)) a2_ fun z5 d4 =>
 aC true .bool a3_ fun d6 =>
 .mat (wG d1 d2 d4 d6) fun r=>.ret (Iy z3 z5 d1 d2 d4 d6 r)
noncomputable def Nv:Ctr:=⟨[],fun ci=>Nt ci.args ci.roots,false⟩
theorem Yu:bP Tryz.prog .none pz:=(aA mU aqR (aA nO anL (aA Iz axu (aA pE akE (aA Yt azF (aA asu azI (aA afB azJ aP)))))))
theorem ZG:Contract Tryz.prog .none 47 Nv:=by
 have hl:aZ pz wF wH:=(bC (n:=1) (by kernel_rfl) fun k hk=>by
   match k,hk with
   |0,_=>exact bq (id:=2) (L:=jw) (by kernel_rfl) (by kernel_rfl) SX)
 refine (aI (F:=Nu) bn Yu Tryz.func47 (by kernel_rfl) (by kernel_rfl) (by kernel_rfl) hl []).weaken ?_
 rintro ⟨av,rs⟩ co h
 have h:(Nt av rs).run some=some co:=h
 obtain ⟨a0_,av0,rfl,h_0⟩:=au h
 obtain ⟨a1_,av1,rfl,h_1⟩:=au h_0
 obtain ⟨a2_,av2,rfl,h_2⟩:=au h_1
 obtain ⟨a3_,av3,rfl,h_3⟩:=au h_2
 obtain ⟨rfl,h_4⟩:=ay h_3
 obtain ⟨rfl,h_5⟩:=ay h_4
 obtain ⟨d1,rfl,h_6⟩:=ak h_5
 obtain ⟨z3,d2,rfl,h_7⟩:=aF h_6
 obtain ⟨z5,d4,rfl,h_8⟩:=aF h_7
 obtain ⟨d6,rfl,h_9⟩:=ak h_8
 exact bK (ZF z3 z5 d1 d2 d4 d6) h_9
noncomputable def nZ (h4_0_0:(List Int)) (h4_0_1:Int) (h4_0_2:(Int×(Int×Unit))):((List Int)×(List Int))→Tre (((List Int)×(List Int)) ⊕ ((List Int)×(List Int))):=fun s4 =>
 .cond (decide ((s4.2.length:Int) ≥ (h4_0_0.length:Int)))
  (let v4:=aO .i64 ((s4.2.length:Int) - (h4_0_0.length:Int))
  let v5:=aO .i64 ((s4.2.length:Int) - 1)
  .ite (0≤v5∧v5 < (s4.2.length:Int)) <|
  .mat (s4.2[v5.toNat]?) fun x6 =>
  .mat (dD h4_0_2 h4_0_1) fun r7 =>
  .mat (dH h4_0_2 x6 r7) fun r8 =>
  let v9:=aO .i64 ((h4_0_0.length:Int) - 1)
  .mat (Me h4_0_2 r8 v9) fun r10 =>
  .mat (Mf r10 v4) fun r11 =>
  .mat (J6 s4.1 r11) fun r12 =>
  .mat (Bz h4_0_2 h4_0_0 r11) fun r13 =>
  .mat (J6 s4.2 r13) fun r14 =>
  .ret (.inl (r12,r14)))
  (.ret (.inr (s4.1,s4.2)))
noncomputable def adv (p0:(Int×(Int×Unit))) (p1:(List Int)) (p2:(List Int)):Tre ((List Int)×(List Int)) :=
 .mat (fD p1) fun r1 =>
 let v2:=aO .i64 ((p2.length:Int) - 1)
 .ite (0≤v2∧v2 < (p2.length:Int)) <|
 .mat (p2[v2.toNat]?) fun x3 =>
 .mat (aR (nZ p2 x3 p0) ([],r1)) fun l15 =>
 .ret (l15.1,l15.2)
noncomputable def Mc (p0:(Int×(Int×Unit))) (p1:(List Int)) (p2:(List Int)):Option ((List Int)×(List Int)):=(adv p0 p1 p2).run some
-- more
theorem avk {c k:Nat} (hk:k≤1000):Mf (c:Int) (k:Int)=some (aS (uK k c)):=by
 have hk1:aO .i64 ((k:Int)+1)=((k+1:Nat):Int):=aX (by omega)
 unfold Mf adA
 rw [hk1,Tre.run_ite,if_pos ⟨rfl,by omega,rfl,by omega,by omega⟩,Int.toNat_natCast,dB (show (List.replicate (k+1) (0:Int))[k]?=some 0 by rw [List.getElem?_replicate,if_pos (by omega)])]
 dsimp only
 rw [Int.toNat_natCast,arQ,Tre.aL]
theorem as1 {f:TF3} (hf:aN f=true) {N V:List Nat} (hV:inL (FOf f hf) V) (hn:V≠[]) (ht:cf V (V.length - 1)≠0):∀ (m:Nat) (A R:List Nat),R.length≤m→A.length≤100→R.length≤100→V.length≤100→RI (FOf f hf) N V A R →
  ∃ A' R',aR (nZ (aS V) (cf V (V.length - 1):Int) f) (aS A,aS R)=some (aS A',aS R')∧RI (FOf f hf) N V A' R'∧R'.length < V.length∧A'.length≤100:=by
 have hvl:0 < V.length:=List.length_pos_iff.2 hn
 obtain ⟨iv,hi1,hi2,hi3⟩:=aqZ hf hV ht
 intro m
 induction m with
 |zero =>
  intro A R hm hA hR hV2 h
  refine ⟨A,R,fu ?_,h,by omega,hA⟩
  unfold nZ
  dsimp only
  rw [Tre.aG,decide_eq_false (by rw [aW,aW];omega),cond_false,Tre.aL]
 |succ m ih =>
  intro A R hm hA hR hV2 h
  by_cases hl:V.length≤R.length
  ·obtain ⟨hc,hD,hlt⟩:=anC hf hV h hn hl hi2 hi3
   obtain ⟨b1,b2,b3⟩:=agV (c:=(FOf f hf).sqn (XE f.1.toNat (V.length - 1)) ((FOf f hf).mul (cf R (R.length - 1)) iv)) hA hR hvl hl (FOf f hf)
   obtain ⟨A',R',h1,h2,h3,h4⟩:=ih _ _ (by omega) b1 (by omega) hV2 hD
   refine ⟨A',R',?_,h2,h3,h4⟩
   rw [← h1]
   refine mJ ?_
   have hk:aO .i64 (((aS R).length:Int) - ((aS V).length:Int))=((R.length - V.length:Nat):Int):=by rw [aW,aW,dN (by omega) (by omega)];omega
   have hr:aO .i64 (((aS R).length:Int) - 1)=((R.length - 1:Nat):Int):=by rw [aW];exact gM (by omega) (by omega)
   have hv:aO .i64 (((aS V).length:Int) - 1)=((V.length - 1:Nat):Int):=by rw [aW];exact gM (by omega) (by omega)
   have hrl:=pq h.ir (R.length - 1)
   have hml:=(FOf f hf).lt (cf R (R.length - 1)) iv
   unfold nZ
   dsimp only
   rw [Tre.aG,decide_eq_true (by rw [aW,aW];omega),cond_true,hk,hr,dB (dG (eT (show R.length - 1 < R.length by omega)))]
   rw [ah (arK hf ((Xt hf).2 ⟨_,rfl,pq hV _⟩)),hi1,ah (ai4 hf hrl hi2),hv,ah (avj hf hml _),ah (avk (by omega))]
   rw [ah (arO hf h.ia (VD hc) (by omega) (by omega)),ah (ao6 hf hV (VD hc) (by omega) (by omega)),ah (arO hf h.ir (vD (ahG _ _)) (by omega) (by omega)),Tre.aL]
  ·refine ⟨A,R,fu ?_,h,by omega,hA⟩
   unfold nZ
   dsimp only
   rw [Tre.aG,decide_eq_false (by rw [aW,aW];omega),cond_false,Tre.aL]
theorem avc {f:TF3} (hf:aN f=true) {N V:List Nat} (hN:inL (FOf f hf) N) (hV:inL (FOf f hf) V) (hn:V≠[]) (htV:Im V) (htN:Im N) (hNl:N.length≤100) (hVl:V.length≤100) :
  ∃ A R,Mc f (aS N) (aS V)=some (aS A,aS R)∧RI (FOf f hf) N V A R∧R.length < V.length∧A.length≤100:=by
 have hvl:0 < V.length:=List.length_pos_iff.2 hn
 obtain ⟨A,R,h1,h2,h3,h4⟩:=as1 hf hV hn (htV hn) N.length [] N (Nat.le_refl _) (Nat.zero_le _) hNl hVl (RI.start hN htN)
 refine ⟨A,R,?_,h2,h3,h4⟩
 have hd:aO .i64 (((aS V).length:Int) - 1)=((V.length - 1:Nat):Int):=by rw [aW];exact gM (by omega) (by omega)
 rw [show aS []=[] from rfl] at h1
 unfold Mc adv
 dsimp only
 rw [ah (show fD (aS N)=some (aS N) from JG (by rw [aW];omega)),hd,dB (dG (eT (show V.length - 1 < V.length by omega))),ah h1,Tre.aL]
noncomputable def EX:Env:=⟨tau,[(108,C9),(117,JU),(68,vQ),(128,ae1),(129,ae5),(130,aiP),(102,U9)],[]⟩
noncomputable def Md:Code:=(Tryz.f107.body).getD .skip
noncomputable def FT (z4_0:Bool) (h4_0_0:(List Int)) (h4_0_1:Int) (h4_0_2:(Int×(Int×Unit))):((List Int)×(List Int))→St:=fun x=>bR [(2,(.imm z4_0 (.sl (.int .i64)) h4_0_0)),(3,(.ptr (5,0) [])),(8,(.ref (10,0) [])),(9,(.ref (11,0) [])),(10,(.imm true (.int .i64) h4_0_1))] [((5,0),some ⟨true,aM,.own,h4_0_2⟩),((10,0),some ⟨false,(.sl (.int .i64)),.own,x.1⟩),((11,0),some ⟨false,(.sl (.int .i64)),.own,x.2⟩)]
noncomputable def Dc (_z4_0:Bool) (_h4_0_0:(List Int)) (_h4_0_1:Int) (_h4_0_2:(Int×(Int×Unit))):((List Int)×(List Int))→Ex×St:=fun x=>(.exit 0,bR [(8,(.ref (10,0) [])),(9,(.ref (11,0) []))] [((10,0),some ⟨false,(.sl (.int .i64)),.own,x.1⟩),((11,0),some ⟨false,(.sl (.int .i64)),.own,x.2⟩)])
noncomputable def Vd (s:St):Tre (Ex×St) :=
 bH (.sl (.int .i64)) (s.tmps 2) fun z3 d2 =>
 dW (5,0) [] (s.tmps 3) <|
 dz (10,0) [] (s.tmps 8) <|
 dz (11,0) [] (s.tmps 9) <|
 aC true (.int .i64) (s.tmps 10) fun d8 =>
 bD true aM (s.roots (5,0)) fun m10 d11 =>
 asM .own m10 <|
 bD false (.sl (.int .i64)) (s.roots (10,0)) fun m13 d14 =>
 asM .own m13 <|
 bD false (.sl (.int .i64)) (s.roots (11,0)) fun m16 d17 =>
 asM .own m16 <|
 .mat (aR (nZ d2 d8 d11) (d14,d17)) fun x=>.ret (Dc z3 d2 d8 d11 x)
noncomputable def ql:bJ:=⟨([2,3,8,9,10],[(5,0),(10,0),(11,0)]),([8,9],[(10,0),(11,0)]),Vd⟩
noncomputable def Ma:List (Nat×bJ):=[(4,ql)]
theorem abk:∀ (z4_0:Bool) (h4_0_0:(List Int)) (h4_0_1:Int) (h4_0_2:(Int×(Int×Unit))) (x:((List Int)×(List Int))) (c:St→Option (Ex×St)),den EX Ma (aY Md 0) (FT z4_0 h4_0_0 h4_0_1 h4_0_2 x) (bV ql.kp ql.kx c)=(nZ h4_0_0 h4_0_1 h4_0_2 x).run (bW (FT z4_0 h4_0_0 h4_0_1 h4_0_2) (Dc z4_0 h4_0_0 h4_0_1 h4_0_2) c):=fun _ _ _ _ _ _=>by
 kernel_rfl
theorem af7:bS EX Ma (aY Md 0) ql:=bA fun s e s' h=>by
 generalize hs:restrict ql.kp s=s1 at h
 have h:(Vd s1).run some=some (e,s'):=h
 obtain ⟨z3,d2,e1,h_0⟩:=aF h
 obtain ⟨e4,h_1⟩:=bI h_0
 obtain ⟨e5,h_2⟩:=bf h_1
 obtain ⟨e6,h_3⟩:=bf h_2
 obtain ⟨d8,e7,h_4⟩:=ak h_3
 obtain ⟨m10,d11,e9,h_5⟩:=aH h_4
 obtain ⟨rfl,h_6⟩:=aQ h_5
 obtain ⟨m13,d14,e12,h_7⟩:=aH h_6
 obtain ⟨rfl,h_8⟩:=aQ h_7
 obtain ⟨m16,d17,e15,h_9⟩:=aH h_8
 obtain ⟨rfl,h_10⟩:=aQ h_9
 obtain ⟨y,hy,hz⟩:=bT h_10
 refine ⟨_,_,FT z3 d2 d8 d11,Dc z3 d2 d8 d11,nZ d2 d8 d11,(d14,d17),y,?_,hy,?_,abk z3 d2 d8 d11⟩
 ·subst hs;exact aT (T:=[(2,(.imm z3 (.sl (.int .i64)) d2)),(3,(.ptr (5,0) [])),(8,(.ref (10,0) [])),(9,(.ref (11,0) [])),(10,(.imm true (.int .i64) d8))]) (U:=[((5,0),some ⟨true,aM,.own,d11⟩),((10,0),some ⟨false,(.sl (.int .i64)),.own,d14⟩),((11,0),some ⟨false,(.sl (.int .i64)),.own,d17⟩)]) rfl rfl ⟨e1,e4,e5,e6,e7,trivial⟩ ⟨e9,e12,e15,trivial⟩
 ·exact Option.some.inj hz
noncomputable def aeV:FnI:=⟨Md,Tryz.f107.results.toList,Tryz.f107.resultTypes.toList,Ma⟩
noncomputable def XT (_zp0:Bool) (_zp1:Bool) (_p0:(Int×(Int×Unit))) (_p1:(List Int)) (_p2:(List Int)):((List Int)×(List Int))→aB:=fun r=>⟨(.tcons (.ref (1,0) []) (.tcons (.ref (1,1) []) .tnil)),[],[⟨false,(.sl (.int .i64)),.own,r.1⟩,⟨false,(.sl (.int .i64)),.own,r.2⟩]⟩
theorem amG:∀ (zp0:Bool) (zp1:Bool) (p0:(Int×(Int×Unit))) (p1:(List Int)) (p2:(List Int)),bQ EX aeV ⟨[(.imm true aM p0),(.imm zp0 (.sl (.int .i64)) p1),(.imm zp1 (.sl (.int .i64)) p2)],[]⟩=(adv p0 p1 p2).run fun r=>some (XT zp0 zp1 p0 p1 p2 r):=fun _ _ _ _ _=>by kernel_rfl
noncomputable def aeU (av:List AV) (rs:List Root):Tre aB :=
 aJ av fun a0_ av0 =>
 aJ av0 fun a1_ av1 =>
 aJ av1 fun a2_ av2 =>
 aU av2 <|
 aU rs <|
 aC true aM a0_ fun d1 =>
 bH (.sl (.int .i64)) a1_ fun z3 d2 =>
 bH (.sl (.int .i64)) a2_ fun z5 d4 =>
 .mat (Mc d1 d2 d4) fun r=>.ret (XT z3 z5 d1 d2 d4 r)
noncomputable def aeW:Ctr:=⟨[],fun ci=>aeU ci.args ci.roots,false⟩
theorem aj0:bP Tryz.prog .none EX:=(aA ET acf (aA Rp atZ (aA vR ag2 (aA amK ayo (aA amN ayp (aA ao2 ayq (aA af6 ax9 aP)))))))
theorem amH:Contract Tryz.prog .none 107 aeW:=by
 have hl:aZ EX Ma Md:=(bC (n:=1) (by kernel_rfl) fun k hk=>by
   match k,hk with
   |0,_=>exact bq (id:=4) (L:=ql) (by kernel_rfl) (by kernel_rfl) af7)
 refine (aI (F:=aeV) bn aj0 Tryz.func107 (by kernel_rfl) (by kernel_rfl) (by kernel_rfl) hl []).weaken ?_
 rintro ⟨av,rs⟩ co h
 have h:(aeU av rs).run some=some co:=h
 obtain ⟨a0_,av0,rfl,h_0⟩:=au h
 obtain ⟨a1_,av1,rfl,h_1⟩:=au h_0
 obtain ⟨a2_,av2,rfl,h_2⟩:=au h_1
 obtain ⟨rfl,h_3⟩:=ay h_2
 obtain ⟨rfl,h_4⟩:=ay h_3
 obtain ⟨d1,rfl,h_5⟩:=ak h_4
 obtain ⟨z3,d2,rfl,h_6⟩:=aF h_5
 obtain ⟨z5,d4,rfl,h_7⟩:=aF h_6
 exact bK (amG z3 z5 d1 d2 d4) h_7
noncomputable def HV (p0:(Int×(Int×Unit))) (p1:(List Int)) (p2:(List Int)):Tre (Int×(List Int)×(List Int)) :=
 .mat (LZ p0 p1 p2) fun r1 =>
 .cond (!decide (r1=0))
  (.ret (r1,[],[]))
  (.mat (Mc p0 p1 p2) fun r2 =>
  .ret (0,r2.1,r2.2))
noncomputable def qd (p0:(Int×(Int×Unit))) (p1:(List Int)) (p2:(List Int)):Option (Int×(List Int)×(List Int)):=(HV p0 p1 p2).run some
noncomputable def JL:Env:=⟨tau,[(106,aeT),(107,aeW)],[]⟩
noncomputable def UF:Code:=(Tryz.f72.body).getD .skip
noncomputable def UE:FnI:=⟨UF,Tryz.f72.results.toList,Tryz.f72.resultTypes.toList,[]⟩
noncomputable def Ot (_zp0:Bool) (_zp1:Bool) (_p0:(Int×(Int×Unit))) (_p1:(List Int)) (_p2:(List Int)):(Int×(List Int)×(List Int))→aB:=fun r=>⟨(.tcons (.ref (1,0) []) (.tcons (.ref (1,1) []) (.tcons (.imm true (.int .i64) r.1) .tnil))),[],[⟨false,(.sl (.int .i64)),.own,r.2.1⟩,⟨false,(.sl (.int .i64)),.own,r.2.2⟩]⟩
theorem afW:∀ (zp0:Bool) (zp1:Bool) (p0:(Int×(Int×Unit))) (p1:(List Int)) (p2:(List Int)),bQ JL UE ⟨[(.imm true aM p0),(.imm zp0 (.sl (.int .i64)) p1),(.imm zp1 (.sl (.int .i64)) p2)],[]⟩=(HV p0 p1 p2).run fun r=>some (Ot zp0 zp1 p0 p1 p2 r):=fun _ _ _ _ _=>by kernel_rfl
noncomputable def UD (av:List AV) (rs:List Root):Tre aB :=
 aJ av fun a0_ av0 =>
 aJ av0 fun a1_ av1 =>
 aJ av1 fun a2_ av2 =>
 aU av2 <|
 aU rs <|
 aC true aM a0_ fun d1 =>
 bH (.sl (.int .i64)) a1_ fun z3 d2 =>
 bH (.sl (.int .i64)) a2_ fun z5 d4 =>
 .mat (qd d1 d2 d4) fun r=>.ret (Ot z3 z5 d1 d2 d4 r)
noncomputable def UG:Ctr:=⟨[],fun ci=>UD ci.args ci.roots,false⟩
theorem ada:bP Tryz.prog .none JL:=(aA amF aya (aA amH ayb aP))
theorem afX:Contract Tryz.prog .none 72 UG:=by
 have hl:aZ JL [] UF:=bB (by kernel_rfl)
 refine (aI (F:=UE) bn ada Tryz.func72 (by kernel_rfl) (by kernel_rfl) (by kernel_rfl) hl []).weaken ?_
 rintro ⟨av,rs⟩ co h
 have h:(UD av rs).run some=some co:=h
 obtain ⟨a0_,av0,rfl,h_0⟩:=au h
 obtain ⟨a1_,av1,rfl,h_1⟩:=au h_0
 obtain ⟨a2_,av2,rfl,h_2⟩:=au h_1
 obtain ⟨rfl,h_3⟩:=ay h_2
 obtain ⟨rfl,h_4⟩:=ay h_3
 obtain ⟨d1,rfl,h_5⟩:=ak h_4
 obtain ⟨z3,d2,rfl,h_6⟩:=aF h_5
 obtain ⟨z5,d4,rfl,h_7⟩:=aF h_6
 exact bK (afW z3 z5 d1 d2 d4) h_7
noncomputable def j5 (h6_0_1:(List Int)):(Int×(List Int))→Tre ((Int×(List Int)) ⊕ (List Int)):=fun s6 =>
 .cond (decide (s6.1 < (h6_0_1.length:Int)))
  (.ite (0≤s6.1∧s6.1 < (h6_0_1.length:Int)) <|
  .mat (h6_0_1[s6.1.toNat]?) fun x4 =>
  .ite (0≤s6.1∧s6.1 < (s6.2.length:Int)) <|
  .mat (s6.2[s6.1.toNat]?) fun _ =>
  let v6:=s6.2.set s6.1.toNat x4
  .ret (.inl (aO .i64 (s6.1+1),v6)))
  (.ret (.inr s6.2))
noncomputable def Nc (p0:(Int×(Int×Unit))) (p1:(List Int)) (p2:(List Int)) (p3:Int):Tre ((List Int)×Bool) :=
 .mat (E9 p1) fun r1 =>
 .mat (E9 p2) fun r2 =>
 .mat (qd p0 r1 r2) fun r3 =>
 .cond (!decide (r3.1=0))
  (.ret ([],false))
  (.cond (decide ((r3.2.2.length:Int) > 0))
   (.ret ([],false))
   (.cond (decide ((r3.2.1.length:Int) > p3))
    (.ret ([],false))
    (.ite (((.int .i64):K)=(.int .i64)∧0≤p3∧p3=p3∧p3 * (8:Nat)≤140737488355328∧1≤8) <|
    .mat (aR (j5 r3.2.1) (0,List.replicate p3.toNat (0:Int))) fun l7 =>
    .ret (l7,true))))
noncomputable def sG (p0:(Int×(Int×Unit))) (p1:(List Int)) (p2:(List Int)) (p3:Int):Option ((List Int)×Bool):=(Nc p0 p1 p2 p3).run some
-- more
theorem awJ {f:TF3} (hf:aN f=true) {L:List Nat} (h:inL (FOf f hf) L) (hl:L.length≤1000):yU f (aS L)=some true:=by
 unfold yU M8
 rw [ah (show aR (jW (aS L) f) 0=some (.inr ()) from ?_)]
 ·rfl
 refine cZ (fun i=>(i:Int)) L.length _ (fun i hi=>?_) ?_
 ·have hc:=pq h i
  have hin:inR (cf L i:Int) 0 (Xa f)=true:=by
   rw [ana] at hc
   rw [kP]
   unfold Xa
   have:((cf L i:Nat):Int) < ((2 ^ f.1.toNat:Nat):Int):=by exact_mod_cast hc
   have h2:((2 ^ f.1.toNat:Nat):Int)=(2:Int) ^ f.1.toNat:=by rw [Int.natCast_pow];rfl
   omega
  unfold jW
  rw [eu (dG (eT hi)),ah (abb hf),am2 hf]
  dsimp only
  rw [Tre.aG,hin,Bool.not_true,cond_false,Tre.aL,aX (by omega)]
 ·unfold jW
  rw [aW,dF,Tre.aL]
theorem arL {f:TF3} (hf:aN f=true) {L:List Nat} (h:inL (FOf f hf) L) (ht:Im L) (hl:L.length≤12):su f (aS L)=some true:=by
 have h1:V5 f (aS L)=some true:=by
  unfold V5 amI
  rw [Tre.aG,aW,decide_eq_true (by omega),cond_true,ah (awJ hf h (by omega)),Tre.aG,cond_true,Tre.aG]
  by_cases h0:L.length=0
  ·rw [decide_eq_true (by omega),cond_true,Tre.aL]
  ·have:=ht fun hh=>h0 (by rw [hh];rfl)
   have hp:aO .i64 ((L.length:Int) - 1)=((L.length - 1:Nat):Int):=gM (by omega) (by omega)
   have hll:(L.length:Int)=((aS L).length:Int):=by rw [aW]
   rw [decide_eq_false (by omega),cond_false]
   dsimp only
   rw [hp,hll,dB (dG (eT (show L.length - 1 < L.length by omega))),Tre.aL,decide_eq_false (by omega)]
   rfl
 unfold su M6
 rw [ah (aiA f),hf,Tre.aG,cond_true,ah h1,Tre.aL]
theorem ao5 {f:TF3} (hf:aN f=true) {N V:List Nat} (hN:inL (FOf f hf) N) (hV:inL (FOf f hf) V) (htV:Im V) (htN:Im N) (hNl:N.length≤12) (hVl:V.length≤12):LZ f (aS N) (aS V)=some (if V=[] then 4 else 0):=by
 unfold LZ adr
 rw [ah (arL hf hN htN hNl),Tre.aG,Bool.not_true,cond_false,ah (arL hf hV htV hVl),Tre.aG,Bool.not_true,cond_false,Tre.aG,aW]
 by_cases h:V=[]
 ·subst h;rfl
 ·have:=List.length_pos_iff.2 h
  rw [decide_eq_false (by omega),if_neg h];rfl
theorem au6 {f:TF3} (hf:aN f=true) {N V:List Nat} (hN:inL (FOf f hf) N) (hV:inL (FOf f hf) V) (hn:V≠[]) (htV:Im V) (htN:Im N) (hNl:N.length≤12) (hVl:V.length≤12) :
  ∃ A R,qd f (aS N) (aS V)=some (0,aS A,aS R)∧RI (FOf f hf) N V A R∧R.length < V.length∧A.length≤100:=by
 obtain ⟨A,R,h1,h2,h3,h4⟩:=avc hf hN hV hn htV htN (by omega) (by omega)
 refine ⟨A,R,?_,h2,h3,h4⟩
 unfold qd HV
 rw [ah (ao5 hf hN hV htV htN hNl hVl),if_neg hn,Tre.aG,decide_eq_true rfl,Bool.not_true,cond_false,ah h1,Tre.aL]
theorem as2 {f:TF3} (hf:aN f=true) {N:List Nat} (hN:inL (FOf f hf) N) (htN:Im N) (hNl:N.length≤12):qd f (aS N) (aS [])=some (4,[],[]):=by
 unfold qd HV
 rw [ah (ao5 hf hN (fun x hx=>absurd hx List.not_mem_nil) (fun h=>absurd rfl h) htN hNl (Nat.zero_le _)),if_pos rfl,Tre.aG,decide_eq_false (by decide),Bool.not_false,cond_true,Tre.aL]
theorem auT {A:List Nat} {k:Nat} (h:A.length≤k) (hk:k≤1000):aR (j5 (aS A)) (0,List.replicate k (0:Int))=some (aS (tY k A)):=by
 have hst:∀ i,i < A.length→(aS (A.take i++List.replicate (k - i) 0)).set i (cf A i:Int)=aS (A.take (i+1)++List.replicate (k - (i+1)) 0):=by
  intro i hi
  have hti:(A.take i).length=i:=by rw [List.length_take];omega
  rw [← TU,show k - i=(k - (i+1))+1 by omega,List.replicate_succ,List.set_append_right _ _ (by omega),hti,Nat.sub_self,List.set_cons_zero,List.take_add_one,eT hi,List.append_assoc]
  rfl
 have h0:List.replicate k (0:Int)=aS (A.take 0++List.replicate (k - 0) 0):=by rw [List.take_zero,List.nil_append,CQ,Nat.sub_zero]
 rw [h0]
 refine cZ (fun i=>((i:Int),aS (A.take i++List.replicate (k - i) 0))) A.length _ (fun i hi=>?_) ?_
 ·have hti:(A.take i).length=i:=by rw [List.length_take];omega
  have hx:(A.take i++List.replicate (k - i) 0)[i]?=some 0:=by
   rw [List.getElem?_append_right (by omega),hti,Nat.sub_self,List.getElem?_replicate,if_pos (by omega)]
  unfold j5
  dsimp only
  rw [eu (dG (eT hi)),dB (dG hx),Int.toNat_natCast,hst i hi,Tre.aL,aX (by omega)]
 ·unfold j5
  dsimp only
  rw [aW,dF,Tre.aL,List.take_length]
  rfl
noncomputable def sH:Env:=⟨tau,[(73,afl),(72,UG)],[(1000000,[((10,0),[],false)]),(1000002,[((10,0),[],false),((11,0),[],false)])]⟩
noncomputable def y5:Code:=(Tryz.f43.body).getD .skip
noncomputable def yj (h6_0_1:(List Int)):(Int×(List Int))→St:=fun x=>bR [(10,(.ref (23,0) [])),(13,(.ref (15,0) [])),(14,(.imm true (.int .i64) x.1))] [((23,0),some ⟨false,(.sl (.int .i64)),.own,h6_0_1⟩),((15,0),some ⟨false,(.sl (.int .i64)),.own,x.2⟩)]
noncomputable def wh (_h6_0_1:(List Int)):(List Int)→Ex×St:=fun x=>(.exit 0,bR [(13,(.ref (15,0) []))] [((15,0),some ⟨false,(.sl (.int .i64)),.own,x⟩)])
noncomputable def Kk (s:St):Tre (Ex×St) :=
 dz (23,0) [] (s.tmps 10) <|
 dz (15,0) [] (s.tmps 13) <|
 aC true (.int .i64) (s.tmps 14) fun d4 =>
 bD false (.sl (.int .i64)) (s.roots (23,0)) fun m6 d7 =>
 asM .own m6 <|
 bD false (.sl (.int .i64)) (s.roots (15,0)) fun m9 d10 =>
 asM .own m9 <|
 .mat (aR (j5 d7) (d4,d10)) fun x=>.ret (wh d7 x)
noncomputable def j6:bJ:=⟨([10,13,14],[(23,0),(15,0)]),([13],[(15,0)]),Kk⟩
noncomputable def yZ:List (Nat×bJ):=[(6,j6)]
theorem Sw:∀ (h6_0_1:(List Int)) (x:(Int×(List Int))) (c:St→Option (Ex×St)),den sH yZ (aY y5 0) (yj h6_0_1 x) (bV j6.kp j6.kx c)=(j5 h6_0_1 x).run (bW (yj h6_0_1) (wh h6_0_1) c):=fun _ _ _=>by
 kernel_rfl
theorem WX:bS sH yZ (aY y5 0) j6:=bA fun s e s' h=>by
 generalize hs:restrict j6.kp s=s1 at h
 have h:(Kk s1).run some=some (e,s'):=h
 obtain ⟨e1,h_0⟩:=bf h
 obtain ⟨e2,h_1⟩:=bf h_0
 obtain ⟨d4,e3,h_2⟩:=ak h_1
 obtain ⟨m6,d7,e5,h_3⟩:=aH h_2
 obtain ⟨rfl,h_4⟩:=aQ h_3
 obtain ⟨m9,d10,e8,h_5⟩:=aH h_4
 obtain ⟨rfl,h_6⟩:=aQ h_5
 obtain ⟨y,hy,hz⟩:=bT h_6
 refine ⟨_,_,yj d7,wh d7,j5 d7,(d4,d10),y,?_,hy,?_,Sw d7⟩
 ·subst hs;exact aT (T:=[(10,(.ref (23,0) [])),(13,(.ref (15,0) [])),(14,(.imm true (.int .i64) d4))]) (U:=[((23,0),some ⟨false,(.sl (.int .i64)),.own,d7⟩),((15,0),some ⟨false,(.sl (.int .i64)),.own,d10⟩)]) rfl rfl ⟨e1,e2,e3,trivial⟩ ⟨e5,e8,trivial⟩
 ·exact Option.some.inj hz
noncomputable def Rz:FnI:=⟨y5,Tryz.f43.results.toList,Tryz.f43.resultTypes.toList,yZ⟩
noncomputable def Ms (_zp0:Bool) (_zp1:Bool) (_p0:(Int×(Int×Unit))) (_p1:(List Int)) (_p2:(List Int)) (_p3:Int):((List Int)×Bool)→aB:=fun r=>⟨(.tcons (.imm true (.sl (.int .i64)) r.1) (.tcons (.imm true .bool r.2) .tnil)),[],[]⟩
theorem adH:∀ (zp0:Bool) (zp1:Bool) (p0:(Int×(Int×Unit))) (p1:(List Int)) (p2:(List Int)) (p3:Int),bQ sH Rz ⟨[(.imm true aM p0),(.imm zp0 (.sl (.int .i64)) p1),(.imm zp1 (.sl (.int .i64)) p2),(.imm true (.int .i64) p3)],[]⟩=(Nc p0 p1 p2 p3).run fun r=>some (Ms zp0 zp1 p0 p1 p2 p3 r):=fun _ _ _ _ _ _=>by kernel_rfl
noncomputable def Ry (av:List AV) (rs:List Root):Tre aB :=
 aJ av fun a0_ av0 =>
 aJ av0 fun a1_ av1 =>
 aJ av1 fun a2_ av2 =>
 aJ av2 fun a3_ av3 =>
 aU av3 <|
 aU rs <|
 aC true aM a0_ fun d1 =>
 bH (.sl (.int .i64)) a1_ fun z3 d2 =>
 bH (.sl (.int .i64)) a2_ fun z5 d4 =>
 aC true (.int .i64) a3_ fun d6 =>
 .mat (sG d1 d2 d4 d6) fun r=>.ret (Ms z3 z5 d1 d2 d4 d6 r)
noncomputable def RA:Ctr:=⟨[],fun ci=>Ry ci.args ci.roots,false⟩
theorem abx:bP Tryz.prog .none sH:=(aA amX azH (aA afX azG aP))
theorem adI:Contract Tryz.prog .none 43 RA:=by
 have hl:aZ sH yZ y5:=(bC (n:=1) (by kernel_rfl) fun k hk=>by
   match k,hk with
   |0,_=>exact bq (id:=6) (L:=j6) (by kernel_rfl) (by kernel_rfl) WX)
 refine (aI (F:=Rz) bn abx Tryz.func43 (by kernel_rfl) (by kernel_rfl) (by kernel_rfl) hl []).weaken ?_
 rintro ⟨av,rs⟩ co h
 have h:(Ry av rs).run some=some co:=h
 obtain ⟨a0_,av0,rfl,h_0⟩:=au h
 obtain ⟨a1_,av1,rfl,h_1⟩:=au h_0
 obtain ⟨a2_,av2,rfl,h_2⟩:=au h_1
 obtain ⟨a3_,av3,rfl,h_3⟩:=au h_2
 obtain ⟨rfl,h_4⟩:=ay h_3
 obtain ⟨rfl,h_5⟩:=ay h_4
 obtain ⟨d1,rfl,h_6⟩:=ak h_5
 obtain ⟨z3,d2,rfl,h_7⟩:=aF h_6
 obtain ⟨z5,d4,rfl,h_8⟩:=aF h_7
 obtain ⟨d6,rfl,h_9⟩:=ak h_8
 exact bK (adH z3 z5 d1 d2 d4 d6) h_9
end Go.Proofs.YtihiobjhogpmdaaGreat
