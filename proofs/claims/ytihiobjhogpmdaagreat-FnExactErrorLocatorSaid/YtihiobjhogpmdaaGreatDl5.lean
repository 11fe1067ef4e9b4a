/- Part 5 of the proof of FnExactErrorLocator. -/
import Derived.Test.YtihiobjhogpmdaaGreatDl4
set_option maxRecDepth 100000
noncomputable section
namespace Go.Proofs.YtihiobjhogpmdaaGreat
open Go Go.Abs Go.Proofs
def gW (h3_0_2:(List (List Int))) (h3_0_3:Int):(Int×(List (List Int)))→Tre ((Int×(List (List Int))) ⊕ (List (List Int))):=fun s3=>
 .cond (decide (s3.1<h3_0_3))
  (.ite (0≤s3.1∧s3.1<(h3_0_2.length:Int))<|
  .mat (h3_0_2[s3.1.toNat]?) fun x1=>
  .mat (gH x1) fun r2=>
  .ite ((s3.2.length+1)*24≤bO∧1≤24)<|
  .ret (.inl (aP .i64 (s3.1+1),s3.2++([r2]))))
  (.ret (.inr s3.2))
def fJ (h15_0_1:Nat) (h15_0_2:Int) (h15_0_5:Int) (h15_0_7:(Int×(Int×Unit))):(Int×(List (List Int)))→Tre ((Int×(List (List Int))) ⊕ (List (List Int))):=fun s15=>
 .cond (decide (s15.1<h15_0_5))
  (.mat (s15.2[h15_0_1]?) fun x15=>
  .ite (0≤s15.1∧s15.1<(x15.length:Int))<|
  .mat (s15.2[h15_0_1]?) fun x16=>
  .mat (x16[s15.1.toNat]?) fun x17=>
  .mat (bY h15_0_7 x17 h15_0_2) fun r18=>
  .mat (s15.2[h15_0_1]?) fun x19=>
  .ite (0≤s15.1∧s15.1<(x19.length:Int))<|
  .mat (s15.2[h15_0_1]?) fun x20=>
  .mat (x20[s15.1.toNat]?) fun _=>
  let v22:=x20.set s15.1.toNat r18
  .ret (.inl (aP .i64 (s15.1+1),s15.2.set h15_0_1 v22)))
  (.ret (.inr s15.2))
def fK (h25_0_1:Nat) (h25_0_2:Nat) (h25_0_3:Int) (h25_0_8:Int) (h25_0_10:(Int×(Int×Unit))):(Int×(List (List Int)))→Tre ((Int×(List (List Int))) ⊕ (List (List Int))):=fun s25=>
 .cond (decide (s25.1<h25_0_8))
  (.mat (s25.2[h25_0_2]?) fun x29=>
  .ite (0≤s25.1∧s25.1<(x29.length:Int))<|
  .mat (s25.2[h25_0_2]?) fun x30=>
  .mat (x30[s25.1.toNat]?) fun x31=>
  .mat (s25.2[h25_0_1]?) fun x32=>
  .ite (0≤s25.1∧s25.1<(x32.length:Int))<|
  .mat (s25.2[h25_0_1]?) fun x33=>
  .mat (x33[s25.1.toNat]?) fun x34=>
  .mat (bY h25_0_10 h25_0_3 x34) fun r35=>
  .mat (s25.2[h25_0_2]?) fun x36=>
  .ite (0≤s25.1∧s25.1<(x36.length:Int))<|
  .mat (s25.2[h25_0_2]?) fun x37=>
  .mat (x37[s25.1.toNat]?) fun _=>
  let v39:=x37.set s25.1.toNat (jJ .i64 x31 r35)
  .ret (.inl (aP .i64 (s25.1+1),s25.2.set h25_0_2 v39)))
  (.ret (.inr s25.2))
def eP (h20_0_0:Int) (h20_0_1:Nat) (h20_0_4:Int) (h20_0_6:(Int×(Int×Unit))) (h20_0_8:Int):(Int×(List (List Int)))→Tre ((Int×(List (List Int))) ⊕ (List (List Int))):=fun s20=>
 .cond (decide (s20.1<h20_0_4))
  (.ite (0≤s20.1∧s20.1<(s20.2.length:Int))<|
  .mat (s20.2[s20.1.toNat]?) fun _=>
  .mat (s20.2[s20.1.toNat]?) fun x25=>
  .ite (0≤h20_0_8∧h20_0_8<(x25.length:Int))<|
  .mat (s20.2[s20.1.toNat]?) fun x26=>
  .mat (x26[h20_0_8.toNat]?) fun x27=>
  .cond (!decide (s20.1=h20_0_0))
   (.cond (!decide (x27=0))
    (.mat (s20.2[s20.1.toNat]?) fun x28=>
    .mat (aR (fK h20_0_1 s20.1.toNat x27 (x28.length:Int) h20_0_6) (0,s20.2)) fun l40=>
    .ret (.inl (aP .i64 (s20.1+1),l40)))
    (.ret (.inl (aP .i64 (s20.1+1),s20.2))))
   (.ret (.inl (aP .i64 (s20.1+1),s20.2))))
  (.ret (.inr s20.2))
def fE (h8_0_1:Int) (h8_0_3:(Int×(Int×Unit))):(Int×Int×(List (List Int)))→Tre ((Int×Int×(List (List Int))) ⊕ (Int×(List (List Int)))):=fun s8=>
 .cond (decide (s8.2.1<h8_0_1))
  (.ite (0≤s8.1∧s8.1≤(s8.2.2.length:Int)∧(s8.2.2.length:Int)≤(s8.2.2.length:Int))<|
  .mat (atj ((s8.2.2.drop s8.1.toNat).take (((s8.2.2.length:Int)-s8.1).toNat)) s8.2.1) fun r4=>
  .cond (decide (r4<0))
   (.ret (.inl (s8.1,aP .i64 (s8.2.1+1),s8.2.2)))
   (.ite (0≤aP .i64 (s8.1+r4)∧aP .i64 (s8.1+r4)<(s8.2.2.length:Int))<|
   .mat (s8.2.2[(aP .i64 (s8.1+r4)).toNat]?) fun _=>
   .ite (0≤s8.1∧s8.1<(s8.2.2.length:Int))<|
   .mat (s8.2.2[s8.1.toNat]?) fun _=>
   .ite (0≤s8.1∧s8.1<(s8.2.2.length:Int))<|
   .ite (0≤aP .i64 (s8.1+r4)∧aP .i64 (s8.1+r4)<(s8.2.2.length:Int))<|
   .ite (Int.ofNat s8.1.toNat=Int.ofNat s8.1.toNat∧Int.ofNat ((aP .i64 (s8.1+r4)).toNat)=Int.ofNat ((aP .i64 (s8.1+r4)).toNat))<|
   let v7:=Gr ((aP .i64 (s8.1+r4)).toNat) s8.1.toNat s8.2.2
   .ite (0≤s8.1∧s8.1<(v7.length:Int))<|
   .mat (v7[s8.1.toNat]?) fun _=>
   .ite (0≤s8.1∧s8.1<(v7.length:Int))<|
   .mat (v7[s8.1.toNat]?) fun _=>
   .mat (v7[s8.1.toNat]?) fun x10=>
   .ite (0≤s8.2.1∧s8.2.1<(x10.length:Int))<|
   .mat (v7[s8.1.toNat]?) fun x11=>
   .mat (x11[s8.2.1.toNat]?) fun x12=>
   .mat (bZ h8_0_3 x12) fun r13=>
   .mat (v7[s8.1.toNat]?) fun x14=>
   .mat (aR (fJ s8.1.toNat r13 (x14.length:Int) h8_0_3) (0,v7)) fun l23=>
   .mat (aR (eP s8.1 s8.1.toNat (l23.length:Int) h8_0_3 s8.2.1) (0,l23)) fun l41=>
   .ret (.inl (aP .i64 (s8.1+1),aP .i64 (s8.2.1+1),l41))))
  (.ret (.inr (s8.1,s8.2.2)))
def JI (p0:(Int×(Int×Unit))) (p1:Int) (p2:(List (List Int))):Tre (List (List Int)):=
 .mat (aR (gW p2 (p2.length:Int)) (0,[])) fun l3=>
 .mat (aR (fE p1 p0) (0,0,l3)) fun l42=>
 .ite (0≤(0:Int)∧(0:Int)≤l42.1∧l42.1≤(l42.2.length:Int))<|
 .ret ((l42.2.drop 0).take ((l42.1-0).toNat))
def p8 (p0:(Int×(Int×Unit))) (p1:Int) (p2:(List (List Int))):Option (List (List Int)):=(JI p0 p1 p2).run some
-- more
theorem aiX{α β γ:Type}(g:α→γ)(fin:List γ→β):∀(l:List α)(i:Nat)(acc:List γ),acc.length=i+l.length→qY (fun i acc x=>(.inl (acc.set i (g x)):List γ ⊕ β)) fin i acc l=fin (acc.take i++l.map g):=by
 intro l
 induction l with
 |nil=>intro i acc h;simp only [qY,List.map_nil,List.append_nil];rw [List.take_of_length_le (by simp at h;omega)]
 |cons x l ih=>
  intro i acc h
  simp only [List.length_cons] at h
  simp only [qY]
  rw [ih (i+1) _ (by simp;omega),List.take_add_one]
  simp [show i<acc.length by omega,List.take_set_of_le (Nat.le_refl i)]
theorem auL{f:TF3}(hf:aO f=true){L:List (List Int)}{k:Nat}{row:List Int}(hk:L[k]?=some row)(hn:row.length≤1000000)(hr:∀y∈row,inF f y){x:Int}(hx:inF f x) :
  aR (fJ k x (row.length:Int) f) (0,L)=some (L.set k (row.map fun y=>gu f y x)):=by
 have hkl:=(List.getElem?_eq_some_iff.1 hk).1
 have key:=mD (xs:=row) (step:=fJ k x (row.length:Int) f) (fun (i:Nat) (acc:List Int)=>((i:Int),L.set k acc)) (fun i acc y=>.inl (acc.set i (gu f y x))) (fun acc=>L.set k acc) (fun i acc=>acc.length=row.length∧acc.drop i=row.drop i) (by
  intro i acc y hy hi
  have hlt:=(List.getElem?_eq_some_iff.1 hy).1
  have hg:(L.set k acc)[k]?=some acc:=by rw [List.getElem?_set_self hkl]
  have hai:acc[i]?=some y:=by
   have:=congrArg (·[0]?) hi.2
   simpa [hy] using this
  refine ⟨?_,fun a ha=>?_⟩
  ·unfold fJ
   dsimp only
   rw [Tre.aG,decide_eq_true (by omega),cond_true,ah hg,Tre.run_ite,if_pos (by omega),ah hg,Int.toNat_natCast,ah hai,ah (anS hf (hr _ (List.mem_of_getElem? hy)) hx),ah hg,Tre.run_ite,if_pos (by omega),ah hg,ah hai,Tre.aK,aV (by omega),List.set_set]
  ·cases ha
   refine ⟨by simp [hi.1],?_⟩
   rw [List.drop_set_of_lt (by omega),←List.drop_drop,←List.drop_drop,hi.2]) (by
  intro acc _
  unfold fJ
  dsimp only
  rw [Tre.aG,decide_eq_false (by omega),cond_false]
  rfl) row 0 row rfl (Nat.zero_le _) ⟨rfl,rfl⟩
 rw [aiX _ _ _ _ _ (by simp)] at key
 have h0:L.set k row=L:=by
  apply List.ext_getElem?
  intro j
  rw [List.getElem?_set]
  split
  ·rename_i h;subst h;exact hk.symm
  ·rfl
 rw [h0] at key
 simpa using key
theorem auK{f:TF3}(hf:aO f=true){L:List (List Int)}{k i2:Nat}(hne:k≠i2){own r:List Int}(hk:L[k]?=some own)(h2:L[i2]?=some r)(hl:r.length=own.length)(hn:r.length≤1000000)(hr:∀y∈own,inF f y){x:Int}(hx:inF f x) :
  aR (fK k i2 x (r.length:Int) f) (0,L)=some (L.set i2 ((r.zip own).map fun p=>jJ .i64 p.1 (gu f x p.2))):=by
 have hkl:=(List.getElem?_eq_some_iff.1 h2).1
 have key:=mD (xs:=r.zip own) (step:=fK k i2 x (r.length:Int) f) (fun (i:Nat) (acc:List Int)=>((i:Int),L.set i2 acc)) (fun i acc p=>.inl (acc.set i (jJ .i64 p.1 (gu f x p.2)))) (fun acc=>L.set i2 acc) (fun i acc=>acc.length=r.length∧acc.drop i=r.drop i) (by
  intro i acc p hp hi
  have hlt:=(List.getElem?_eq_some_iff.1 hp).1
  rw [List.length_zip] at hlt
  obtain ⟨p1,p2⟩:=p
  rw [List.getElem?_zip_eq_some] at hp
  obtain ⟨hp1,hp2⟩:=hp
  have hg:(L.set i2 acc)[i2]?=some acc:=by rw [List.getElem?_set_self hkl]
  have hgk:(L.set i2 acc)[k]?=some own:=by rw [List.getElem?_set_ne (Ne.symm hne)];exact hk
  have hai:acc[i]?=some p1:=by
   have:=congrArg (·[0]?) hi.2
   simpa [hp1] using this
  refine ⟨?_,fun a ha=>?_⟩
  ·unfold fK
   dsimp only
   rw [Tre.aG,decide_eq_true (by omega),cond_true,ah hg,Tre.run_ite,if_pos (by omega),ah hg,Int.toNat_natCast,ah hai,ah hgk,Tre.run_ite,if_pos (by omega),ah hgk,ah hp2,ah (anS hf hx (hr _ (List.mem_of_getElem? hp2))),ah hg,Tre.run_ite,if_pos (by omega),ah hg,ah hai,Tre.aK,aV (by omega),List.set_set]
  ·cases ha
   refine ⟨by simp [hi.1],?_⟩
   rw [List.drop_set_of_lt (by omega),←List.drop_drop,←List.drop_drop,hi.2]) (by
  intro acc _
  unfold fK
  dsimp only
  rw [Tre.aG,decide_eq_false (by rw [List.length_zip];omega),cond_false]
  rfl) (r.zip own) 0 r rfl (Nat.zero_le _) ⟨rfl,rfl⟩
 rw [aiX _ _ _ _ _ (by simp [hl])] at key
 have h0:L.set i2 r=L:=by
  apply List.ext_getElem?
  intro j
  rw [List.getElem?_set]
  split
  ·rename_i h;subst h;simp [hkl,←h2]
  ·rfl
 rw [h0] at key
 simpa using key
theorem ayu{f:TF3}(hf:aO f=true){L:List (List Int)}{k c:Nat}{own:List Int}(hk:L[k]?=some own)(hL:L.length≤1000000)(hn:own.length≤1000000)(hc:c<own.length)(hl:∀r∈L,r.length=own.length∧∀y∈r,inF f y) :
  aR (eP (k:Int) k (L.length:Int) f (c:Int)) (0,L)=some (L.mapIdx (oN f c k own)):=by
 have hown:=hl own (List.mem_of_getElem? hk)
 have key:=mD (xs:=L) (step:=eP (k:Int) k (L.length:Int) f (c:Int)) (fun (i:Nat) (acc:List (List Int))=>((i:Int),acc)) (fun i acc r=>.inl (acc.set i (oN f c k own i r))) id (fun i acc=>acc.length=L.length∧acc.drop i=L.drop i∧acc[k]?=some own) (by
  intro i acc r hr hi
  have hlt:=(List.getElem?_eq_some_iff.1 hr).1
  obtain ⟨hr1,hr2⟩:=hl r (List.mem_of_getElem? hr)
  have hai:acc[i]?=some r:=by
   have:=congrArg (·[0]?) hi.2.1
   simpa [hr] using this
  obtain ⟨x,hx⟩:∃x,r[c]?=some x:=⟨_,List.getElem?_eq_getElem (by omega)⟩
  have hset:acc.set i r=acc:=by
   apply List.ext_getElem?
   intro j
   rw [List.getElem?_set]
   split
   ·rename_i h;subst h;simp [show i<acc.length by omega,←hai]
   ·rfl
  refine ⟨?_,fun a ha=>?_⟩
  ·unfold eP
   dsimp only
   rw [Tre.aG,decide_eq_true (by omega),cond_true,Tre.run_ite,if_pos (by omega),Int.toNat_natCast,ah hai,ah hai,Tre.run_ite,if_pos (by omega),ah hai,Int.toNat_natCast,ah hx,Tre.aG]
   by_cases h1:i=k
   ·rw [decide_eq_true (show (i:Int)=(k:Int) by omega),Bool.not_true,cond_false,Tre.aK,aV (by omega)]
    simp only [oN,hx,h1,decide_true,Bool.true_or,cond_true]
    rw [←h1,hset]
   ·rw [decide_eq_false (show ¬(i:Int)=(k:Int) by omega),Bool.not_false,cond_true,Tre.aG]
    by_cases h2:x=0
    ·rw [decide_eq_true h2,Bool.not_true,cond_false,Tre.aK,aV (by omega)]
     simp only [oN,hx,h2,decide_true,Bool.or_true,cond_true]
     rw [hset]
    ·rw [decide_eq_false h2,Bool.not_false,cond_true,ah hai,ah (auK hf (fun h=>h1 h.symm) hi.2.2 hai hr1 (by omega) hown.2 (hr2 _ (List.mem_of_getElem? hx))),Tre.aK,aV (by omega)]
     simp only [oN,hx,h1,h2,decide_false,Bool.or_self,cond_false]
  ·cases ha
   refine ⟨by simp [hi.1],?_,?_⟩
   ·rw [List.drop_set_of_lt (by omega),←List.drop_drop,←List.drop_drop,hi.2.1]
   ·by_cases h1:i=k
    ·subst h1
     rw [List.getElem?_set_self (by omega)]
     rw [hr] at hk;cases hk
     simp only [oN,hx,decide_true,Bool.true_or,cond_true]
    ·rw [List.getElem?_set_ne h1];exact hi.2.2) (by
  intro acc _
  unfold eP
  dsimp only
  rw [Tre.aG,decide_eq_false (by omega),cond_false]
  rfl) L 0 L rfl (Nat.zero_le _) ⟨rfl,rfl,hk⟩
 rw [aiW _ _ _ _ _ (by simp)] at key
 simpa using key
theorem awZ{rows:List (List Int)}(hl:rows.length≤1000000)(hr:∀r∈rows,r.length≤1000000):aR (gW rows (rows.length:Int)) (0,[])=some rows:=by
 have key:=mD (xs:=rows) (step:=gW rows (rows.length:Int)) (fun (i:Nat) (acc:List (List Int))=>((i:Int),acc)) (fun _ acc r=>.inl (acc++[id r])) id (fun i acc=>acc.length=i) (by
  intro i acc r h hi
  have hlt:=(List.getElem?_eq_some_iff.1 h).1
  refine ⟨?_,fun a ha=>?_⟩
  ·unfold gW
   dsimp only
   rw [Tre.aG,decide_eq_true (by omega),cond_true,Tre.run_ite,if_pos (by omega),Int.toNat_natCast,ah h,ah (show gH r=some r from KF (by have:=hr r (List.mem_of_getElem? h);omega)),Tre.run_ite,if_pos (by unfold bO;omega),Tre.aK,aV (by omega)]
   rfl
  ·cases ha;simp [hi]) (by
  intro acc _
  unfold gW
  dsimp only
  rw [Tre.aG,decide_eq_false (by omega),cond_false]
  rfl) rows 0 [] rfl (Nat.zero_le _) rfl
 rw [ad3,List.map_id] at key
 exact key
theorem aw1{f:TF3}(hf:aO f=true){n c:Nat}(hc:c<n)(hn:n≤1000000)(s:Nat×List (List Int))(h:GR f n s.2)(hL:s.2.length≤1000000)(ha:s.1≤s.2.length) :
  (fE (n:Int) f ((s.1:Int),(c:Int),s.2)).run some=some (.inl (((jl f c s).1:Int),((c+1:Nat):Int),(jl f c s).2)):=by
 obtain ⟨a,L⟩:=s
 dsimp only at h hL ha
 unfold fE
 dsimp only
 have htk:(L.drop a).take (((L.length:Int)-(a:Int)).toNat)=L.drop a:=List.take_of_length_le (by rw [List.length_drop];omega)
 rw [Tre.aG,decide_eq_true (by omega),cond_true,Tre.run_ite,if_pos (by omega),Int.toNat_natCast,htk,ah (ayw (fun r hr=>by rw [(h r (List.mem_of_mem_drop hr)).1];exact hc) (by rw [List.length_drop];omega)),Tre.aG]
 unfold jl
 dsimp only
 rcases zZ (DX c) (L.drop a) 0 with ⟨h1,_⟩|⟨k,row,h1,h2,h3⟩
 ·have h4:=apU (DX c) (L.drop a) a 0
  rw [h1,if_pos (by decide)] at h4
  simp only [Nat.add_zero] at h4
  rw [h1,h4]
  simp only [show decide ((-1:Int)<0)=true from rfl,cond_true]
  rw [Tre.aK,aV (by omega)]
 ·have h4:=apU (DX c) (L.drop a) a 0
  rw [h3,if_neg (by omega)] at h4
  simp only [Nat.add_zero,Nat.zero_add] at h4
  have h4:oq (DX c) a (L.drop a)=((a+k:Nat):Int):=by rw [h4];omega
  have hak:L[a+k]?=some row:=by rw [←h1,List.getElem?_drop]
  have hlt:=(List.getElem?_eq_some_iff.1 hak).1
  obtain ⟨r0,hr0⟩:∃r0,L[a]?=some r0:=⟨_,List.getElem?_eq_getElem (by omega)⟩
  obtain ⟨hrl,hrf⟩:=EO h hak
  obtain ⟨x,hx,hx0⟩:=aod h2
  have hxf:=hrf x (List.mem_of_getElem? hx)
  have hsw:Gr (a+k) a L=(L.set (a+k) r0).set a row:=by unfold Gr;rw [hak,hr0]
  have hva:((L.set (a+k) r0).set a row)[a]?=some row:=List.getElem?_set_self (by simp;omega)
  rw [h3,h4]
  simp only [Nat.zero_add]
  have hw:aP .i64 ((a:Int)+(k:Int))=((a+k:Nat):Int):=by rw [dN (by omega) (by omega)];omega
  rw [hw,Int.toNat_natCast,hsw,decide_eq_false (by omega),decide_eq_false (by omega),cond_false,cond_false]
  rw [Tre.run_ite,if_pos (by omega),ah hak,Tre.run_ite,if_pos (by omega),ah hr0,Tre.run_ite,if_pos (by omega),Tre.run_ite,if_pos (by omega),Tre.run_ite,if_pos (by simp)]
  simp only [List.length_set]
  rw [Tre.run_ite,if_pos (by omega),ah hva,Tre.run_ite,if_pos (by omega),ah hva,ah hva,Tre.run_ite,if_pos (by omega),ah hva,Int.toNat_natCast,ah hx,ah (asY hf hxf),ah hva]
  rw [ah (auL hf hva (by omega) hrf (wD hf hxf).1),List.set_set]
  have hp:Um f c (a+k) a L=(L.set (a+k) r0).set a (row.map fun y=>gu f y (Bc f x)):=by
   unfold Um aaX
   rw [hak,hr0]
   simp only [hx]
  have hpg:=aii (c:=c) (k:=a+k) (a:=a) hf h
  rw [hp] at hpg ⊢
  have hpa:((L.set (a+k) r0).set a (row.map fun y=>gu f y (Bc f x)))[a]?=some (row.map fun y=>gu f y (Bc f x)):=List.getElem?_set_self (by simp;omega)
  generalize hG:(L.set (a+k) r0).set a (row.map fun y=>gu f y (Bc f x))=G at hpg hpa
  have hown:=EO hpg.1 hpa
  have hcl:aR (eP (a:Int) a (G.length:Int) f (c:Int)) (0,G)=some (G.mapIdx (oN f c a (row.map fun y=>gu f y (Bc f x)))):=
   ayu hf hpa (by omega) (by omega) (by omega) (fun r hr=>by rw [hown.1];exact hpg.1 r hr)
  rw [ah hcl,Tre.aK,aV (by omega),aV (by omega)]
  unfold Gs
  rw [hpa]
theorem aw0{f:TF3}(hf:aO f=true){n:Nat}(hn:n≤1000000):∀(m c:Nat)(s:Nat×List (List Int)),c+m=n→GR f n s.2→s.2.length≤1000000→s.1≤s.2.length→aR (fE (n:Int) f) ((s.1:Int),(c:Int),s.2)=some (((gU f c m s).1:Int),(gU f c m s).2):=by
 intro m
 induction m with
 |zero=>
  intro c s hc h hL ha
  have hc:c=n:=hc
  subst hc
  refine fB ?_
  unfold fE
  exact dw
 |succ m ih=>
  intro c s hc h hL ha
  rw [mR (aw1 hf (by omega) hn s h hL ha)]
  have h1:=Ju (c:=c) hf h ha
  exact ih (c+1) _ (by omega) h1.1 (by omega) (by omega)
theorem as2{f:TF3}(hf:aO f=true){n:Nat}(hn:n≤1000000){L:List (List Int)}(h:GR f n L)(hL:L.length≤1000000):p8 f (n:Int) L=some (ES f n L):=by
 have hl:=aw0 hf hn n 0 (0,L) (by omega) h hL (Nat.zero_le _)
 have hk:=QJ hf n 0 (0,L) h (Nat.zero_le _)
 have hl:aR (fE (n:Int) f) (0,0,L)=_:=hl
 unfold p8 JI
 rw [ah (awZ hL (fun r hr=>by rw [(h r hr).1];exact hn)),ah hl,Tre.run_ite,if_pos (by have:=hk.2.1;have:=hk.2.2;dsimp only at *;omega),Tre.aK]
 unfold ES
 simp
def dL:Env:=⟨tau,[(65,kN),(122,azC),(76,Bq),(75,oO)],[]⟩
def dS:Code:=(Tryz.f96.body).getD .skip
def vV (z3_0:Bool) (h3_0_0:Int) (h3_0_1:Int) (h3_0_2:(List (List Int))) (h3_0_3:Int) (h3_0_5:(Int×(Int×Unit))):(Int×(List (List Int)))→St:=fun x=>bR [(1,(.imm true (.int .i64) h3_0_0)),(3,(.ptr (5,0) [])),(7,(.ref (9,0) [])),(8,(.imm true (.int .i64) h3_0_1)),(21,(.imm z3_0 (.sl (.sl (.int .i64))) h3_0_2)),(22,(.imm true (.int .i64) h3_0_3)),(23,(.imm true (.int .i64) x.1))] [((5,0),some ⟨true,aL,.own,h3_0_5⟩),((9,0),some ⟨false,(.sl (.sl (.int .i64))),.own,x.2⟩)]
def uN (_z3_0:Bool) (h3_0_0:Int) (h3_0_1:Int) (_h3_0_2:(List (List Int))) (_h3_0_3:Int) (h3_0_5:(Int×(Int×Unit))):(List (List Int))→Ex×St:=fun x=>(.exit 0,bR [(1,(.imm true (.int .i64) h3_0_0)),(3,(.ptr (5,0) [])),(7,(.ref (9,0) [])),(8,(.imm true (.int .i64) h3_0_1))] [((5,0),some ⟨true,aL,.own,h3_0_5⟩),((9,0),some ⟨false,(.sl (.sl (.int .i64))),.own,x⟩)])
def Ib (s:St):Tre (Ex×St):=
 aC true (.int .i64) (s.tmps 1) fun d2=>
 dU (5,0) [] (s.tmps 3)<|
 dz (9,0) [] (s.tmps 7)<|
 aC true (.int .i64) (s.tmps 8) fun d6=>
 bE (.sl (.sl (.int .i64))) (s.tmps 21) fun z9 d8=>
 aC true (.int .i64) (s.tmps 22) fun d11=>
 aC true (.int .i64) (s.tmps 23) fun d13=>
 bD true aL (s.roots (5,0)) fun m15 d16=>
 asM .own m15<|
 bD false (.sl (.sl (.int .i64))) (s.roots (9,0)) fun m18 d19=>
 asM .own m18<|
 .mat (aR (gW d8 d11) (d13,d19)) fun x=>.ret (uN z9 d2 d6 d8 d11 d16 x)
def jC:bK:=⟨([1,3,7,8,21,22,23],[(5,0),(9,0)]),([1,3,7,8],[(5,0),(9,0)]),Ib⟩
def uK (h15_0_0:Int) (h15_0_1:Nat) (h15_0_2:Int) (h15_0_3:Int) (h15_0_4:Int) (h15_0_5:Int) (h15_0_7:(Int×(Int×Unit))) (h15_0_9:Int):(Int×(List (List Int)))→St:=fun x=>bR [(3,(.ptr (5,0) [])),(7,(.ref (9,0) [])),(8,(.imm true (.int .i64) h15_0_0)),(11,(.ptr (13,0) [])),(13,(.ref (9,0) [.idx h15_0_1])),(14,(.imm true (.int .i64) h15_0_2)),(33,(.imm true (.int .i64) h15_0_3)),(34,(.imm true (.int .i64) h15_0_4)),(76,(.imm true (.int .i64) h15_0_5)),(77,(.imm true (.int .i64) x.1))] [((5,0),some ⟨true,aL,.own,h15_0_7⟩),((9,0),some ⟨false,(.sl (.sl (.int .i64))),.own,x.2⟩),((13,0),some ⟨true,(.int .i64),.own,h15_0_9⟩)]
def rF (h15_0_0:Int) (h15_0_1:Nat) (_h15_0_2:Int) (h15_0_3:Int) (h15_0_4:Int) (_h15_0_5:Int) (h15_0_7:(Int×(Int×Unit))) (h15_0_9:Int):(List (List Int))→Ex×St:=fun x=>(.exit 4,bR [(3,(.ptr (5,0) [])),(7,(.ref (9,0) [])),(8,(.imm true (.int .i64) h15_0_0)),(11,(.ptr (13,0) [])),(13,(.ref (9,0) [.idx h15_0_1])),(33,(.imm true (.int .i64) h15_0_3)),(34,(.imm true (.int .i64) h15_0_4))] [((5,0),some ⟨true,aL,.own,h15_0_7⟩),((9,0),some ⟨false,(.sl (.sl (.int .i64))),.own,x⟩),((13,0),some ⟨true,(.int .i64),.own,h15_0_9⟩)])
def E8 (s:St):Tre (Ex×St):=
 dU (5,0) [] (s.tmps 3)<|
 dz (9,0) [] (s.tmps 7)<|
 aC true (.int .i64) (s.tmps 8) fun d4=>
 dU (13,0) [] (s.tmps 11)<|
 adM (9,0) [.idx 0] (s.tmps 13) fun i7=>
 aC true (.int .i64) (s.tmps 14) fun d9=>
 aC true (.int .i64) (s.tmps 33) fun d11=>
 aC true (.int .i64) (s.tmps 34) fun d13=>
 aC true (.int .i64) (s.tmps 76) fun d15=>
 aC true (.int .i64) (s.tmps 77) fun d17=>
 bD true aL (s.roots (5,0)) fun m19 d20=>
 asM .own m19<|
 bD false (.sl (.sl (.int .i64))) (s.roots (9,0)) fun m22 d23=>
 asM .own m22<|
 bD true (.int .i64) (s.roots (13,0)) fun m25 d26=>
 asM .own m25<|
 .mat (aR (fJ i7 d9 d15 d20) (d17,d23)) fun x=>.ret (rF d4 i7 d9 d11 d13 d15 d20 d26 x)
def iV:bK:=⟨([3,7,8,11,13,14,33,34,76,77],[(5,0),(9,0),(13,0)]),([3,7,8,11,13,33,34],[(5,0),(9,0),(13,0)]),E8⟩
def uM (h25_0_0:Int) (h25_0_1:Nat) (h25_0_2:Nat) (h25_0_3:Int) (h25_0_4:Int) (h25_0_5:Int) (h25_0_6:Int) (h25_0_7:Int) (h25_0_8:Int) (h25_0_10:(Int×(Int×Unit))) (h25_0_12:Int):(Int×(List (List Int)))→St:=fun x=>bR [(3,(.ptr (5,0) [])),(7,(.ref (9,0) [])),(8,(.imm true (.int .i64) h25_0_0)),(11,(.ptr (13,0) [])),(13,(.ref (9,0) [.idx h25_0_1])),(17,(.ref (9,0) [.idx h25_0_2])),(18,(.imm true (.int .i64) h25_0_3)),(33,(.imm true (.int .i64) h25_0_4)),(34,(.imm true (.int .i64) h25_0_5)),(91,(.ref (9,0) [])),(92,(.imm true (.int .i64) h25_0_6)),(93,(.imm true (.int .i64) h25_0_7)),(110,(.imm true (.int .i64) h25_0_8)),(111,(.imm true (.int .i64) x.1))] [((5,0),some ⟨true,aL,.own,h25_0_10⟩),((9,0),some ⟨false,(.sl (.sl (.int .i64))),.own,x.2⟩),((13,0),some ⟨true,(.int .i64),.own,h25_0_12⟩)]
def rH (h25_0_0:Int) (h25_0_1:Nat) (_h25_0_2:Nat) (_h25_0_3:Int) (h25_0_4:Int) (h25_0_5:Int) (h25_0_6:Int) (h25_0_7:Int) (_h25_0_8:Int) (h25_0_10:(Int×(Int×Unit))) (h25_0_12:Int):(List (List Int))→Ex×St:=fun x=>(.exit 8,bR [(3,(.ptr (5,0) [])),(7,(.ref (9,0) [])),(8,(.imm true (.int .i64) h25_0_0)),(11,(.ptr (13,0) [])),(13,(.ref (9,0) [.idx h25_0_1])),(33,(.imm true (.int .i64) h25_0_4)),(34,(.imm true (.int .i64) h25_0_5)),(91,(.ref (9,0) [])),(92,(.imm true (.int .i64) h25_0_6)),(93,(.imm true (.int .i64) h25_0_7))] [((5,0),some ⟨true,aL,.own,h25_0_10⟩),((9,0),some ⟨false,(.sl (.sl (.int .i64))),.own,x⟩),((13,0),some ⟨true,(.int .i64),.own,h25_0_12⟩)])
def Fe (s:St):Tre (Ex×St):=
 dU (5,0) [] (s.tmps 3)<|
 dz (9,0) [] (s.tmps 7)<|
 aC true (.int .i64) (s.tmps 8) fun d4=>
 dU (13,0) [] (s.tmps 11)<|
 adM (9,0) [.idx 0] (s.tmps 13) fun i7=>
 adM (9,0) [.idx 0] (s.tmps 17) fun i9=>
 aC true (.int .i64) (s.tmps 18) fun d11=>
 aC true (.int .i64) (s.tmps 33) fun d13=>
 aC true (.int .i64) (s.tmps 34) fun d15=>
 dz (9,0) [] (s.tmps 91)<|
 aC true (.int .i64) (s.tmps 92) fun d18=>
 aC true (.int .i64) (s.tmps 93) fun d20=>
 aC true (.int .i64) (s.tmps 110) fun d22=>
 aC true (.int .i64) (s.tmps 111) fun d24=>
 bD true aL (s.roots (5,0)) fun m26 d27=>
 asM .own m26<|
 bD false (.sl (.sl (.int .i64))) (s.roots (9,0)) fun m29 d30=>
 asM .own m29<|
 bD true (.int .i64) (s.roots (13,0)) fun m32 d33=>
 asM .own m32<|
 .mat (aR (fK i7 i9 d11 d22 d27) (d24,d30)) fun x=>.ret (rH d4 i7 i9 d11 d13 d15 d18 d20 d22 d27 d33 x)
def iX:bK:=⟨([3,7,8,11,13,17,18,33,34,91,92,93,110,111],[(5,0),(9,0),(13,0)]),([3,7,8,11,13,33,34,91,92,93],[(5,0),(9,0),(13,0)]),Fe⟩
def uL (h20_0_0:Int) (h20_0_1:Nat) (h20_0_2:Int) (h20_0_3:Int) (h20_0_4:Int) (h20_0_6:(Int×(Int×Unit))) (h20_0_8:Int):(Int×(List (List Int)))→St:=fun x=>bR [(3,(.ptr (5,0) [])),(7,(.ref (9,0) [])),(8,(.imm true (.int .i64) h20_0_0)),(11,(.ptr (13,0) [])),(13,(.ref (9,0) [.idx h20_0_1])),(33,(.imm true (.int .i64) h20_0_2)),(34,(.imm true (.int .i64) h20_0_3)),(91,(.ref (9,0) [])),(92,(.imm true (.int .i64) h20_0_4)),(93,(.imm true (.int .i64) x.1))] [((5,0),some ⟨true,aL,.own,h20_0_6⟩),((9,0),some ⟨false,(.sl (.sl (.int .i64))),.own,x.2⟩),((13,0),some ⟨true,(.int .i64),.own,h20_0_8⟩)]
def rG (h20_0_0:Int) (_h20_0_1:Nat) (h20_0_2:Int) (h20_0_3:Int) (_h20_0_4:Int) (h20_0_6:(Int×(Int×Unit))) (_h20_0_8:Int):(List (List Int))→Ex×St:=fun x=>(.exit 6,bR [(3,(.ptr (5,0) [])),(7,(.ref (9,0) [])),(8,(.imm true (.int .i64) h20_0_0)),(33,(.imm true (.int .i64) h20_0_2)),(34,(.imm true (.int .i64) h20_0_3))] [((5,0),some ⟨true,aL,.own,h20_0_6⟩),((9,0),some ⟨false,(.sl (.sl (.int .i64))),.own,x⟩)])
def E9 (s:St):Tre (Ex×St):=
 dU (5,0) [] (s.tmps 3)<|
 dz (9,0) [] (s.tmps 7)<|
 aC true (.int .i64) (s.tmps 8) fun d4=>
 dU (13,0) [] (s.tmps 11)<|
 adM (9,0) [.idx 0] (s.tmps 13) fun i7=>
 aC true (.int .i64) (s.tmps 33) fun d9=>
 aC true (.int .i64) (s.tmps 34) fun d11=>
 dz (9,0) [] (s.tmps 91)<|
 aC true (.int .i64) (s.tmps 92) fun d14=>
 aC true (.int .i64) (s.tmps 93) fun d16=>
 bD true aL (s.roots (5,0)) fun m18 d19=>
 asM .own m18<|
 bD false (.sl (.sl (.int .i64))) (s.roots (9,0)) fun m21 d22=>
 asM .own m21<|
 bD true (.int .i64) (s.roots (13,0)) fun m24 d25=>
 asM .own m24<|
 .mat (aR (eP d4 i7 d14 d19 d25) (d16,d22)) fun x=>.ret (rG d4 i7 d9 d11 d14 d19 d25 x)
def iW:bK:=⟨([3,7,8,11,13,33,34,91,92,93],[(5,0),(9,0),(13,0)]),([3,7,8,33,34],[(5,0),(9,0)]),E9⟩
def vW (h8_0_1:Int) (h8_0_3:(Int×(Int×Unit))):(Int×Int×(List (List Int)))→St:=fun x=>bR [(3,(.ptr (5,0) [])),(7,(.ref (9,0) [])),(8,(.imm true (.int .i64) x.1)),(33,(.imm true (.int .i64) h8_0_1)),(34,(.imm true (.int .i64) x.2.1))] [((5,0),some ⟨true,aL,.own,h8_0_3⟩),((9,0),some ⟨false,(.sl (.sl (.int .i64))),.own,x.2.2⟩)]
def uO (_h8_0_1:Int) (_h8_0_3:(Int×(Int×Unit))):(Int×(List (List Int)))→Ex×St:=fun x=>(.exit 2,bR [(7,(.ref (9,0) [])),(8,(.imm true (.int .i64) x.1))] [((9,0),some ⟨false,(.sl (.sl (.int .i64))),.own,x.2⟩)])
def Ic (s:St):Tre (Ex×St):=
 dU (5,0) [] (s.tmps 3)<|
 dz (9,0) [] (s.tmps 7)<|
 aC true (.int .i64) (s.tmps 8) fun d4=>
 aC true (.int .i64) (s.tmps 33) fun d6=>
 aC true (.int .i64) (s.tmps 34) fun d8=>
 bD true aL (s.roots (5,0)) fun m10 d11=>
 asM .own m10<|
 bD false (.sl (.sl (.int .i64))) (s.roots (9,0)) fun m13 d14=>
 asM .own m13<|
 .mat (aR (fE d6 d11) (d4,d8,d14)) fun x=>.ret (uO d6 d11 x)
def jD:bK:=⟨([3,7,8,33,34],[(5,0),(9,0)]),([7,8],[(9,0)]),Ic⟩
def dR:List (Nat×bK):=[(3,jC),(15,iV),(25,iX),(20,iW),(8,jD)]
theorem QO:∀(z3_0:Bool)(h3_0_0:Int)(h3_0_1:Int)(h3_0_2:(List (List Int)))(h3_0_3:Int)(h3_0_5:(Int×(Int×Unit)))(x:(Int×(List (List Int))))(c:St→Option (Ex×St)),den dL dR (aY dS 0) (vV z3_0 h3_0_0 h3_0_1 h3_0_2 h3_0_3 h3_0_5 x) (bU jC.kp jC.kx c)=(gW h3_0_2 h3_0_3 x).run (bV (vV z3_0 h3_0_0 h3_0_1 h3_0_2 h3_0_3 h3_0_5) (uN z3_0 h3_0_0 h3_0_1 h3_0_2 h3_0_3 h3_0_5) c):=fun _ _ _ _ _ _ _ _=>by
 kernel_rfl
theorem UU:bS dL dR (aY dS 0) jC:=bA fun s e s' h=>by
 generalize hs:restrict jC.kp s=s1 at h
 have h:(Ib s1).run some=some (e,s'):=h
 obtain ⟨d2,e1,h_0⟩:=ak h
 obtain ⟨e3,h_1⟩:=bF h_0
 obtain ⟨e4,h_2⟩:=bf h_1
 obtain ⟨d6,e5,h_3⟩:=ak h_2
 obtain ⟨z9,d8,e7,h_4⟩:=aD h_3
 obtain ⟨d11,e10,h_5⟩:=ak h_4
 obtain ⟨d13,e12,h_6⟩:=ak h_5
 obtain ⟨m15,d16,e14,h_7⟩:=aH h_6
 obtain ⟨rfl,h_8⟩:=aQ h_7
 obtain ⟨m18,d19,e17,h_9⟩:=aH h_8
 obtain ⟨rfl,h_10⟩:=aQ h_9
 obtain ⟨y,hy,hz⟩:=bT h_10
 refine ⟨_,_,vV z9 d2 d6 d8 d11 d16,uN z9 d2 d6 d8 d11 d16,gW d8 d11,(d13,d19),y,?_,hy,?_,QO z9 d2 d6 d8 d11 d16⟩
 ·subst hs;exact aT (T:=[(1,(.imm true (.int .i64) d2)),(3,(.ptr (5,0) [])),(7,(.ref (9,0) [])),(8,(.imm true (.int .i64) d6)),(21,(.imm z9 (.sl (.sl (.int .i64))) d8)),(22,(.imm true (.int .i64) d11)),(23,(.imm true (.int .i64) d13))]) (U:=[((5,0),some ⟨true,aL,.own,d16⟩),((9,0),some ⟨false,(.sl (.sl (.int .i64))),.own,d19⟩)]) rfl rfl ⟨e1,e3,e4,e5,e7,e10,e12,trivial⟩ ⟨e14,e17,trivial⟩
 ·exact Option.some.inj hz
theorem Pg:∀(h15_0_0:Int)(h15_0_1:Nat)(h15_0_2:Int)(h15_0_3:Int)(h15_0_4:Int)(h15_0_5:Int)(h15_0_7:(Int×(Int×Unit)))(h15_0_9:Int)(x:(Int×(List (List Int))))(c:St→Option (Ex×St)),den dL dR (aY dS 2) (uK h15_0_0 h15_0_1 h15_0_2 h15_0_3 h15_0_4 h15_0_5 h15_0_7 h15_0_9 x) (bU iV.kp iV.kx c)=(fJ h15_0_1 h15_0_2 h15_0_5 h15_0_7 x).run (bV (uK h15_0_0 h15_0_1 h15_0_2 h15_0_3 h15_0_4 h15_0_5 h15_0_7 h15_0_9) (rF h15_0_0 h15_0_1 h15_0_2 h15_0_3 h15_0_4 h15_0_5 h15_0_7 h15_0_9) c):=fun _ _ _ _ _ _ _ _ _ _=>by
 kernel_rfl
theorem TT:bS dL dR (aY dS 2) iV:=bA fun s e s' h=>by
 generalize hs:restrict iV.kp s=s1 at h
 have h:(E8 s1).run some=some (e,s'):=h
 obtain ⟨e1,h_0⟩:=bF h
 obtain ⟨e2,h_1⟩:=bf h_0
 obtain ⟨d4,e3,h_2⟩:=ak h_1
 obtain ⟨e5,h_3⟩:=bF h_2
 obtain ⟨i7,e6,h_4⟩:=Me h_3
 obtain ⟨d9,e8,h_5⟩:=ak h_4
 obtain ⟨d11,e10,h_6⟩:=ak h_5
 obtain ⟨d13,e12,h_7⟩:=ak h_6
 obtain ⟨d15,e14,h_8⟩:=ak h_7
 obtain ⟨d17,e16,h_9⟩:=ak h_8
 obtain ⟨m19,d20,e18,h_10⟩:=aH h_9
 obtain ⟨rfl,h_11⟩:=aQ h_10
 obtain ⟨m22,d23,e21,h_12⟩:=aH h_11
 obtain ⟨rfl,h_13⟩:=aQ h_12
 obtain ⟨m25,d26,e24,h_14⟩:=aH h_13
 obtain ⟨rfl,h_15⟩:=aQ h_14
 obtain ⟨y,hy,hz⟩:=bT h_15
 refine ⟨_,_,uK d4 i7 d9 d11 d13 d15 d20 d26,rF d4 i7 d9 d11 d13 d15 d20 d26,fJ i7 d9 d15 d20,(d17,d23),y,?_,hy,?_,Pg d4 i7 d9 d11 d13 d15 d20 d26⟩
 ·subst hs;exact aT (T:=[(3,(.ptr (5,0) [])),(7,(.ref (9,0) [])),(8,(.imm true (.int .i64) d4)),(11,(.ptr (13,0) [])),(13,(.ref (9,0) [.idx i7])),(14,(.imm true (.int .i64) d9)),(33,(.imm true (.int .i64) d11)),(34,(.imm true (.int .i64) d13)),(76,(.imm true (.int .i64) d15)),(77,(.imm true (.int .i64) d17))]) (U:=[((5,0),some ⟨true,aL,.own,d20⟩),((9,0),some ⟨false,(.sl (.sl (.int .i64))),.own,d23⟩),((13,0),some ⟨true,(.int .i64),.own,d26⟩)]) rfl rfl ⟨e1,e2,e3,e5,e6,e8,e10,e12,e14,e16,trivial⟩ ⟨e18,e21,e24,trivial⟩
 ·exact Option.some.inj hz
theorem Pj:∀(h25_0_0:Int)(h25_0_1:Nat)(h25_0_2:Nat)(h25_0_3:Int)(h25_0_4:Int)(h25_0_5:Int)(h25_0_6:Int)(h25_0_7:Int)(h25_0_8:Int)(h25_0_10:(Int×(Int×Unit)))(h25_0_12:Int)(x:(Int×(List (List Int))))(c:St→Option (Ex×St)),den dL dR (aY dS 4) (uM h25_0_0 h25_0_1 h25_0_2 h25_0_3 h25_0_4 h25_0_5 h25_0_6 h25_0_7 h25_0_8 h25_0_10 h25_0_12 x) (bU iX.kp iX.kx c)=(fK h25_0_1 h25_0_2 h25_0_3 h25_0_8 h25_0_10 x).run (bV (uM h25_0_0 h25_0_1 h25_0_2 h25_0_3 h25_0_4 h25_0_5 h25_0_6 h25_0_7 h25_0_8 h25_0_10 h25_0_12) (rH h25_0_0 h25_0_1 h25_0_2 h25_0_3 h25_0_4 h25_0_5 h25_0_6 h25_0_7 h25_0_8 h25_0_10 h25_0_12) c):=fun _ _ _ _ _ _ _ _ _ _ _ _ _=>by
 kernel_rfl
theorem TV:bS dL dR (aY dS 4) iX:=bA fun s e s' h=>by
 generalize hs:restrict iX.kp s=s1 at h
 have h:(Fe s1).run some=some (e,s'):=h
 obtain ⟨e1,h_0⟩:=bF h
 obtain ⟨e2,h_1⟩:=bf h_0
 obtain ⟨d4,e3,h_2⟩:=ak h_1
 obtain ⟨e5,h_3⟩:=bF h_2
 obtain ⟨i7,e6,h_4⟩:=Me h_3
 obtain ⟨i9,e8,h_5⟩:=Me h_4
 obtain ⟨d11,e10,h_6⟩:=ak h_5
 obtain ⟨d13,e12,h_7⟩:=ak h_6
 obtain ⟨d15,e14,h_8⟩:=ak h_7
 obtain ⟨e16,h_9⟩:=bf h_8
 obtain ⟨d18,e17,h_10⟩:=ak h_9
 obtain ⟨d20,e19,h_11⟩:=ak h_10
 obtain ⟨d22,e21,h_12⟩:=ak h_11
 obtain ⟨d24,e23,h_13⟩:=ak h_12
 obtain ⟨m26,d27,e25,h_14⟩:=aH h_13
 obtain ⟨rfl,h_15⟩:=aQ h_14
 obtain ⟨m29,d30,e28,h_16⟩:=aH h_15
 obtain ⟨rfl,h_17⟩:=aQ h_16
 obtain ⟨m32,d33,e31,h_18⟩:=aH h_17
 obtain ⟨rfl,h_19⟩:=aQ h_18
 obtain ⟨y,hy,hz⟩:=bT h_19
 refine ⟨_,_,uM d4 i7 i9 d11 d13 d15 d18 d20 d22 d27 d33,rH d4 i7 i9 d11 d13 d15 d18 d20 d22 d27 d33,fK i7 i9 d11 d22 d27,(d24,d30),y,?_,hy,?_,Pj d4 i7 i9 d11 d13 d15 d18 d20 d22 d27 d33⟩
 ·subst hs;exact aT (T:=[(3,(.ptr (5,0) [])),(7,(.ref (9,0) [])),(8,(.imm true (.int .i64) d4)),(11,(.ptr (13,0) [])),(13,(.ref (9,0) [.idx i7])),(17,(.ref (9,0) [.idx i9])),(18,(.imm true (.int .i64) d11)),(33,(.imm true (.int .i64) d13)),(34,(.imm true (.int .i64) d15)),(91,(.ref (9,0) [])),(92,(.imm true (.int .i64) d18)),(93,(.imm true (.int .i64) d20)),(110,(.imm true (.int .i64) d22)),(111,(.imm true (.int .i64) d24))]) (U:=[((5,0),some ⟨true,aL,.own,d27⟩),((9,0),some ⟨false,(.sl (.sl (.int .i64))),.own,d30⟩),((13,0),some ⟨true,(.int .i64),.own,d33⟩)]) rfl rfl ⟨e1,e2,e3,e5,e6,e8,e10,e12,e14,e16,e17,e19,e21,e23,trivial⟩ ⟨e25,e28,e31,trivial⟩
 ·exact Option.some.inj hz
theorem Ph:∀(h20_0_0:Int)(h20_0_1:Nat)(h20_0_2:Int)(h20_0_3:Int)(h20_0_4:Int)(h20_0_6:(Int×(Int×Unit)))(h20_0_8:Int)(x:(Int×(List (List Int))))(c:St→Option (Ex×St)),den dL dR (aY dS 3) (uL h20_0_0 h20_0_1 h20_0_2 h20_0_3 h20_0_4 h20_0_6 h20_0_8 x) (bU iW.kp iW.kx c)=(eP h20_0_0 h20_0_1 h20_0_4 h20_0_6 h20_0_8 x).run (bV (uL h20_0_0 h20_0_1 h20_0_2 h20_0_3 h20_0_4 h20_0_6 h20_0_8) (rG h20_0_0 h20_0_1 h20_0_2 h20_0_3 h20_0_4 h20_0_6 h20_0_8) c):=fun _ _ _ _ _ _ _ _ _=>by
 kernel_rfl
theorem TU:bS dL dR (aY dS 3) iW:=bA fun s e s' h=>by
 generalize hs:restrict iW.kp s=s1 at h
 have h:(E9 s1).run some=some (e,s'):=h
 obtain ⟨e1,h_0⟩:=bF h
 obtain ⟨e2,h_1⟩:=bf h_0
 obtain ⟨d4,e3,h_2⟩:=ak h_1
 obtain ⟨e5,h_3⟩:=bF h_2
 obtain ⟨i7,e6,h_4⟩:=Me h_3
 obtain ⟨d9,e8,h_5⟩:=ak h_4
 obtain ⟨d11,e10,h_6⟩:=ak h_5
 obtain ⟨e12,h_7⟩:=bf h_6
 obtain ⟨d14,e13,h_8⟩:=ak h_7
 obtain ⟨d16,e15,h_9⟩:=ak h_8
 obtain ⟨m18,d19,e17,h_10⟩:=aH h_9
 obtain ⟨rfl,h_11⟩:=aQ h_10
 obtain ⟨m21,d22,e20,h_12⟩:=aH h_11
 obtain ⟨rfl,h_13⟩:=aQ h_12
 obtain ⟨m24,d25,e23,h_14⟩:=aH h_13
 obtain ⟨rfl,h_15⟩:=aQ h_14
 obtain ⟨y,hy,hz⟩:=bT h_15
 refine ⟨_,_,uL d4 i7 d9 d11 d14 d19 d25,rG d4 i7 d9 d11 d14 d19 d25,eP d4 i7 d14 d19 d25,(d16,d22),y,?_,hy,?_,Ph d4 i7 d9 d11 d14 d19 d25⟩
 ·subst hs;exact aT (T:=[(3,(.ptr (5,0) [])),(7,(.ref (9,0) [])),(8,(.imm true (.int .i64) d4)),(11,(.ptr (13,0) [])),(13,(.ref (9,0) [.idx i7])),(33,(.imm true (.int .i64) d9)),(34,(.imm true (.int .i64) d11)),(91,(.ref (9,0) [])),(92,(.imm true (.int .i64) d14)),(93,(.imm true (.int .i64) d16))]) (U:=[((5,0),some ⟨true,aL,.own,d19⟩),((9,0),some ⟨false,(.sl (.sl (.int .i64))),.own,d22⟩),((13,0),some ⟨true,(.int .i64),.own,d25⟩)]) rfl rfl ⟨e1,e2,e3,e5,e6,e8,e10,e12,e13,e15,trivial⟩ ⟨e17,e20,e23,trivial⟩
 ·exact Option.some.inj hz
theorem QS:∀(h8_0_1:Int)(h8_0_3:(Int×(Int×Unit)))(x:(Int×Int×(List (List Int))))(c:St→Option (Ex×St)),den dL dR (aY dS 1) (vW h8_0_1 h8_0_3 x) (bU jD.kp jD.kx c)=(fE h8_0_1 h8_0_3 x).run (bV (vW h8_0_1 h8_0_3) (uO h8_0_1 h8_0_3) c):=fun _ _ _ _=>by
 kernel_rfl
theorem UW:bS dL dR (aY dS 1) jD:=bA fun s e s' h=>by
 generalize hs:restrict jD.kp s=s1 at h
 have h:(Ic s1).run some=some (e,s'):=h
 obtain ⟨e1,h_0⟩:=bF h
 obtain ⟨e2,h_1⟩:=bf h_0
 obtain ⟨d4,e3,h_2⟩:=ak h_1
 obtain ⟨d6,e5,h_3⟩:=ak h_2
 obtain ⟨d8,e7,h_4⟩:=ak h_3
 obtain ⟨m10,d11,e9,h_5⟩:=aH h_4
 obtain ⟨rfl,h_6⟩:=aQ h_5
 obtain ⟨m13,d14,e12,h_7⟩:=aH h_6
 obtain ⟨rfl,h_8⟩:=aQ h_7
 obtain ⟨y,hy,hz⟩:=bT h_8
 refine ⟨_,_,vW d6 d11,uO d6 d11,fE d6 d11,(d4,d8,d14),y,?_,hy,?_,QS d6 d11⟩
 ·subst hs;exact aT (T:=[(3,(.ptr (5,0) [])),(7,(.ref (9,0) [])),(8,(.imm true (.int .i64) d4)),(33,(.imm true (.int .i64) d6)),(34,(.imm true (.int .i64) d8))]) (U:=[((5,0),some ⟨true,aL,.own,d11⟩),((9,0),some ⟨false,(.sl (.sl (.int .i64))),.own,d14⟩)]) rfl rfl ⟨e1,e2,e3,e5,e7,trivial⟩ ⟨e9,e12,trivial⟩
 ·exact Option.some.inj hz
def Pf:FnI:=⟨dS,Tryz.f96.results.toList,Tryz.f96.resultTypes.toList,dR⟩
def JJ (_zp0:Bool) (_p0:(Int×(Int×Unit))) (_p1:Int) (_p2:(List (List Int))):(List (List Int))→aB:=fun r=>⟨(.ref (1,0) []),[],[⟨false,(.sl (.sl (.int .i64))),.own,r⟩]⟩
theorem abp:∀(zp0:Bool)(p0:(Int×(Int×Unit)))(p1:Int)(p2:(List (List Int))),bN dL Pf ⟨[(.imm true aL p0),(.imm true (.int .i64) p1),(.imm zp0 (.sl (.sl (.int .i64))) p2)],[]⟩=(JI p0 p1 p2).run fun r=>some (JJ zp0 p0 p1 p2 r):=fun _ _ _ _=>by kernel_rfl
def Pe (av:List AV) (rs:List Root):Tre aB:=
 aJ av fun a0_ av0=>
 aJ av0 fun a1_ av1=>
 aJ av1 fun a2_ av2=>
 aU av2<|
 aU rs<|
 aC true aL a0_ fun d1=>
 aC true (.int .i64) a1_ fun d2=>
 bE (.sl (.sl (.int .i64))) a2_ fun z4 d3=>
 .mat (p8 d1 d2 d3) fun r=>.ret (JJ z4 d1 d2 d3 r)
def Du:Ctr:=⟨[],fun ci=>Pe ci.args ci.roots,false⟩
theorem Z0:bM Tryz.prog .none dL:=(aA ny asR (aA aAD avU (aA JE azl (aA pY amq aN))))
theorem ME:Contract Tryz.prog .none 96 Du:=by
 have hl:aZ dL dR dS:=(bC (n:=5) (by kernel_rfl) fun k hk=>by
   match k,hk with
   |0,_=>exact bq (id:=3) (L:=jC) (by kernel_rfl) (by kernel_rfl) UU
   |1,_=>exact bq (id:=8) (L:=jD) (by kernel_rfl) (by kernel_rfl) UW
   |2,_=>exact bq (id:=15) (L:=iV) (by kernel_rfl) (by kernel_rfl) TT
   |3,_=>exact bq (id:=20) (L:=iW) (by kernel_rfl) (by kernel_rfl) TU
   |4,_=>exact bq (id:=25) (L:=iX) (by kernel_rfl) (by kernel_rfl) TV)
 refine (aI (F:=Pf) bg Z0 Tryz.func96 (by kernel_rfl) (by kernel_rfl) (by kernel_rfl) hl []).weaken ?_
 rintro ⟨av,rs⟩ co h
 have h:(Pe av rs).run some=some co:=h
 obtain ⟨a0_,av0,rfl,h_0⟩:=au h
 obtain ⟨a1_,av1,rfl,h_1⟩:=au h_0
 obtain ⟨a2_,av2,rfl,h_2⟩:=au h_1
 obtain ⟨rfl,h_3⟩:=ay h_2
 obtain ⟨rfl,h_4⟩:=ay h_3
 obtain ⟨d1,rfl,h_5⟩:=ak h_4
 obtain ⟨d2,rfl,h_6⟩:=ak h_5
 obtain ⟨z4,d3,rfl,h_7⟩:=aD h_6
 exact bJ (abp z4 d1 d2 d3) h_7
def YR (p0:(List (List Int))):Tre Int:=
 .ret (p0.length:Int)
def ahv (p0:(List (List Int))):Option Int:=(YR p0).run some
theorem aah(p0:(List (List Int))):ahv p0=some (p0.length:Int):=rfl
def GD:Env:=⟨tau,[],[]⟩
def SB:Code:=(Tryz.f97.body).getD .skip
def SA:FnI:=⟨SB,Tryz.f97.results.toList,Tryz.f97.resultTypes.toList,[]⟩
def MN (_zp0:Bool) (_p0:(List (List Int))):Int→aB:=fun r=>⟨(.imm true (.int .i64) r),[],[]⟩
theorem aeh:∀(zp0:Bool)(p0:(List (List Int))),bN GD SA ⟨[(.imm zp0 (.sl (.sl (.int .i64))) p0)],[]⟩=(YR p0).run fun r=>some (MN zp0 p0 r):=fun _ _=>by kernel_rfl
def Sz (av:List AV) (rs:List Root):Tre aB:=
 aJ av fun a0_ av0=>
 aU av0<|
 aU rs<|
 bE (.sl (.sl (.int .i64))) a0_ fun z2 d1=>
 .ret (MN z2 d1 (d1.length:Int))
def SC:Ctr:=⟨[],fun ci=>Sz ci.args ci.roots,false⟩
theorem abG:bM Tryz.prog .none GD:=aN
theorem aei:Contract Tryz.prog .none 97 SC:=by
 have hl:aZ GD [] SB:=bB (by kernel_rfl)
 refine (aI (F:=SA) bg abG Tryz.func97 (by kernel_rfl) (by kernel_rfl) (by kernel_rfl) hl []).weaken ?_
 rintro ⟨av,rs⟩ co h
 have h:(Sz av rs).run some=some co:=h
 obtain ⟨a0_,av0,rfl,h_0⟩:=au h
 obtain ⟨rfl,h_1⟩:=ay h_0
 obtain ⟨rfl,h_2⟩:=ay h_1
 obtain ⟨z2,d1,rfl,h_3⟩:=aD h_2
 exact xq (aeh z2 d1) (aah d1) h_3
def Ka (p0:Int):Tre Bool:=
 .ret (!decide (p0=0))
def U8 (p0:Int):Option Bool:=(Ka p0).run some
theorem Py(p0:Int):U8 p0=some (!decide (p0=0)):=rfl
def wu:Env:=⟨tau,[],[]⟩
def FN:Code:=(Tryz.f137.body).getD .skip
def FM:FnI:=⟨FN,Tryz.f137.results.toList,Tryz.f137.resultTypes.toList,[]⟩
def BA (_p0:Int):Bool→aB:=fun r=>⟨(.imm true .bool r),[],[]⟩
theorem Ug:∀(p0:Int),bN wu FM ⟨[(.imm true (.int .i64) p0)],[]⟩=(Ka p0).run fun r=>some (BA p0 r):=fun _=>by kernel_rfl
def FL (av:List AV) (rs:List Root):Tre aB:=
 aJ av fun a0_ av0=>
 aU av0<|
 aU rs<|
 aC true (.int .i64) a0_ fun d1=>
 .ret (BA d1 (!decide (d1=0)))
def FP:Ctr:=⟨[],fun ci=>FL ci.args ci.roots,false⟩
theorem Q7:bM Tryz.prog .none wu:=aN
theorem Uh:Contract Tryz.prog .none 137 FP:=by
 have hl:aZ wu [] FN:=bB (by kernel_rfl)
 refine (aI (F:=FM) bg Q7 Tryz.func137 (by kernel_rfl) (by kernel_rfl) (by kernel_rfl) hl []).weaken ?_
 rintro ⟨av,rs⟩ co h
 have h:(FL av rs).run some=some co:=h
 obtain ⟨a0_,av0,rfl,h_0⟩:=au h
 obtain ⟨rfl,h_1⟩:=ay h_0
 obtain ⟨rfl,h_2⟩:=ay h_1
 obtain ⟨d1,rfl,h_3⟩:=ak h_2
 exact xq (Ug d1) (Py d1) h_3
def aau (h2_0_0:List Int) (h2_0_1:Int):Int→Tre (Int ⊕ (Int ⊕ Unit)):=fun s2=>
 .cond (decide (s2<h2_0_1))
  (.ite (0≤s2∧s2<(h2_0_0.length:Int))<|
  .mat (h2_0_0[s2.toNat]?) fun x1=>
  .cond (!decide (x1=0))
   (.ret (.inr (.inl s2)))
   (.ret (.inl (aP .i64 (s2+1)))))
  (.ret (.inr (.inr ())))
def nm1 (p0:List Int):Tre Int:=
 .mat (aR (aau p0 (p0.length:Int)) 0) fun l2=>
 .alt l2
  (fun a3=>
   .ret a3)
  (fun _=>
   .ret (-1))
def atb (p0:List Int):Option Int:=(nm1 p0).run some
def aqd:Env:=⟨tau,[(137,FP)],[]⟩
def atc:Code:=(Tryz.f99.body).getD .skip
def aeD (z2_0:Bool) (h2_0_0:List Int) (h2_0_1:Int):Int→St:=fun x=>bR [(0,(.imm z2_0 (.sl (.int .i64)) h2_0_0)),(1,(.fn 137 [])),(7,(.imm true (.int .i64) h2_0_1)),(8,(.imm true (.int .i64) x))] []
def Ro (_z2_0:Bool) (_h2_0_0:List Int) (_h2_0_1:Int):(Int ⊕ Unit)→Ex×St
 |.inl x=>(.ret,bR [(4,(.imm true (.int .i64) x))] [])
 |.inr _=>(.exit 0,bR [(4,.dead)] [])
def aqe (s:St):Tre (Ex×St):=
 bE (.sl (.int .i64)) (s.tmps 0) fun z3 d2=>
 aa4 137 [] (s.tmps 1)<|
 aC true (.int .i64) (s.tmps 7) fun d6=>
 aC true (.int .i64) (s.tmps 8) fun d8=>
 .mat (aR (aau d2 d6) d8) fun x=>.alt x (fun a0=>.ret (Ro z3 d2 d6 (.inl a0))) (fun b0=>.ret (Ro z3 d2 d6 (.inr b0)))
def PU:bK:=⟨([0,1,7,8],[]),([4],[]),aqe⟩
def ata:List (Nat×bK):=[(2,PU)]
theorem aqf:∀(z2_0:Bool)(h2_0_0:List Int)(h2_0_1:Int)(x:Int)(c:St→Option (Ex×St)),den aqd ata (aY atc 0) (aeD z2_0 h2_0_0 h2_0_1 x) (bU PU.kp PU.kx c)=(aau h2_0_0 h2_0_1 x).run (bV (aeD z2_0 h2_0_0 h2_0_1) (Ro z2_0 h2_0_0 h2_0_1) c):=fun _ _ _ _ _=>by
 kernel_rfl
theorem auC:bS aqd ata (aY atc 0) PU:=bA fun s e s' h=>by
 generalize hs:restrict PU.kp s=s1 at h
 have h:(aqe s1).run some=some (e,s'):=h
 obtain ⟨z3,d2,e1,h_0⟩:=aD h
 obtain ⟨e4,h_1⟩:=nK h_0
 obtain ⟨d6,e5,h_2⟩:=ak h_1
 obtain ⟨d8,e7,h_3⟩:=ak h_2
 obtain ⟨y,hy,hz⟩:=jR h_3
 refine ⟨_,_,aeD z3 d2 d6,Ro z3 d2 d6,aau d2 d6,d8,y,?_,hy,?_,aqf z3 d2 d6⟩
 ·subst hs;exact aT (T:=[(0,(.imm z3 (.sl (.int .i64)) d2)),(1,(.fn 137 [])),(7,(.imm true (.int .i64) d6)),(8,(.imm true (.int .i64) d8))]) (U:=[]) rfl rfl ⟨e1,e4,e5,e7,trivial⟩ trivial
 ·rcases y with x|x<;>exact Option.some.inj hz
def azv:FnI:=⟨atc,Tryz.f99.results.toList,Tryz.f99.resultTypes.toList,ata⟩
def atd (_zp0:Bool) (_p0:List Int):Int→aB:=fun r=>⟨(.imm true (.int .i64) r),[],[]⟩
theorem aAy:∀(zp0:Bool)(p0:List Int),bN aqd azv ⟨[(.imm zp0 (.sl (.int .i64)) p0),(.fn 137 [])],[]⟩=(nm1 p0).run fun r=>some (atd zp0 p0 r):=fun _ _=>by kernel_rfl
def azu (av:List AV) (rs:List Root):Tre aB:=
 aJ av fun a0_ av0=>
 aJ av0 fun a1_ av1=>
 aU av1<|
 aU rs<|
 bE (.sl (.int .i64)) a0_ fun z2 d1=>
 aa4 137 [] a1_<|
 .mat (atb d1) fun r=>.ret (atd z2 d1 r)
def azw:Ctr:=⟨[],fun ci=>azu ci.args ci.roots,false⟩
theorem ayl:bM Tryz.prog .none aqd:=(aA Uh aAk aN)
theorem aAz:Contract Tryz.prog .none 99 azw:=by
 have hl:aZ aqd ata atc:=(bC (n:=1) (by kernel_rfl) fun k hk=>by
   match k,hk with
   |0,_=>exact bq (id:=2) (L:=PU) (by kernel_rfl) (by kernel_rfl) auC)
 refine (aI (F:=azv) bg ayl Tryz.func99 (by kernel_rfl) (by kernel_rfl) (by kernel_rfl) hl []).weaken ?_
 rintro ⟨av,rs⟩ co h
 have h:(azu av rs).run some=some co:=h
 obtain ⟨a0_,av0,rfl,h_0⟩:=au h
 obtain ⟨a1_,av1,rfl,h_1⟩:=au h_0
 obtain ⟨rfl,h_2⟩:=ay h_1
 obtain ⟨rfl,h_3⟩:=ay h_2
 obtain ⟨z2,d1,rfl,h_4⟩:=aD h_3
 obtain ⟨rfl,h_5⟩:=nK h_4
 exact bJ (aAy z2 d1) h_5
def gL (h3_0_0:(List (List Int))) (h3_0_1:Int):(Int×(List Int))→Tre ((Int×(List Int)) ⊕ (List Int)):=fun s3=>
 .cond (decide (s3.1<h3_0_1))
  (.ite (0≤s3.1∧s3.1<(h3_0_0.length:Int))<|
  .mat (h3_0_0[s3.1.toNat]?) fun x1=>
  .mat (atb x1) fun r2=>
  .ite ((s3.2.length+1)*8≤bO∧1≤8)<|
  .ret (.inl (aP .i64 (s3.1+1),s3.2++([r2]))))
  (.ret (.inr s3.2))
def Dw (p0:dQ):Tre (List Int):=
 .mat (aR (gL p0.2.2.1 (p0.2.2.1.length:Int)) (0,[])) fun l3=>
 .ret l3
def rR (p0:dQ):Option (List Int):=(Dw p0).run some
def mQ:Env:=⟨tau,[(99,azw)],[]⟩
def rT:Code:=(Tryz.f124.body).getD .skip
def rU (z3_0:Bool) (h3_0_0:(List (List Int))) (h3_0_1:Int):(Int×(List Int))→St:=fun x=>bR [(3,(.ref (5,0) [])),(8,(.imm z3_0 (.sl (.sl (.int .i64))) h3_0_0)),(9,(.imm true (.int .i64) h3_0_1)),(10,(.imm true (.int .i64) x.1))] [((5,0),some ⟨false,(.sl (.int .i64)),.own,x.2⟩)]
def ql (_z3_0:Bool) (_h3_0_0:(List (List Int))) (_h3_0_1:Int):(List Int)→Ex×St:=fun x=>(.exit 0,bR [(3,(.ref (5,0) []))] [((5,0),some ⟨false,(.sl (.int .i64)),.own,x⟩)])
def CW (s:St):Tre (Ex×St):=
 dz (5,0) [] (s.tmps 3)<|
 bE (.sl (.sl (.int .i64))) (s.tmps 8) fun z4 d3=>
 aC true (.int .i64) (s.tmps 9) fun d6=>
 aC true (.int .i64) (s.tmps 10) fun d8=>
 bD false (.sl (.int .i64)) (s.roots (5,0)) fun m10 d11=>
 asM .own m10<|
 .mat (aR (gL d3 d6) (d8,d11)) fun x=>.ret (ql z4 d3 d6 x)
def ig:bK:=⟨([3,8,9,10],[(5,0)]),([3],[(5,0)]),CW⟩
def rQ:List (Nat×bK):=[(3,ig)]
theorem Og:∀(z3_0:Bool)(h3_0_0:(List (List Int)))(h3_0_1:Int)(x:(Int×(List Int)))(c:St→Option (Ex×St)),den mQ rQ (aY rT 0) (rU z3_0 h3_0_0 h3_0_1 x) (bU ig.kp ig.kx c)=(gL h3_0_0 h3_0_1 x).run (bV (rU z3_0 h3_0_0 h3_0_1) (ql z3_0 h3_0_0 h3_0_1) c):=fun _ _ _ _ _=>by
 kernel_rfl
theorem Q6:bS mQ rQ (aY rT 0) ig:=bA fun s e s' h=>by
 generalize hs:restrict ig.kp s=s1 at h
 have h:(CW s1).run some=some (e,s'):=h
 obtain ⟨e1,h_0⟩:=bf h
 obtain ⟨z4,d3,e2,h_1⟩:=aD h_0
 obtain ⟨d6,e5,h_2⟩:=ak h_1
 obtain ⟨d8,e7,h_3⟩:=ak h_2
 obtain ⟨m10,d11,e9,h_4⟩:=aH h_3
 obtain ⟨rfl,h_5⟩:=aQ h_4
 obtain ⟨y,hy,hz⟩:=bT h_5
 refine ⟨_,_,rU z4 d3 d6,ql z4 d3 d6,gL d3 d6,(d8,d11),y,?_,hy,?_,Og z4 d3 d6⟩
 ·subst hs;exact aT (T:=[(3,(.ref (5,0) [])),(8,(.imm z4 (.sl (.sl (.int .i64))) d3)),(9,(.imm true (.int .i64) d6)),(10,(.imm true (.int .i64) d8))]) (U:=[((5,0),some ⟨false,(.sl (.int .i64)),.own,d11⟩)]) rfl rfl ⟨e1,e2,e5,e7,trivial⟩ ⟨e9,trivial⟩
 ·exact Option.some.inj hz
def J8:FnI:=⟨rT,Tryz.f124.results.toList,Tryz.f124.resultTypes.toList,rQ⟩
def FK (_zp0:Bool) (_p0:dQ):(List Int)→aB:=fun r=>⟨(.ref (1,0) []),[],[⟨false,(.sl (.int .i64)),.own,r⟩]⟩
theorem X7:∀(zp0:Bool)(p0:dQ),bN mQ J8 ⟨[(.imm zp0 eu p0)],[]⟩=(Dw p0).run fun r=>some (FK zp0 p0 r):=fun _ _=>by kernel_rfl
def J7 (av:List AV) (rs:List Root):Tre aB:=
 aJ av fun a0_ av0=>
 aU av0<|
 aU rs<|
 bE eu a0_ fun z2 d1=>
 .mat (rR d1) fun r=>.ret (FK z2 d1 r)
def J9:Ctr:=⟨[],fun ci=>J7 ci.args ci.roots,false⟩
theorem U7:bM Tryz.prog .none mQ:=(aA aAz av5 aN)
theorem X8:Contract Tryz.prog .none 124 J9:=by
 have hl:aZ mQ rQ rT:=(bC (n:=1) (by kernel_rfl) fun k hk=>by
   match k,hk with
   |0,_=>exact bq (id:=3) (L:=ig) (by kernel_rfl) (by kernel_rfl) Q6)
 refine (aI (F:=J8) bg U7 Tryz.func124 (by kernel_rfl) (by kernel_rfl) (by kernel_rfl) hl []).weaken ?_
 rintro ⟨av,rs⟩ co h
 have h:(J7 av rs).run some=some co:=h
 obtain ⟨a0_,av0,rfl,h_0⟩:=au h
 obtain ⟨rfl,h_1⟩:=ay h_0
 obtain ⟨rfl,h_2⟩:=ay h_1
 obtain ⟨z2,d1,rfl,h_3⟩:=aD h_2
 exact bJ (X7 z2 d1) h_3
def jH (h2_0_0:List Int) (h2_0_1:Int) (h2_0_2:Int):Int→Tre (Int ⊕ (Int ⊕ Unit)):=fun s2=>
 .cond (decide (s2<h2_0_2))
  (.ite (0≤s2∧s2<(h2_0_0.length:Int))<|
  .mat (h2_0_0[s2.toNat]?) fun x1=>
  .cond (decide (h2_0_1=x1))
   (.ret (.inr (.inl s2)))
   (.ret (.inl (aP .i64 (s2+1)))))
  (.ret (.inr (.inr ())))
def slices_Index_int (p0:List Int) (p1:Int):Tre Int:=
 .mat (aR (jH p0 p1 (p0.length:Int)) 0) fun l2=>
 .alt l2
  (fun a3=>
   .ret a3)
  (fun _=>
   .ret (-1))
def sQ (p0:List Int) (p1:Int):Option Int:=(slices_Index_int p0 p1).run some
def ng:Env:=⟨tau,[],[]⟩
def sS:Code:=(Tryz.f138.body).getD .skip
def sU (z2_0:Bool) (h2_0_0:List Int) (h2_0_1:Int) (h2_0_2:Int):Int→St:=fun x=>bR [(0,(.imm z2_0 (.sl (.int .i64)) h2_0_0)),(1,(.imm true (.int .i64) h2_0_1)),(7,(.imm true (.int .i64) h2_0_2)),(8,(.imm true (.int .i64) x))] []
def lF (_z2_0:Bool) (_h2_0_0:List Int) (_h2_0_1:Int) (_h2_0_2:Int):(Int ⊕ Unit)→Ex×St
 |.inl x=>(.ret,bR [(4,(.imm true (.int .i64) x))] [])
 |.inr _=>(.exit 0,bR [(4,.dead)] [])
def Di (s:St):Tre (Ex×St):=
 bE (.sl (.int .i64)) (s.tmps 0) fun z3 d2=>
 aC true (.int .i64) (s.tmps 1) fun d5=>
 aC true (.int .i64) (s.tmps 7) fun d7=>
 aC true (.int .i64) (s.tmps 8) fun d9=>
 .mat (aR (jH d2 d5 d7) d9) fun x=>.alt x (fun a0=>.ret (lF z3 d2 d5 d7 (.inl a0))) (fun b0=>.ret (lF z3 d2 d5 d7 (.inr b0)))
def iB:bK:=⟨([0,1,7,8],[]),([4],[]),Di⟩
def sP:List (Nat×bK):=[(2,iB)]
theorem OJ:∀(z2_0:Bool)(h2_0_0:List Int)(h2_0_1:Int)(h2_0_2:Int)(x:Int)(c:St→Option (Ex×St)),den ng sP (aY sS 0) (sU z2_0 h2_0_0 h2_0_1 h2_0_2 x) (bU iB.kp iB.kx c)=(jH h2_0_0 h2_0_1 h2_0_2 x).run (bV (sU z2_0 h2_0_0 h2_0_1 h2_0_2) (lF z2_0 h2_0_0 h2_0_1 h2_0_2) c):=fun _ _ _ _ _ _=>by
 kernel_rfl
theorem R4:bS ng sP (aY sS 0) iB:=bA fun s e s' h=>by
 generalize hs:restrict iB.kp s=s1 at h
 have h:(Di s1).run some=some (e,s'):=h
 obtain ⟨z3,d2,e1,h_0⟩:=aD h
 obtain ⟨d5,e4,h_1⟩:=ak h_0
 obtain ⟨d7,e6,h_2⟩:=ak h_1
 obtain ⟨d9,e8,h_3⟩:=ak h_2
 obtain ⟨y,hy,hz⟩:=jR h_3
 refine ⟨_,_,sU z3 d2 d5 d7,lF z3 d2 d5 d7,jH d2 d5 d7,d9,y,?_,hy,?_,OJ z3 d2 d5 d7⟩
 ·subst hs;exact aT (T:=[(0,(.imm z3 (.sl (.int .i64)) d2)),(1,(.imm true (.int .i64) d5)),(7,(.imm true (.int .i64) d7)),(8,(.imm true (.int .i64) d9))]) (U:=[]) rfl rfl ⟨e1,e4,e6,e8,trivial⟩ trivial
 ·rcases y with x|x<;>exact Option.some.inj hz
def LH:FnI:=⟨sS,Tryz.f138.results.toList,Tryz.f138.resultTypes.toList,sP⟩
def Gq (_zp0:Bool) (_p0:List Int) (_p1:Int):Int→aB:=fun r=>⟨(.imm true (.int .i64) r),[],[]⟩
theorem YB:∀(zp0:Bool)(p0:List Int)(p1:Int),bN ng LH ⟨[(.imm zp0 (.sl (.int .i64)) p0),(.imm true (.int .i64) p1)],[]⟩=(slices_Index_int p0 p1).run fun r=>some (Gq zp0 p0 p1 r):=fun _ _ _=>by kernel_rfl
def LG (av:List AV) (rs:List Root):Tre aB:=
 aJ av fun a0_ av0=>
 aJ av0 fun a1_ av1=>
 aU av1<|
 aU rs<|
 bE (.sl (.int .i64)) a0_ fun z2 d1=>
 aC true (.int .i64) a1_ fun d3=>
 .mat (sQ d1 d3) fun r=>.ret (Gq z2 d1 d3 r)
def LJ:Ctr:=⟨[],fun ci=>LG ci.args ci.roots,false⟩
theorem Xi:bM Tryz.prog .none ng:=aN
theorem YC:Contract Tryz.prog .none 138 LJ:=by
 have hl:aZ ng sP sS:=(bC (n:=1) (by kernel_rfl) fun k hk=>by
   match k,hk with
   |0,_=>exact bq (id:=2) (L:=iB) (by kernel_rfl) (by kernel_rfl) R4)
 refine (aI (F:=LH) bg Xi Tryz.func138 (by kernel_rfl) (by kernel_rfl) (by kernel_rfl) hl []).weaken ?_
 rintro ⟨av,rs⟩ co h
 have h:(LG av rs).run some=some co:=h
 obtain ⟨a0_,av0,rfl,h_0⟩:=au h
 obtain ⟨a1_,av1,rfl,h_1⟩:=au h_0
 obtain ⟨rfl,h_2⟩:=ay h_1
 obtain ⟨rfl,h_3⟩:=ay h_2
 obtain ⟨z2,d1,rfl,h_4⟩:=aD h_3
 obtain ⟨d3,rfl,h_5⟩:=ak h_4
 exact bJ (YB z2 d1 d3) h_5
def slices_Contains_int (p0:List Int) (p1:Int):Tre Bool:=
 .mat (sQ p0 p1) fun r1=>
 .ret (decide (r1 ≥ 0))
def nA (p0:List Int) (p1:Int):Option Bool:=(slices_Contains_int p0 p1).run some
def uY:Env:=⟨tau,[(138,LJ)],[]⟩
def Df:Code:=(Tryz.f125.body).getD .skip
def Dc:FnI:=⟨Df,Tryz.f125.results.toList,Tryz.f125.resultTypes.toList,[]⟩
def Ba (_zp0:Bool) (_p0:List Int) (_p1:Int):Bool→aB:=fun r=>⟨(.imm true .bool r),[],[]⟩
theorem RZ:∀(zp0:Bool)(p0:List Int)(p1:Int),bN uY Dc ⟨[(.imm zp0 (.sl (.int .i64)) p0),(.imm true (.int .i64) p1)],[]⟩=(slices_Contains_int p0 p1).run fun r=>some (Ba zp0 p0 p1 r):=fun _ _ _=>by kernel_rfl
def Db (av:List AV) (rs:List Root):Tre aB:=
 aJ av fun a0_ av0=>
 aJ av0 fun a1_ av1=>
 aU av1<|
 aU rs<|
 bE (.sl (.int .i64)) a0_ fun z2 d1=>
 aC true (.int .i64) a1_ fun d3=>
 .mat (nA d1 d3) fun r=>.ret (Ba z2 d1 d3 r)
def Dh:Ctr:=⟨[],fun ci=>Db ci.args ci.roots,false⟩
theorem Qv:bM Tryz.prog .none uY:=(aA YC aAl aN)
theorem R3:Contract Tryz.prog .none 125 Dh:=by
 have hl:aZ uY [] Df:=bB (by kernel_rfl)
 refine (aI (F:=Dc) bg Qv Tryz.func125 (by kernel_rfl) (by kernel_rfl) (by kernel_rfl) hl []).weaken ?_
 rintro ⟨av,rs⟩ co h
 have h:(Db av rs).run some=some co:=h
 obtain ⟨a0_,av0,rfl,h_0⟩:=au h
 obtain ⟨a1_,av1,rfl,h_1⟩:=au h_0
 obtain ⟨rfl,h_2⟩:=ay h_1
 obtain ⟨rfl,h_3⟩:=ay h_2
 obtain ⟨z2,d1,rfl,h_4⟩:=aD h_3
 obtain ⟨d3,rfl,h_5⟩:=ak h_4
 exact bJ (RZ z2 d1 d3) h_5
def gK (h9_0_0:Int) (h9_0_3:Int) (h9_0_5:dQ) (h9_0_7:List Int):(Int×(List Int))→Tre ((Int×(List Int)) ⊕ (List Int)):=fun s9=>
 .cond (decide (s9.1<h9_0_3))
  (.ite (0≤s9.1∧s9.1<(h9_0_7.length:Int))<|
  .mat (h9_0_7[s9.1.toNat]?) fun x5=>
  .ite (0≤s9.1∧s9.1<(h9_0_5.2.2.1.length:Int))<|
  .mat (h9_0_5.2.2.1[s9.1.toNat]?) fun x6=>
  .ite (0≤h9_0_0∧h9_0_0<(x6.length:Int))<|
  .mat (x6[h9_0_0.toNat]?) fun x7=>
  .ite (0≤x5∧x5<(s9.2.length:Int))<|
  .mat (s9.2[x5.toNat]?) fun _=>
  .ret (.inl (aP .i64 (s9.1+1),s9.2.set x5.toNat x7)))
  (.ret (.inr s9.2))
def gJ (h3_0_0:Int) (h3_0_2:dQ) (h3_0_4:List Int):(Int×(List (List Int)))→Tre ((Int×(List (List Int))) ⊕ (List (List Int))):=fun s3=>
 .cond (decide (s3.1<h3_0_0))
  (.mat (nA h3_0_4 s3.1) fun r2=>
  .cond r2
   (.ret (.inl (aP .i64 (s3.1+1),s3.2)))
   (.ite (((.int .i64):K)=(.int .i64)∧0≤h3_0_2.2.1∧h3_0_2.2.1=h3_0_2.2.1∧h3_0_2.2.1*(8:Nat)≤140737488355328∧1≤8)<|
   .ite (0≤s3.1∧s3.1<((List.replicate h3_0_2.2.1.toNat (0:Int)).length:Int))<|
   .mat ((List.replicate h3_0_2.2.1.toNat (0:Int))[s3.1.toNat]?) fun _=>
   let v4:=(List.replicate h3_0_2.2.1.toNat (0:Int)).set s3.1.toNat 1
   .mat (aR (gK s3.1 (h3_0_4.length:Int) h3_0_2 h3_0_4) (0,v4)) fun l9=>
   .ite ((s3.2.length+1)*24≤bO∧1≤24)<|
   .ret (.inl (aP .i64 (s3.1+1),s3.2++([l9])))))
  (.ret (.inr s3.2))
def Dv (p0:dQ):Tre dQ:=
 .mat (rR p0) fun r1=>
 .mat (aR (gJ p0.2.1 p0 r1) (0,[])) fun l10=>
 .mat (p8 p0.1 p0.2.1 l10) fun r11=>
 .ret (p0.1,(p0.2.1,(r11,())))
def rM (p0:dQ):Option dQ:=(Dv p0).run some
def iQ:Env:=⟨tau,[(124,J9),(125,Dh),(96,Du)],[(1000000,[((4,0),[.snd,.snd,.fst],false)])]⟩
def jZ:Code:=(Tryz.f98.body).getD .skip
def rP (z9_0:Bool) (h9_0_0:Int) (h9_0_1:Int) (h9_0_2:Int) (h9_0_3:Int) (h9_0_5:dQ) (h9_0_6:dQ) (h9_0_7:List Int) (h9_0_8:(List (List Int))):(Int×(List Int))→St:=fun x=>bR [(1,(.ptr (3,0) [])),(2,(.ptr (4,0) [])),(3,(.ref (5,0) [])),(4,(.ref (6,0) [])),(5,(.imm true (.int .i64) h9_0_0)),(6,(.ref (8,0) [])),(13,(.imm true (.int .i64) h9_0_1)),(14,(.imm true (.int .i64) h9_0_2)),(26,(.ref (5,0) [])),(27,(.imm true (.int .i64) h9_0_3)),(28,(.imm true (.int .i64) x.1))] [((3,0),some ⟨true,eu,(.imm z9_0),h9_0_5⟩),((4,0),some ⟨true,eu,.own,h9_0_6⟩),((5,0),some ⟨false,(.sl (.int .i64)),.own,h9_0_7⟩),((6,0),some ⟨false,(.sl (.sl (.int .i64))),.own,h9_0_8⟩),((8,0),some ⟨false,(.sl (.int .i64)),.own,x.2⟩)]
def qj (z9_0:Bool) (_h9_0_0:Int) (h9_0_1:Int) (h9_0_2:Int) (_h9_0_3:Int) (h9_0_5:dQ) (h9_0_6:dQ) (h9_0_7:List Int) (h9_0_8:(List (List Int))):(List Int)→Ex×St:=fun x=>(.exit 2,bR [(1,(.ptr (3,0) [])),(2,(.ptr (4,0) [])),(3,(.ref (5,0) [])),(4,(.ref (6,0) [])),(6,(.ref (8,0) [])),(13,(.imm true (.int .i64) h9_0_1)),(14,(.imm true (.int .i64) h9_0_2))] [((3,0),some ⟨true,eu,(.imm z9_0),h9_0_5⟩),((4,0),some ⟨true,eu,.own,h9_0_6⟩),((5,0),some ⟨false,(.sl (.int .i64)),.own,h9_0_7⟩),((6,0),some ⟨false,(.sl (.sl (.int .i64))),.own,h9_0_8⟩),((8,0),some ⟨false,(.sl (.int .i64)),.own,x⟩)])
def CV (s:St):Tre (Ex×St):=
 dU (3,0) [] (s.tmps 1)<|
 dU (4,0) [] (s.tmps 2)<|
 dz (5,0) [] (s.tmps 3)<|
 dz (6,0) [] (s.tmps 4)<|
 aC true (.int .i64) (s.tmps 5) fun d6=>
 dz (8,0) [] (s.tmps 6)<|
 aC true (.int .i64) (s.tmps 13) fun d9=>
 aC true (.int .i64) (s.tmps 14) fun d11=>
 dz (5,0) [] (s.tmps 26)<|
 aC true (.int .i64) (s.tmps 27) fun d14=>
 aC true (.int .i64) (s.tmps 28) fun d16=>
 bD true eu (s.roots (3,0)) fun m18 d19=>
 vQ m18 fun z20=>
 bD true eu (s.roots (4,0)) fun m22 d23=>
 asM .own m22<|
 bD false (.sl (.int .i64)) (s.roots (5,0)) fun m25 d26=>
 asM .own m25<|
 bD false (.sl (.sl (.int .i64))) (s.roots (6,0)) fun m28 d29=>
 asM .own m28<|
 bD false (.sl (.int .i64)) (s.roots (8,0)) fun m31 d32=>
 asM .own m31<|
 .mat (aR (gK d6 d14 d19 d26) (d16,d32)) fun x=>.ret (qj z20 d6 d9 d11 d14 d19 d23 d26 d29 x)
def gZ:bK:=⟨([1,2,3,4,5,6,13,14,26,27,28],[(3,0),(4,0),(5,0),(6,0),(8,0)]),([1,2,3,4,6,13,14],[(3,0),(4,0),(5,0),(6,0),(8,0)]),CV⟩
def rO (z3_0:Bool) (h3_0_0:Int) (h3_0_2:dQ) (h3_0_3:dQ) (h3_0_4:List Int):(Int×(List (List Int)))→St:=fun x=>bR [(1,(.ptr (3,0) [])),(2,(.ptr (4,0) [])),(3,(.ref (5,0) [])),(4,(.ref (6,0) [])),(13,(.imm true (.int .i64) h3_0_0)),(14,(.imm true (.int .i64) x.1))] [((3,0),some ⟨true,eu,(.imm z3_0),h3_0_2⟩),((4,0),some ⟨true,eu,.own,h3_0_3⟩),((5,0),some ⟨false,(.sl (.int .i64)),.own,h3_0_4⟩),((6,0),some ⟨false,(.sl (.sl (.int .i64))),.own,x.2⟩)]
def qh (z3_0:Bool) (_h3_0_0:Int) (h3_0_2:dQ) (h3_0_3:dQ) (_h3_0_4:List Int):(List (List Int))→Ex×St:=fun x=>(.exit 0,bR [(1,(.ptr (3,0) [])),(2,(.ptr (4,0) [])),(4,(.ref (6,0) []))] [((3,0),some ⟨true,eu,(.imm z3_0),h3_0_2⟩),((4,0),some ⟨true,eu,.own,h3_0_3⟩),((6,0),some ⟨false,(.sl (.sl (.int .i64))),.own,x⟩)])
def CU (s:St):Tre (Ex×St):=
 dU (3,0) [] (s.tmps 1)<|
 dU (4,0) [] (s.tmps 2)<|
 dz (5,0) [] (s.tmps 3)<|
 dz (6,0) [] (s.tmps 4)<|
 aC true (.int .i64) (s.tmps 13) fun d6=>
 aC true (.int .i64) (s.tmps 14) fun d8=>
 bD true eu (s.roots (3,0)) fun m10 d11=>
 vQ m10 fun z12=>
 bD true eu (s.roots (4,0)) fun m14 d15=>
 asM .own m14<|
 bD false (.sl (.int .i64)) (s.roots (5,0)) fun m17 d18=>
 asM .own m17<|
 bD false (.sl (.sl (.int .i64))) (s.roots (6,0)) fun m20 d21=>
 asM .own m20<|
 .mat (aR (gJ d6 d11 d18) (d8,d21)) fun x=>.ret (qh z12 d6 d11 d15 d18 x)
def gY:bK:=⟨([1,2,3,4,13,14],[(3,0),(4,0),(5,0),(6,0)]),([1,2,4],[(3,0),(4,0),(6,0)]),CU⟩
def jY:List (Nat×bK):=[(9,gZ),(3,gY)]
theorem Oe:∀(z9_0:Bool)(h9_0_0:Int)(h9_0_1:Int)(h9_0_2:Int)(h9_0_3:Int)(h9_0_5:dQ)(h9_0_6:dQ)(h9_0_7:List Int)(h9_0_8:(List (List Int)))(x:(Int×(List Int)))(c:St→Option (Ex×St)),den iQ jY (aY jZ 1) (rP z9_0 h9_0_0 h9_0_1 h9_0_2 h9_0_3 h9_0_5 h9_0_6 h9_0_7 h9_0_8 x) (bU gZ.kp gZ.kx c)=(gK h9_0_0 h9_0_3 h9_0_5 h9_0_7 x).run (bV (rP z9_0 h9_0_0 h9_0_1 h9_0_2 h9_0_3 h9_0_5 h9_0_6 h9_0_7 h9_0_8) (qj z9_0 h9_0_0 h9_0_1 h9_0_2 h9_0_3 h9_0_5 h9_0_6 h9_0_7 h9_0_8) c):=fun _ _ _ _ _ _ _ _ _ _ _=>by
 kernel_rfl
theorem Q5:bS iQ jY (aY jZ 1) gZ:=bA fun s e s' h=>by
 generalize hs:restrict gZ.kp s=s1 at h
 have h:(CV s1).run some=some (e,s'):=h
 obtain ⟨e1,h_0⟩:=bF h
 obtain ⟨e2,h_1⟩:=bF h_0
 obtain ⟨e3,h_2⟩:=bf h_1
 obtain ⟨e4,h_3⟩:=bf h_2
 obtain ⟨d6,e5,h_4⟩:=ak h_3
 obtain ⟨e7,h_5⟩:=bf h_4
 obtain ⟨d9,e8,h_6⟩:=ak h_5
 obtain ⟨d11,e10,h_7⟩:=ak h_6
 obtain ⟨e12,h_8⟩:=bf h_7
 obtain ⟨d14,e13,h_9⟩:=ak h_8
 obtain ⟨d16,e15,h_10⟩:=ak h_9
 obtain ⟨m18,d19,e17,h_11⟩:=aH h_10
 obtain ⟨z20,rfl,h_12⟩:=fH h_11
 obtain ⟨m22,d23,e21,h_13⟩:=aH h_12
 obtain ⟨rfl,h_14⟩:=aQ h_13
 obtain ⟨m25,d26,e24,h_15⟩:=aH h_14
 obtain ⟨rfl,h_16⟩:=aQ h_15
 obtain ⟨m28,d29,e27,h_17⟩:=aH h_16
 obtain ⟨rfl,h_18⟩:=aQ h_17
 obtain ⟨m31,d32,e30,h_19⟩:=aH h_18
 obtain ⟨rfl,h_20⟩:=aQ h_19
 obtain ⟨y,hy,hz⟩:=bT h_20
 refine ⟨_,_,rP z20 d6 d9 d11 d14 d19 d23 d26 d29,qj z20 d6 d9 d11 d14 d19 d23 d26 d29,gK d6 d14 d19 d26,(d16,d32),y,?_,hy,?_,Oe z20 d6 d9 d11 d14 d19 d23 d26 d29⟩
 ·subst hs;exact aT (T:=[(1,(.ptr (3,0) [])),(2,(.ptr (4,0) [])),(3,(.ref (5,0) [])),(4,(.ref (6,0) [])),(5,(.imm true (.int .i64) d6)),(6,(.ref (8,0) [])),(13,(.imm true (.int .i64) d9)),(14,(.imm true (.int .i64) d11)),(26,(.ref (5,0) [])),(27,(.imm true (.int .i64) d14)),(28,(.imm true (.int .i64) d16))]) (U:=[((3,0),some ⟨true,eu,(.imm z20),d19⟩),((4,0),some ⟨true,eu,.own,d23⟩),((5,0),some ⟨false,(.sl (.int .i64)),.own,d26⟩),((6,0),some ⟨false,(.sl (.sl (.int .i64))),.own,d29⟩),((8,0),some ⟨false,(.sl (.int .i64)),.own,d32⟩)]) rfl rfl ⟨e1,e2,e3,e4,e5,e7,e8,e10,e12,e13,e15,trivial⟩ ⟨e17,e21,e24,e27,e30,trivial⟩
 ·exact Option.some.inj hz
theorem Od:∀(z3_0:Bool)(h3_0_0:Int)(h3_0_2:dQ)(h3_0_3:dQ)(h3_0_4:List Int)(x:(Int×(List (List Int))))(c:St→Option (Ex×St)),den iQ jY (aY jZ 0) (rO z3_0 h3_0_0 h3_0_2 h3_0_3 h3_0_4 x) (bU gY.kp gY.kx c)=(gJ h3_0_0 h3_0_2 h3_0_4 x).run (bV (rO z3_0 h3_0_0 h3_0_2 h3_0_3 h3_0_4) (qh z3_0 h3_0_0 h3_0_2 h3_0_3 h3_0_4) c):=fun _ _ _ _ _ _ _=>by
 kernel_rfl
theorem Q0:bS iQ jY (aY jZ 0) gY:=bA fun s e s' h=>by
 generalize hs:restrict gY.kp s=s1 at h
 have h:(CU s1).run some=some (e,s'):=h
 obtain ⟨e1,h_0⟩:=bF h
 obtain ⟨e2,h_1⟩:=bF h_0
 obtain ⟨e3,h_2⟩:=bf h_1
 obtain ⟨e4,h_3⟩:=bf h_2
 obtain ⟨d6,e5,h_4⟩:=ak h_3
 obtain ⟨d8,e7,h_5⟩:=ak h_4
 obtain ⟨m10,d11,e9,h_6⟩:=aH h_5
 obtain ⟨z12,rfl,h_7⟩:=fH h_6
 obtain ⟨m14,d15,e13,h_8⟩:=aH h_7
 obtain ⟨rfl,h_9⟩:=aQ h_8
 obtain ⟨m17,d18,e16,h_10⟩:=aH h_9
 obtain ⟨rfl,h_11⟩:=aQ h_10
 obtain ⟨m20,d21,e19,h_12⟩:=aH h_11
 obtain ⟨rfl,h_13⟩:=aQ h_12
 obtain ⟨y,hy,hz⟩:=bT h_13
 refine ⟨_,_,rO z12 d6 d11 d15 d18,qh z12 d6 d11 d15 d18,gJ d6 d11 d18,(d8,d21),y,?_,hy,?_,Od z12 d6 d11 d15 d18⟩
 ·subst hs;exact aT (T:=[(1,(.ptr (3,0) [])),(2,(.ptr (4,0) [])),(3,(.ref (5,0) [])),(4,(.ref (6,0) [])),(13,(.imm true (.int .i64) d6)),(14,(.imm true (.int .i64) d8))]) (U:=[((3,0),some ⟨true,eu,(.imm z12),d11⟩),((4,0),some ⟨true,eu,.own,d15⟩),((5,0),some ⟨false,(.sl (.int .i64)),.own,d18⟩),((6,0),some ⟨false,(.sl (.sl (.int .i64))),.own,d21⟩)]) rfl rfl ⟨e1,e2,e3,e4,e5,e7,trivial⟩ ⟨e9,e13,e16,e19,trivial⟩
 ·exact Option.some.inj hz
def J5:FnI:=⟨jZ,Tryz.f98.results.toList,Tryz.f98.resultTypes.toList,jY⟩
def FJ (_zp0:Bool) (_p0:dQ):dQ→aB:=fun r=>⟨(.imm true eu r),[],[]⟩
theorem X5:∀(zp0:Bool)(p0:dQ),bN iQ J5 ⟨[(.imm zp0 eu p0)],[]⟩=(Dv p0).run fun r=>some (FJ zp0 p0 r):=fun _ _=>by kernel_rfl
def J4 (av:List AV) (rs:List Root):Tre aB:=
 aJ av fun a0_ av0=>
 aU av0<|
 aU rs<|
 bE eu a0_ fun z2 d1=>
 .mat (rM d1) fun r=>.ret (FJ z2 d1 r)
def J6:Ctr:=⟨[],fun ci=>J4 ci.args ci.roots,false⟩
theorem U6:bM Tryz.prog .none iQ:=(aA X8 aAb (aA R3 aAc (aA ME azo aN)))
theorem X6:Contract Tryz.prog .none 98 J6:=by
 have hl:aZ iQ jY jZ:=(bC (n:=2) (by kernel_rfl) fun k hk=>by
   match k,hk with
   |0,_=>exact bq (id:=3) (L:=gY) (by kernel_rfl) (by kernel_rfl) Q0
   |1,_=>exact bq (id:=9) (L:=gZ) (by kernel_rfl) (by kernel_rfl) Q5)
 refine (aI (F:=J5) bg U6 Tryz.func98 (by kernel_rfl) (by kernel_rfl) (by kernel_rfl) hl []).weaken ?_
 rintro ⟨av,rs⟩ co h
 have h:(J4 av rs).run some=some co:=h
 obtain ⟨a0_,av0,rfl,h_0⟩:=au h
 obtain ⟨rfl,h_1⟩:=ay h_0
 obtain ⟨rfl,h_2⟩:=ay h_1
 obtain ⟨z2,d1,rfl,h_3⟩:=aD h_2
 exact bJ (X5 z2 d1) h_3
def zy (p0:(Int×(Int×Unit))) (p1:Int) (p2:(List (List Int))):Tre (Unit ⊕ (List Int)):=
 .mat (p8 p0 p1 p2) fun r1=>
 .cond (decide ((r1.length:Int)=p1))
  (.ret (.inl ()))
  (.mat (rM (p0,(p1,(r1,())))) fun r2=>
  .ite ((0:Int)≤0∧(0:Int)<(r2.2.2.1.length:Int))<|
  .mat (r2.2.2.1[0]?) fun x3=>
  .ret (.inr x3))
def kU (p0:(Int×(Int×Unit))) (p1:Int) (p2:(List (List Int))):Option (Unit ⊕ (List Int)):=(zy p0 p1 p2).run some
-- more
theorem awC{r:List Int}{q:Nat}(hq:r[q]?=some 1)(hz:∀e,e<q→r[e]?=some 0)(hl:r.length≤1000000):atb r=some (q:Int):=by
 have hql:=(List.getElem?_eq_some_iff.1 hq).1
 unfold atb nm1
 rw [ah (show aR (aau r (r.length:Int)) 0=some (.inl (q:Int)) from ?_)]
 ·rfl
 refine cO (fun i=>(i:Int)) q _ (fun i hi=>?_) ?_
 ·unfold aau
  rw [dP (hz i hi),Tre.aG,decide_eq_true rfl,Bool.not_true,cond_false,Tre.aK,aV (by omega)]
 ·unfold aau
  rw [dP hq,Tre.aG,decide_eq_false (by decide),Bool.not_false,cond_true,Tre.aK]
theorem auz{f:TF3}{n a:Nat}{G:List (List Int)}{p:List Nat}(h:zP f n n a G p)(hn:n≤1000)(f0:TF3)(n0:Int):rR (f0,n0,G.take a,())=some (aS p):=by
 have hal:=h.al
 have han:=h.ac
 have hpl:=h.pl
 have hlen:(G.take a).length=a:=by rw [List.length_take];omega
 unfold rR Dw
 dsimp only
 rw [ah (show aR (gL (G.take a) ((G.take a).length:Int)) (0,[])=some (aS p) from ?_),Tre.aK]
 refine cO (fun i=>((i:Int),aS (p.take i))) a _ (fun i hi=>?_) ?_
 ·obtain ⟨r,hr,hrok,_⟩:=h.row hi
  obtain ⟨q,hq,hqn⟩:=h.piv hi
  obtain ⟨l1,l2⟩:=h.an7 hi hr hq
  unfold gL
  dsimp only
  rw [dP hr,ah (awC l1 l2 (by rw [hrok.1];omega)),Tre.run_ite,if_pos (by rw [aW,List.length_take];unfold bO;omega),Tre.aK,aV (by omega)]
  rw [List.take_add_one,hq]
  unfold aS
  rw [List.map_append]
  rfl
 ·unfold gL
  dsimp only
  rw [hlen,dw,Tre.aK,List.take_of_length_le (by omega)]
theorem an1{p:List Nat}(hp:p.length≤1000)(c:Nat):nA (aS p) (c:Int)=some (decide (c∈p)):=by
 have h1:sQ (aS p) (c:Int)=some (oq (fun x=>decide ((c:Int)=x)) 0 (aS p)):=by
  unfold sQ slices_Index_int
  rw [Tre.oF,OT (xs:=aS p) (fun i x=>cond (decide ((c:Int)=x)) (some (.inl (i:Int))) none) (.inr ())]
  ·rw [Option.bind_some,←Xq (p:=fun x=>decide ((c:Int)=x))]
   generalize UG _ _ _ _=r
   cases r<;>rfl
  ·intro i x hx
   have hi:i<(aS p).length:=(List.getElem?_eq_some_iff.1 hx).1
   rw [aW] at hi
   unfold jH
   rw [dP hx,Tre.aG]
   cases decide ((c:Int)=x)
   ·simp only [cond_false,Tre.aK,aV (show i<4611686018427387904 by omega)]
   ·rfl
  ·unfold jH
   exact dw
 unfold nA slices_Contains_int
 rw [ah h1]
 have h2:decide (oq (fun x=>decide ((c:Int)=x)) 0 (aS p) ≥ 0)=decide (c∈p):=by
  rcases zZ (fun x=>decide ((c:Int)=x)) (aS p) 0 with ⟨e,hno⟩|⟨k,x,hk,hx,e⟩
  ·rw [e,decide_eq_false (by omega)]
   refine (decide_eq_false fun hc=>?_).symm
   have:=hno (c:Int) (List.mem_map.2 ⟨c,hc,rfl⟩)
   simp at this
  ·rw [e,decide_eq_true (by omega)]
   refine (decide_eq_true ?_).symm
   have hx:=of_decide_eq_true hx
   subst hx
   obtain ⟨y,hy,hyc⟩:=List.mem_map.1 (List.mem_of_getElem? hk)
   have:y=c:=by omega
   exact this ▸ hy
 rw [Tre.aK,h2]
def R9(n:Nat)(p:List Nat)(E:List (List Int))(m:Nat):List (List Int):=((List.range m).filter fun c=>!decide (c∈p)).map fun c=>Tc n c p E
theorem amu(n:Nat)(p:List Nat)(E:List (List Int))(m:Nat):(R9 n p E m).length≤m:=by
 unfold R9
 rw [List.length_map]
 have:=List.length_filter_le (fun c=>!decide (c∈p)) (List.range m)
 rw [List.length_range] at this
 exact this
theorem awy{f:TF3}(hf:aO f=true){n a:Nat}{G:List (List Int)}{p:List Nat}(h:zP f n n a G p)(hn:n≤1000):rM (f,(n:Int),G.take a,())=some (f,(n:Int),ES f n (R9 n p (G.take a) n),()):=by
 have hal:=h.al
 have han:=h.ac
 have hpl:=h.pl
 have hlen:(G.take a).length=a:=by rw [List.length_take];omega
 have hrow:∀c,c<n→aR (gK (c:Int) ((aS p).length:Int) (f,(n:Int),G.take a,()) (aS p)) (0,(List.replicate n (0:Int)).set c 1)=some (Tc n c p (G.take a)):=by
  intro c hc
  refine cO (fun i=>((i:Int),jy c (CF n c) ((p.zip (G.take a)).take i))) a _ (fun i hi=>?_) ?_
  ·obtain ⟨r,hr,hrok,_⟩:=h.row hi
   obtain ⟨q,hq,hqn⟩:=h.piv hi
   have hok:okV f n (jy c (CF n c) ((p.zip (G.take a)).take i)):=KG _ (Qy hf n c) fun x hx=>by
    have:=List.of_mem_zip (a:=x.1) (b:=x.2) (List.mem_of_mem_take hx)
    exact h.gr _ (List.mem_of_mem_take this.2)
   have hrc:=List.getElem?_eq_getElem (show c<r.length by rw [hrok.1];exact hc)
   have hoq:=List.getElem?_eq_getElem (show q<(jy c (CF n c) ((p.zip (G.take a)).take i)).length by rw [hok.1];exact hqn)
   have hrl:c<r.length:=by rw [hrok.1];exact hc
   have hol:q<(jy c (CF n c) ((p.zip (G.take a)).take i)).length:=by rw [hok.1];exact hqn
   unfold gK
   dsimp only
   rw [dP (dA hq),dF hr,dF hrc,dF hoq,Tre.aK,aV (by omega),Int.toNat_natCast,ajR hq hr,vg hrc]
  ·unfold gK
   dsimp only
   rw [aW,hpl,dw,Tre.aK,List.take_of_length_le (by rw [List.length_zip];omega)]
   rfl
 have hrows:aR (gJ (n:Int) (f,(n:Int),G.take a,()) (aS p)) (0,[])=some (R9 n p (G.take a) n):=by
  refine cO (fun c=>((c:Int),R9 n p (G.take a) c)) n _ (fun c hc=>?_) ?_
  ·have hfl:=amu n p (G.take a) c
   have hsu:R9 n p (G.take a) (c+1)=if c∈p then R9 n p (G.take a) c else R9 n p (G.take a) c++[Tc n c p (G.take a)]:=by
    unfold R9
    rw [List.range_succ,List.filter_append,List.map_append]
    by_cases hcp:c∈p
    ·rw [if_pos hcp,List.filter_cons,if_neg (by simp [hcp])];simp
    ·rw [if_neg hcp,List.filter_cons,if_pos (by simp [hcp])];rfl
   unfold gJ
   dsimp only
   rw [Tre.aG,decide_eq_true (by omega),cond_true,ah (an1 (by omega) c),Tre.aG]
   by_cases hcp:c∈p
   ·rw [decide_eq_true hcp,cond_true,Tre.aK,aV (by omega),hsu,if_pos hcp]
   ·rw [decide_eq_false hcp,cond_false,Tre.run_ite,if_pos ⟨rfl,by omega,rfl,by omega,by omega⟩,Int.toNat_natCast]
    rw [dF (show (List.replicate n (0:Int))[c]?=some 0 by rw [List.getElem?_replicate,if_pos hc])]
    rw [Int.toNat_natCast,ah (hrow c hc),Tre.run_ite,if_pos (by unfold bO;omega),Tre.aK,aV (by omega),hsu,if_neg hcp]
  ·unfold gJ
   dsimp only
   rw [dw,Tre.aK]
 have hgr:GR f n (R9 n p (G.take a) n):=by
  intro r hr
  obtain ⟨c,_,rfl⟩:=List.mem_map.1 hr
  exact ajQ hf h c
 unfold rM Dv
 dsimp only
 rw [ah (auz h hn _ _),ah hrows,ah (as2 hf (by omega) hgr (by have:=amu n p (G.take a) n;omega)),Tre.aK]
theorem ar7{f:TF3}(hf:aO f=true){n:Nat}(hn:n≤1000){L:List (List Int)}(h:GR f n L)(hL:L.length≤1000) :
  ((ES f n L).length=n∧kU f (n:Int) L=some (.inl ()))∨((ES f n L).length≠n∧∃x,kU f (n:Int) L=some (.inr x)∧anj f n L x):=by
 have hr:=as2 hf (show n≤1000000 by omega) h (by omega)
 by_cases hl:(ES f n L).length=n
 ·refine .inl ⟨hl,?_⟩
  unfold kU zy
  rw [ah hr,Tre.aG,decide_eq_true (by omega)]
  rfl
 ·refine .inr ⟨hl,?_⟩
  obtain ⟨p,hI,hlen⟩:=zP.all hf (Nat.le_refl n) h
  have hel:=aiQ hf (m:=n) h
  have hE:ES f n L=(gU f 0 n (0,L)).2.take (gU f 0 n (0,L)).1:=rfl
  generalize hs:gU f 0 n (0,L)=s at hI hlen hel hE
  obtain ⟨a,G⟩:=s
  dsimp only at hI hlen hel hE
  have hal:=hI.al
  have hac:=hI.ac
  obtain ⟨c,hc,hcp⟩:=apF (n:=n) hI.pinc (by rw [hI.pl];omega)
  have hgr:GR f n (R9 n p (G.take a) n):=by
   intro r hr
   obtain ⟨c,_,rfl⟩:=List.mem_map.1 hr
   exact ajQ hf hI c
  obtain ⟨x,hx,hk⟩:=ayj hf (E:=G.take a) (D:=R9 n p (G.take a) n) (fun r hr=>hI.gr r (List.mem_of_mem_take hr)) hgr (fun r hr y hy=>by
   obtain ⟨c',hc',rfl⟩:=List.mem_map.1 hy
   obtain ⟨h1,h2⟩:=List.mem_filter.1 hc'
   exact amP hf hI (List.mem_range.1 h1) (by simpa using h2) r hr) hc (d:=Tc n c p (G.take a)) (List.mem_map.2 ⟨c,List.mem_filter.2 ⟨List.mem_range.2 hc,by simp [hcp]⟩,rfl⟩) (aqt hI hc hcp)
  refine ⟨x,?_,anj.awR hf h (hE ▸ hk)⟩
  have hxl:=(List.getElem?_eq_some_iff.1 hx).1
  unfold kU zy
  rw [ah hr,Tre.aG,decide_eq_false (by omega),cond_false,hE,ah (awy hf hI hn)]
  dsimp only
  rw [Tre.run_ite,if_pos ⟨by omega,by omega⟩,ah hx,Tre.aK]
def Br:Env:=⟨tau,[(96,Du),(97,SC),(98,J6)],[(1000001,[])]⟩
def Mx:Code:=(Tryz.f63.body).getD .skip
def Mw:FnI:=⟨Mx,Tryz.f63.results.toList,Tryz.f63.resultTypes.toList,[]⟩
def yH (_zp0:Bool) (_p0:(Int×(Int×Unit))) (_p1:Int) (_p2:(List (List Int))):(Unit ⊕ (List Int))→aB
 |.inl _=>⟨.nil,[],[]⟩
 |.inr r=>⟨(.imm true (.sl (.int .i64)) r),[],[]⟩
theorem ZX:∀(zp0:Bool)(p0:(Int×(Int×Unit)))(p1:Int)(p2:(List (List Int))),bN Br Mw ⟨[(.imm true aL p0),(.imm true (.int .i64) p1),(.imm zp0 (.sl (.sl (.int .i64))) p2)],[]⟩=(zy p0 p1 p2).run fun r=>some (yH zp0 p0 p1 p2 r):=fun _ _ _ _=>by kernel_rfl
def Mv (av:List AV) (rs:List Root):Tre aB:=
 aJ av fun a0_ av0=>
 aJ av0 fun a1_ av1=>
 aJ av1 fun a2_ av2=>
 aU av2<|
 aU rs<|
 aC true aL a0_ fun d1=>
 aC true (.int .i64) a1_ fun d2=>
 bE (.sl (.sl (.int .i64))) a2_ fun z4 d3=>
 .mat (kU d1 d2 d3) fun r=>.alt r (fun a0=>.ret (yH z4 d1 d2 d3 (.inl a0))) (fun b0=>.ret (yH z4 d1 d2 d3 (.inr b0)))
def MB:Ctr:=⟨[],fun ci=>Mv ci.args ci.roots,false⟩
theorem XW:bM Tryz.prog .none Br:=(aA ME azo (aA aei aBL (aA X6 aBM aN)))
theorem ZY:Contract Tryz.prog .none 63 MB:=by
 have hl:aZ Br [] Mx:=bB (by kernel_rfl)
 refine (aI (F:=Mw) bg XW Tryz.func63 (by kernel_rfl) (by kernel_rfl) (by kernel_rfl) hl []).weaken ?_
 rintro ⟨av,rs⟩ co h
 have h:(Mv av rs).run some=some co:=h
 obtain ⟨a0_,av0,rfl,h_0⟩:=au h
 obtain ⟨a1_,av1,rfl,h_1⟩:=au h_0
 obtain ⟨a2_,av2,rfl,h_2⟩:=au h_1
 obtain ⟨rfl,h_3⟩:=ay h_2
 obtain ⟨rfl,h_4⟩:=ay h_3
 obtain ⟨d1,rfl,h_5⟩:=ak h_4
 obtain ⟨d2,rfl,h_6⟩:=ak h_5
 obtain ⟨z4,d3,rfl,h_7⟩:=aD h_6
 exact aiV (ZX z4 d1 d2 d3) h_7 (by rintro (x|x)<;>rfl)
def sN (h7_0_1:Int) (h7_0_3:(List (List Int))):Int→Tre (Int ⊕ Int):=fun s7=>
 .ite (0≤h7_0_1∧h7_0_1<(h7_0_3.length:Int))<|
 .mat (h7_0_3[h7_0_1.toNat]?) fun x2=>
 .ite (0≤s7∧s7<(x2.length:Int))<|
 .mat (x2[s7.toNat]?) fun x3=>
 .cond (decide (x3=0))
  (.ret (.inl (aP .i64 (s7+1))))
  (.ret (.inr s7))
def sM (h4_0_2:(List (List Int))):(Int×(List Int))→Tre ((Int×(List Int)) ⊕ (List Int)):=fun s4=>
 .cond (decide (s4.1<(h4_0_2.length:Int)))
  (.mat (aR (sN s4.1 h4_0_2) 0) fun l4=>
  .ite ((s4.2.length+1)*8≤bO∧1≤8)<|
  .ret (.inl (aP .i64 (s4.1+1),s4.2++([l4]))))
  (.ret (.inr s4.2))
def pq (h17_0_0:Int) (h17_0_2:(List (List Int))) (h17_0_3:List Int):(Int×(List Int))→Tre ((Int×(List Int)) ⊕ (List Int)):=fun s17=>
 .cond (decide (s17.1<(h17_0_2.length:Int)))
  (.ite (0≤s17.1∧s17.1<(h17_0_3.length:Int))<|
  .mat (h17_0_3[s17.1.toNat]?) fun x9=>
  .ite (0≤s17.1∧s17.1<(h17_0_2.length:Int))<|
  .mat (h17_0_2[s17.1.toNat]?) fun x10=>
  .ite (0≤h17_0_0∧h17_0_0<(x10.length:Int))<|
  .mat (x10[h17_0_0.toNat]?) fun x11=>
  .ite (0≤x9∧x9<(s17.2.length:Int))<|
  .mat (s17.2[x9.toNat]?) fun _=>
  .ret (.inl (aP .i64 (s17.1+1),s17.2.set x9.toNat x11)))
  (.ret (.inr s17.2))
def jh (h11_0_0:Int) (h11_0_2:(List (List Int))) (h11_0_3:List Int):Int→Tre (Int ⊕ ((Bool×(List Int)) ⊕ Unit)):=fun s11=>
 .cond (decide (s11<h11_0_0))
  (.mat (Ry h11_0_3 s11) fun r6=>
  .cond r6
   (.ret (.inl (aP .i64 (s11+1))))
   (.ite (((.int .i64):K)=(.int .i64)∧0≤h11_0_0∧h11_0_0=h11_0_0∧h11_0_0*(8:Nat)≤140737488355328∧1≤8)<|
   .ite (0≤s11∧s11<((List.replicate h11_0_0.toNat (0:Int)).length:Int))<|
   .mat ((List.replicate h11_0_0.toNat (0:Int))[s11.toNat]?) fun _=>
   let v8:=(List.replicate h11_0_0.toNat (0:Int)).set s11.toNat 1
   .mat (aR (pq s11 h11_0_2 h11_0_3) (0,v8)) fun l13=>
   .ret (.inr (.inl (true,l13)))))
  (.ret (.inr (.inr ())))
def XM (p0:(Int×(Int×Unit))) (p1:Int) (p2:(List (List Int))):Tre (Bool×(List Int)):=
 .mat (Ct p0 p1 p2) fun r1=>
 .mat (aR (sM r1) (0,[])) fun l5=>
 .mat (aR (jh p1 r1 l5) 0) fun l14=>
 .alt l14
  (fun a15=>
   .ret (a15.1,a15.2))
  (fun _=>
   .ret (false,[]))
def A8 (p0:(Int×(Int×Unit))) (p1:Int) (p2:(List (List Int))):Option (Bool×(List Int)):=(XM p0 p1 p2).run some
-- more
theorem as7{p:List Nat}(hp:p.length≤1000)(c:Nat):Ry (aS p) (c:Int)=some (decide (c∈p)):=by
 have h2:(aS p).all (fun x=>!decide (x=(c:Int))) = !decide (c∈p):=by
  by_cases h:c∈p
  ·rw [decide_eq_true h]
   refine List.all_eq_false.2 ⟨(c:Int),List.mem_map.2 ⟨c,h,rfl⟩,?_⟩
   simp
  ·rw [decide_eq_false h]
   refine List.all_eq_true.2 fun x hx=>?_
   obtain ⟨y,hy,rfl⟩:=List.mem_map.1 hx
   have:(y:Int)≠(c:Int):=fun e=>h ((show y=c by omega) ▸ hy)
   simpa using this
 unfold Ry aj5
 rw [Tre.oF,al7 (xs:=aS p) (fun x=>!decide (x=(c:Int))) (.inl true) (.inr ()),h2]
 ·cases decide (c∈p)<;>rfl
 ·intro i x hx
  have hi:i<(aS p).length:=(List.getElem?_eq_some_iff.1 hx).1
  rw [aW] at hi
  unfold AZ
  rw [dP hx,Tre.aG]
  cases decide (x=(c:Int))
  ·simp only [Bool.not_false,cond_false,cond_true,Tre.aK,aV (show i<4611686018427387904 by omega)]
  ·rfl
 ·unfold AZ
  exact dw
theorem amO{f:TF3}{n a:Nat}{G:List (List Int)}{p:List Nat}(h:zP f n n a G p)(hn:n≤1000):aR (sM (G.take a)) (0,[])=some (aS p):=by
 have hal:=h.al
 have han:=h.ac
 have hpl:=h.pl
 have hlen:(G.take a).length=a:=by rw [List.length_take];omega
 refine cO (fun i=>((i:Int),aS (p.take i))) a _ (fun i hi=>?_) ?_
 ·obtain ⟨r,hr,hrok,_⟩:=h.row hi
  obtain ⟨q,hq,hqn⟩:=h.piv hi
  obtain ⟨l1,l2⟩:=h.an7 hi hr hq
  have hin:aR (sN (i:Int) (G.take a)) 0=some (q:Int):=by
   refine cO (fun e=>(e:Int)) q _ (fun e he=>?_) ?_
   ·unfold sN
    rw [dF hr,dF (l2 e he),Tre.aG,decide_eq_true rfl,cond_true,Tre.aK,aV (by omega)]
   ·unfold sN
    rw [dF hr,dF l1,Tre.aG,decide_eq_false (by decide),cond_false,Tre.aK]
  unfold sM
  dsimp only
  rw [Tre.aG,decide_eq_true (by omega),cond_true,ah hin,Tre.run_ite,if_pos (by rw [aW,List.length_take];unfold bO;omega),Tre.aK,aV (by omega)]
  rw [List.take_add_one,hq]
  unfold aS
  rw [List.map_append]
  rfl
 ·unfold sM
  dsimp only
  rw [hlen,dw,Tre.aK,List.take_of_length_le (by omega)]
theorem ayr{f:TF3}(hf:aO f=true){n a:Nat}{G:List (List Int)}{p:List Nat}(h:zP f n n a G p)(hn:n≤1000){c:Nat}(hc:c<n):aR (pq (c:Int) (G.take a) (aS p)) (0,(List.replicate n (0:Int)).set c 1)=some (Tc n c p (G.take a)):=by
 have hal:=h.al
 have han:=h.ac
 have hpl:=h.pl
 have hlen:(G.take a).length=a:=by rw [List.length_take];omega
 refine cO (fun i=>((i:Int),jy c (CF n c) ((p.zip (G.take a)).take i))) a _ (fun i hi=>?_) ?_
 ·obtain ⟨r,hr,hrok,_⟩:=h.row hi
  obtain ⟨q,hq,hqn⟩:=h.piv hi
  have hok:okV f n (jy c (CF n c) ((p.zip (G.take a)).take i)):=KG _ (Qy hf n c) fun x hx=>by
   have:=List.of_mem_zip (a:=x.1) (b:=x.2) (List.mem_of_mem_take hx)
   exact h.gr _ (List.mem_of_mem_take this.2)
  have hrc:=List.getElem?_eq_getElem (show c<r.length by rw [hrok.1];exact hc)
  have hoq:=List.getElem?_eq_getElem (show q<(jy c (CF n c) ((p.zip (G.take a)).take i)).length by rw [hok.1];exact hqn)
  unfold pq
  dsimp only
  rw [Tre.aG,decide_eq_true (by omega),cond_true,dF (dA hq),dF hr,dF hrc,dF hoq,Tre.aK,aV (by omega),Int.toNat_natCast,ajR hq hr,vg hrc]
 ·unfold pq
  dsimp only
  rw [hlen,dw,Tre.aK,List.take_of_length_le (by rw [List.length_zip];omega)]
  rfl
theorem axf{f:TF3}(hf:aO f=true){n:Nat}(hn:n≤1000){L:List (List Int)}(h:GR f n L)(hL:L.length≤1000) :
  ((ES f n L).length=n∧A8 f (n:Int) L=some (false,[]))∨((ES f n L).length≠n∧∃x,A8 f (n:Int) L=some (true,x)∧anj f n L x):=by
 have hr:=ayB hf (show n≤1000000 by omega) h (by omega)
 obtain ⟨p,hI,hlen⟩:=zP.all hf (Nat.le_refl n) h
 have hel:=aiQ hf (m:=n) h
 have hE:ES f n L=(gU f 0 n (0,L)).2.take (gU f 0 n (0,L)).1:=rfl
 generalize hs:gU f 0 n (0,L)=s at hI hlen hel hE
 obtain ⟨a,G⟩:=s
 dsimp only at hI hlen hel hE
 have hal:=hI.al
 have hac:=hI.ac
 have hpl:=hI.pl
 have hstep:∀c,c<n→c∈p→(jh (n:Int) (G.take a) (aS p) (c:Int)).run some=some (.inl ((c+1:Nat):Int)):=by
  intro c hc hcp
  unfold jh
  rw [Tre.aG,decide_eq_true (by omega),cond_true,ah (as7 (by omega) c),Tre.aG,decide_eq_true hcp,cond_true,Tre.aK,aV (by omega)]
 by_cases hl:(ES f n L).length=n
 ·refine .inl ⟨hl,?_⟩
  have hp:=hI.full (by omega)
  have hloop:aR (jh (n:Int) (G.take a) (aS p)) 0=some (.inr ()):=by
   refine cO (fun c=>(c:Int)) n _ (fun c hc=>hstep c hc (by rw [hp];exact List.mem_range.2 hc)) ?_
   unfold jh
   rw [dw,Tre.aK]
  unfold A8 XM
  rw [ah hr,hE,ah (amO hI hn),ah hloop]
  rfl
 ·refine .inr ⟨hl,?_⟩
  have hex:∃c,c<n∧c ∉ p:=apF hI.pinc (by rw [hI.pl];omega)
  obtain ⟨c,⟨hc,hcp⟩,hmin⟩:∃c,(c<n∧c ∉ p)∧∀e,e<c→¬(e<n∧e ∉ p):=by
   obtain ⟨c0,hc0⟩:=hex
   induction c0 using Nat.strongRecOn with
   |ind c0 ih=>
    by_cases hx:∃e,e<c0∧(e<n∧e ∉ p)
    ·obtain ⟨e,h1,h2⟩:=hx
     exact ih e h1 h2
    ·exact ⟨c0,hc0,fun e he h2=>hx ⟨e,he,h2⟩⟩
  refine ⟨Tc n c p (G.take a),?_,anj.awR hf h ⟨ajQ hf hI c,⟨c,by rw [aqt hI hc hcp];decide⟩,by rw [hE];exact amP hf hI hc hcp⟩⟩
  have hloop:aR (jh (n:Int) (G.take a) (aS p)) 0=some (.inl (true,Tc n c p (G.take a))):=by
   refine cO (fun c=>(c:Int)) c _ (fun e he=>hstep e (by omega) (Classical.byContradiction fun hh=>hmin e he ⟨by omega,hh⟩)) ?_
   unfold jh
   rw [Tre.aG,decide_eq_true (by omega),cond_true,ah (as7 (by omega) c),Tre.aG,decide_eq_false hcp,cond_false,Tre.run_ite,if_pos ⟨rfl,by omega,rfl,by omega,by omega⟩,Int.toNat_natCast]
   rw [dF (show (List.replicate n (0:Int))[c]?=some 0 by rw [List.getElem?_replicate,if_pos hc])]
   rw [Int.toNat_natCast,ah (ayr hf hI hn hc),Tre.aK]
  unfold A8 XM
  rw [ah hr,hE,ah (amO hI hn),ah hloop]
  rfl
def kM:Env:=⟨tau,[(88,WV),(89,aj8)],[]⟩
def mo:Code:=(Tryz.f57.body).getD .skip
def Hl (h7_0_0:Int) (h7_0_1:Int) (h7_0_3:(List (List Int))) (h7_0_4:List Int):Int→St:=fun x=>bR [(1,(.imm true (.int .i64) h7_0_0)),(8,(.ref (10,0) [])),(9,(.ref (11,0) [])),(10,(.imm true (.int .i64) h7_0_1)),(11,(.imm true (.int .i64) x))] [((10,0),some ⟨false,(.sl (.sl (.int .i64))),(.sl (.imm true)),h7_0_3⟩),((11,0),some ⟨false,(.sl (.int .i64)),.own,h7_0_4⟩)]
def Es (h7_0_0:Int) (h7_0_1:Int) (h7_0_3:(List (List Int))) (h7_0_4:List Int):Int→Ex×St:=fun x=>(.exit 2,bR [(1,(.imm true (.int .i64) h7_0_0)),(8,(.ref (10,0) [])),(9,(.ref (11,0) [])),(10,(.imm true (.int .i64) h7_0_1)),(11,(.imm true (.int .i64) x))] [((10,0),some ⟨false,(.sl (.sl (.int .i64))),(.sl (.imm true)),h7_0_3⟩),((11,0),some ⟨false,(.sl (.int .i64)),.own,h7_0_4⟩)])
def Xa (s:St):Tre (Ex×St):=
 aC true (.int .i64) (s.tmps 1) fun d2=>
 dz (10,0) [] (s.tmps 8)<|
 dz (11,0) [] (s.tmps 9)<|
 aC true (.int .i64) (s.tmps 10) fun d6=>
 aC true (.int .i64) (s.tmps 11) fun d8=>
 bD false (.sl (.sl (.int .i64))) (s.roots (10,0)) fun m10 d11=>
 asM (.sl (.imm true)) m10<|
 bD false (.sl (.int .i64)) (s.roots (11,0)) fun m13 d14=>
 asM .own m13<|
 .mat (aR (sN d6 d11) d8) fun x=>.ret (Es d2 d6 d11 d14 x)
def qR:bK:=⟨([1,8,9,10,11],[(10,0),(11,0)]),([1,8,9,10,11],[(10,0),(11,0)]),Xa⟩
def Hg (h4_0_0:Int) (h4_0_2:(List (List Int))):(Int×(List Int))→St:=fun x=>bR [(1,(.imm true (.int .i64) h4_0_0)),(8,(.ref (10,0) [])),(9,(.ref (11,0) [])),(10,(.imm true (.int .i64) x.1))] [((10,0),some ⟨false,(.sl (.sl (.int .i64))),(.sl (.imm true)),h4_0_2⟩),((11,0),some ⟨false,(.sl (.int .i64)),.own,x.2⟩)]
def Er (h4_0_0:Int) (h4_0_2:(List (List Int))):(List Int)→Ex×St:=fun x=>(.exit 0,bR [(1,(.imm true (.int .i64) h4_0_0)),(8,(.ref (10,0) [])),(9,(.ref (11,0) []))] [((10,0),some ⟨false,(.sl (.sl (.int .i64))),(.sl (.imm true)),h4_0_2⟩),((11,0),some ⟨false,(.sl (.int .i64)),.own,x⟩)])
def W9 (s:St):Tre (Ex×St):=
 aC true (.int .i64) (s.tmps 1) fun d2=>
 dz (10,0) [] (s.tmps 8)<|
 dz (11,0) [] (s.tmps 9)<|
 aC true (.int .i64) (s.tmps 10) fun d6=>
 bD false (.sl (.sl (.int .i64))) (s.roots (10,0)) fun m8 d9=>
 asM (.sl (.imm true)) m8<|
 bD false (.sl (.int .i64)) (s.roots (11,0)) fun m11 d12=>
 asM .own m11<|
 .mat (aR (sM d9) (d6,d12)) fun x=>.ret (Er d2 d9 x)
def qQ:bK:=⟨([1,8,9,10],[(10,0),(11,0)]),([1,8,9],[(10,0),(11,0)]),W9⟩
def Ep (h17_0_0:Int) (h17_0_2:(List (List Int))) (h17_0_3:List Int):(Int×(List Int))→St:=fun x=>bR [(8,(.ref (10,0) [])),(9,(.ref (11,0) [])),(12,(.imm true (.int .i64) h17_0_0)),(13,(.ref (15,0) [])),(14,(.imm true (.int .i64) x.1))] [((10,0),some ⟨false,(.sl (.sl (.int .i64))),(.sl (.imm true)),h17_0_2⟩),((11,0),some ⟨false,(.sl (.int .i64)),.own,h17_0_3⟩),((15,0),some ⟨false,(.sl (.int .i64)),.own,x.2⟩)]
def Cv (_h17_0_0:Int) (_h17_0_2:(List (List Int))) (_h17_0_3:List Int):(List Int)→Ex×St:=fun x=>(.exit 6,bR [(13,(.ref (15,0) []))] [((15,0),some ⟨false,(.sl (.int .i64)),.own,x⟩)])
def TH (s:St):Tre (Ex×St):=
 dz (10,0) [] (s.tmps 8)<|
 dz (11,0) [] (s.tmps 9)<|
 aC true (.int .i64) (s.tmps 12) fun d4=>
 dz (15,0) [] (s.tmps 13)<|
 aC true (.int .i64) (s.tmps 14) fun d7=>
 bD false (.sl (.sl (.int .i64))) (s.roots (10,0)) fun m9 d10=>
 asM (.sl (.imm true)) m9<|
 bD false (.sl (.int .i64)) (s.roots (11,0)) fun m12 d13=>
 asM .own m12<|
 bD false (.sl (.int .i64)) (s.roots (15,0)) fun m15 d16=>
 asM .own m15<|
 .mat (aR (pq d4 d10 d13) (d7,d16)) fun x=>.ret (Cv d4 d10 d13 x)
def nT:bK:=⟨([8,9,12,13,14],[(10,0),(11,0),(15,0)]),([13],[(15,0)]),TH⟩
def Eo (h11_0_0:Int) (h11_0_2:(List (List Int))) (h11_0_3:List Int):Int→St:=fun x=>bR [(1,(.imm true (.int .i64) h11_0_0)),(8,(.ref (10,0) [])),(9,(.ref (11,0) [])),(12,(.imm true (.int .i64) x))] [((10,0),some ⟨false,(.sl (.sl (.int .i64))),(.sl (.imm true)),h11_0_2⟩),((11,0),some ⟨false,(.sl (.int .i64)),.own,h11_0_3⟩)]
def vH (_h11_0_0:Int) (_h11_0_2:(List (List Int))) (_h11_0_3:List Int):((Bool×(List Int)) ⊕ Unit)→Ex×St
 |.inl x=>(.ret,bR [(6,(.ref (8,0) [])),(7,(.imm true .bool x.1))] [((8,0),some ⟨false,(.sl (.int .i64)),.own,x.2⟩)])
 |.inr _=>(.exit 4,bR [(6,.dead),(7,.dead)] [((8,0),none)])
def TG (s:St):Tre (Ex×St):=
 aC true (.int .i64) (s.tmps 1) fun d2=>
 dz (10,0) [] (s.tmps 8)<|
 dz (11,0) [] (s.tmps 9)<|
 aC true (.int .i64) (s.tmps 12) fun d6=>
 bD false (.sl (.sl (.int .i64))) (s.roots (10,0)) fun m8 d9=>
 asM (.sl (.imm true)) m8<|
 bD false (.sl (.int .i64)) (s.roots (11,0)) fun m11 d12=>
 asM .own m11<|
 .mat (aR (jh d2 d9 d12) d6) fun x=>.alt x (fun a0=>.ret (vH d2 d9 d12 (.inl a0))) (fun b0=>.ret (vH d2 d9 d12 (.inr b0)))
def nS:bK:=⟨([1,8,9,12],[(10,0),(11,0)]),([6,7],[(8,0)]),TG⟩
def mh:List (Nat×bK):=[(7,qR),(4,qQ),(17,nT),(11,nS)]
theorem adp:∀(h7_0_0:Int)(h7_0_1:Int)(h7_0_3:(List (List Int)))(h7_0_4:List Int)(x:Int)(c:St→Option (Ex×St)),den kM mh (aY mo 1) (Hl h7_0_0 h7_0_1 h7_0_3 h7_0_4 x) (bU qR.kp qR.kx c)=(sN h7_0_1 h7_0_3 x).run (bV (Hl h7_0_0 h7_0_1 h7_0_3 h7_0_4) (Es h7_0_0 h7_0_1 h7_0_3 h7_0_4) c):=fun _ _ _ _ _ _=>by
 kernel_rfl
theorem ah0:bS kM mh (aY mo 1) qR:=bA fun s e s' h=>by
 generalize hs:restrict qR.kp s=s1 at h
 have h:(Xa s1).run some=some (e,s'):=h
 obtain ⟨d2,e1,h_0⟩:=ak h
 obtain ⟨e3,h_1⟩:=bf h_0
 obtain ⟨e4,h_2⟩:=bf h_1
 obtain ⟨d6,e5,h_3⟩:=ak h_2
 obtain ⟨d8,e7,h_4⟩:=ak h_3
 obtain ⟨m10,d11,e9,h_5⟩:=aH h_4
 obtain ⟨rfl,h_6⟩:=aQ h_5
 obtain ⟨m13,d14,e12,h_7⟩:=aH h_6
 obtain ⟨rfl,h_8⟩:=aQ h_7
 obtain ⟨y,hy,hz⟩:=bT h_8
 refine ⟨_,_,Hl d2 d6 d11 d14,Es d2 d6 d11 d14,sN d6 d11,d8,y,?_,hy,?_,adp d2 d6 d11 d14⟩
 ·subst hs;exact aT (T:=[(1,(.imm true (.int .i64) d2)),(8,(.ref (10,0) [])),(9,(.ref (11,0) [])),(10,(.imm true (.int .i64) d6)),(11,(.imm true (.int .i64) d8))]) (U:=[((10,0),some ⟨false,(.sl (.sl (.int .i64))),(.sl (.imm true)),d11⟩),((11,0),some ⟨false,(.sl (.int .i64)),.own,d14⟩)]) rfl rfl ⟨e1,e3,e4,e5,e7,trivial⟩ ⟨e9,e12,trivial⟩
 ·exact Option.some.inj hz
theorem ado:∀(h4_0_0:Int)(h4_0_2:(List (List Int)))(x:(Int×(List Int)))(c:St→Option (Ex×St)),den kM mh (aY mo 0) (Hg h4_0_0 h4_0_2 x) (bU qQ.kp qQ.kx c)=(sM h4_0_2 x).run (bV (Hg h4_0_0 h4_0_2) (Er h4_0_0 h4_0_2) c):=fun _ _ _ _=>by
 kernel_rfl
theorem ahZ:bS kM mh (aY mo 0) qQ:=bA fun s e s' h=>by
 generalize hs:restrict qQ.kp s=s1 at h
 have h:(W9 s1).run some=some (e,s'):=h
 obtain ⟨d2,e1,h_0⟩:=ak h
 obtain ⟨e3,h_1⟩:=bf h_0
 obtain ⟨e4,h_2⟩:=bf h_1
 obtain ⟨d6,e5,h_3⟩:=ak h_2
 obtain ⟨m8,d9,e7,h_4⟩:=aH h_3
 obtain ⟨rfl,h_5⟩:=aQ h_4
 obtain ⟨m11,d12,e10,h_6⟩:=aH h_5
 obtain ⟨rfl,h_7⟩:=aQ h_6
 obtain ⟨y,hy,hz⟩:=bT h_7
 refine ⟨_,_,Hg d2 d9,Er d2 d9,sM d9,(d6,d12),y,?_,hy,?_,ado d2 d9⟩
 ·subst hs;exact aT (T:=[(1,(.imm true (.int .i64) d2)),(8,(.ref (10,0) [])),(9,(.ref (11,0) [])),(10,(.imm true (.int .i64) d6))]) (U:=[((10,0),some ⟨false,(.sl (.sl (.int .i64))),(.sl (.imm true)),d9⟩),((11,0),some ⟨false,(.sl (.int .i64)),.own,d12⟩)]) rfl rfl ⟨e1,e3,e4,e5,trivial⟩ ⟨e7,e10,trivial⟩
 ·exact Option.some.inj hz
theorem aaT:∀(h17_0_0:Int)(h17_0_2:(List (List Int)))(h17_0_3:List Int)(x:(Int×(List Int)))(c:St→Option (Ex×St)),den kM mh (aY mo 3) (Ep h17_0_0 h17_0_2 h17_0_3 x) (bU nT.kp nT.kx c)=(pq h17_0_0 h17_0_2 h17_0_3 x).run (bV (Ep h17_0_0 h17_0_2 h17_0_3) (Cv h17_0_0 h17_0_2 h17_0_3) c):=fun _ _ _ _ _=>by
 kernel_rfl
theorem afp:bS kM mh (aY mo 3) nT:=bA fun s e s' h=>by
 generalize hs:restrict nT.kp s=s1 at h
 have h:(TH s1).run some=some (e,s'):=h
 obtain ⟨e1,h_0⟩:=bf h
 obtain ⟨e2,h_1⟩:=bf h_0
 obtain ⟨d4,e3,h_2⟩:=ak h_1
 obtain ⟨e5,h_3⟩:=bf h_2
 obtain ⟨d7,e6,h_4⟩:=ak h_3
 obtain ⟨m9,d10,e8,h_5⟩:=aH h_4
 obtain ⟨rfl,h_6⟩:=aQ h_5
 obtain ⟨m12,d13,e11,h_7⟩:=aH h_6
 obtain ⟨rfl,h_8⟩:=aQ h_7
 obtain ⟨m15,d16,e14,h_9⟩:=aH h_8
 obtain ⟨rfl,h_10⟩:=aQ h_9
 obtain ⟨y,hy,hz⟩:=bT h_10
 refine ⟨_,_,Ep d4 d10 d13,Cv d4 d10 d13,pq d4 d10 d13,(d7,d16),y,?_,hy,?_,aaT d4 d10 d13⟩
 ·subst hs;exact aT (T:=[(8,(.ref (10,0) [])),(9,(.ref (11,0) [])),(12,(.imm true (.int .i64) d4)),(13,(.ref (15,0) [])),(14,(.imm true (.int .i64) d7))]) (U:=[((10,0),some ⟨false,(.sl (.sl (.int .i64))),(.sl (.imm true)),d10⟩),((11,0),some ⟨false,(.sl (.int .i64)),.own,d13⟩),((15,0),some ⟨false,(.sl (.int .i64)),.own,d16⟩)]) rfl rfl ⟨e1,e2,e3,e5,e6,trivial⟩ ⟨e8,e11,e14,trivial⟩
 ·exact Option.some.inj hz
theorem aaS:∀(h11_0_0:Int)(h11_0_2:(List (List Int)))(h11_0_3:List Int)(x:Int)(c:St→Option (Ex×St)),den kM mh (aY mo 2) (Eo h11_0_0 h11_0_2 h11_0_3 x) (bU nS.kp nS.kx c)=(jh h11_0_0 h11_0_2 h11_0_3 x).run (bV (Eo h11_0_0 h11_0_2 h11_0_3) (vH h11_0_0 h11_0_2 h11_0_3) c):=fun _ _ _ _ _=>by
 kernel_rfl
theorem afo:bS kM mh (aY mo 2) nS:=bA fun s e s' h=>by
 generalize hs:restrict nS.kp s=s1 at h
 have h:(TG s1).run some=some (e,s'):=h
 obtain ⟨d2,e1,h_0⟩:=ak h
 obtain ⟨e3,h_1⟩:=bf h_0
 obtain ⟨e4,h_2⟩:=bf h_1
 obtain ⟨d6,e5,h_3⟩:=ak h_2
 obtain ⟨m8,d9,e7,h_4⟩:=aH h_3
 obtain ⟨rfl,h_5⟩:=aQ h_4
 obtain ⟨m11,d12,e10,h_6⟩:=aH h_5
 obtain ⟨rfl,h_7⟩:=aQ h_6
 obtain ⟨y,hy,hz⟩:=jR h_7
 refine ⟨_,_,Eo d2 d9 d12,vH d2 d9 d12,jh d2 d9 d12,d6,y,?_,hy,?_,aaS d2 d9 d12⟩
 ·subst hs;exact aT (T:=[(1,(.imm true (.int .i64) d2)),(8,(.ref (10,0) [])),(9,(.ref (11,0) [])),(12,(.imm true (.int .i64) d6))]) (U:=[((10,0),some ⟨false,(.sl (.sl (.int .i64))),(.sl (.imm true)),d9⟩),((11,0),some ⟨false,(.sl (.int .i64)),.own,d12⟩)]) rfl rfl ⟨e1,e3,e4,e5,trivial⟩ ⟨e7,e10,trivial⟩
 ·rcases y with x|x<;>exact Option.some.inj hz
def ag3:FnI:=⟨mo,Tryz.f57.results.toList,Tryz.f57.resultTypes.toList,mh⟩
def Zu (_zp0:Bool) (_p0:(Int×(Int×Unit))) (_p1:Int) (_p2:(List (List Int))):(Bool×(List Int))→aB:=fun r=>⟨(.tcons (.ref (1,0) []) (.tcons (.imm true .bool r.1) .tnil)),[],[⟨false,(.sl (.int .i64)),.own,r.2⟩]⟩
theorem aoN:∀(zp0:Bool)(p0:(Int×(Int×Unit)))(p1:Int)(p2:(List (List Int))),bN kM ag3 ⟨[(.imm true aL p0),(.imm true (.int .i64) p1),(.imm zp0 (.sl (.sl (.int .i64))) p2)],[]⟩=(XM p0 p1 p2).run fun r=>some (Zu zp0 p0 p1 p2 r):=fun _ _ _ _=>by kernel_rfl
def ag2 (av:List AV) (rs:List Root):Tre aB:=
 aJ av fun a0_ av0=>
 aJ av0 fun a1_ av1=>
 aJ av1 fun a2_ av2=>
 aU av2<|
 aU rs<|
 aC true aL a0_ fun d1=>
 aC true (.int .i64) a1_ fun d2=>
 bE (.sl (.sl (.int .i64))) a2_ fun z4 d3=>
 .mat (A8 d1 d2 d3) fun r=>.ret (Zu z4 d1 d2 d3 r)
def ag4:Ctr:=⟨[],fun ci=>ag2 ci.args ci.roots,false⟩
theorem alV:bM Tryz.prog .none kM:=(aA ahY aBF (aA aqF aBG aN))
theorem aoO:Contract Tryz.prog .none 57 ag4:=by
 have hl:aZ kM mh mo:=(bC (n:=4) (by kernel_rfl) fun k hk=>by
   match k,hk with
   |0,_=>exact bq (id:=4) (L:=qQ) (by kernel_rfl) (by kernel_rfl) ahZ
   |1,_=>exact bq (id:=7) (L:=qR) (by kernel_rfl) (by kernel_rfl) ah0
   |2,_=>exact bq (id:=11) (L:=nS) (by kernel_rfl) (by kernel_rfl) afo
   |3,_=>exact bq (id:=17) (L:=nT) (by kernel_rfl) (by kernel_rfl) afp)
 refine (aI (F:=ag3) bg alV Tryz.func57 (by kernel_rfl) (by kernel_rfl) (by kernel_rfl) hl []).weaken ?_
 rintro ⟨av,rs⟩ co h
 have h:(ag2 av rs).run some=some co:=h
 obtain ⟨a0_,av0,rfl,h_0⟩:=au h
 obtain ⟨a1_,av1,rfl,h_1⟩:=au h_0
 obtain ⟨a2_,av2,rfl,h_2⟩:=au h_1
 obtain ⟨rfl,h_3⟩:=ay h_2
 obtain ⟨rfl,h_4⟩:=ay h_3
 obtain ⟨d1,rfl,h_5⟩:=ak h_4
 obtain ⟨d2,rfl,h_6⟩:=ak h_5
 obtain ⟨z4,d3,rfl,h_7⟩:=aD h_6
 exact bJ (aoN z4 d1 d2 d3) h_7
def sO (h2_0_0:List Int):Int→Tre (Int ⊕ Int):=fun s2=>
 .cond (decide (s2>0))
  (.ite (0≤aP .i64 (s2-1)∧aP .i64 (s2-1)<(h2_0_0.length:Int))<|
  .mat (h2_0_0[(aP .i64 (s2-1)).toNat]?) fun x1=>
  .cond (decide (x1=0))
   (.ret (.inl (aP .i64 (s2-1))))
   (.ret (.inr s2)))
  (.ret (.inr s2))
def afs (p0:List Int):Tre (List Int):=
 .mat (aR (sO p0) (p0.length:Int)) fun l2=>
 .ite (0≤(0:Int)∧(0:Int)≤l2∧l2≤(p0.length:Int))<|
 let v3:=(p0.drop 0).take (l2-0).toNat
 .mat (gH v3) fun r4=>
 .ret r4
def Gm (p0:List Int):Option (List Int):=(afs p0).run some
-- more
theorem ang{l:List Nat}(hl2:l.length≤1000):Gm (aS l)=some (aS (bX l)):=by
 have htl:=jI l
 have hlen:=aW l
 have hm:∀n,0<n→n≤l.length→aP .i64 ((n:Int)-1)=((n-1:Nat):Int):=fun n h1 h2=>gM h1 (by omega)
 have hx:∀n,0<n→n≤l.length→(aS l)[n-1]?=some (cf l (n-1):Int):=fun n h1 h2=>dA (dV (by omega))
 unfold Gm afs
 rw [ah (show aR (sO (aS l)) ((aS l).length:Int)=some (((bX l).length:Nat):Int) from ?_)]
 ·rw [Tre.run_ite,if_pos (by omega)]
  dsimp only
  rw [show ((((bX l).length:Nat):Int)-0).toNat=(bX l).length by omega,List.drop_zero,←Xz,adD,ah (show gH (aS (bX l))=some _ from KF (by rw [aW];omega)),Tre.aK]
 have h0:((aS l).length:Int)=((l.length-0:Nat):Int):=by rw [hlen];omega
 rw [h0]
 refine cO (fun i=>((l.length-i:Nat):Int)) (l.length-(bX l).length) _ (fun i hi=>?_) ?_
 ·unfold sO
  rw [Tre.aG,decide_eq_true (by omega),cond_true,hm _ (by omega) (by omega),dF (hx _ (by omega) (by omega)),Tre.aG,decide_eq_true (by rw [Dl (by omega)];rfl),cond_true,Tre.aK,Nat.sub_sub]
 ·rw [show l.length-(l.length-(bX l).length)=(bX l).length by omega]
  unfold sO
  by_cases hz:(bX l).length=0
  ·rw [Tre.aG,decide_eq_false (by omega),cond_false,Tre.aK]
  ·have h1:=(Qx l).resolve_left hz
   rw [Tre.aG,decide_eq_true (by omega),cond_true,hm _ (by omega) htl,dF (hx _ (by omega) htl),Tre.aG,decide_eq_false (by omega),cond_false,Tre.aK]
def Gn:Env:=⟨tau,[(108,D8)],[]⟩
def NR:Code:=(Tryz.f73.body).getD .skip
def Ho (z2_0:Bool) (h2_0_0:List Int):Int→St:=fun x=>bR [(0,(.imm z2_0 (.sl (.int .i64)) h2_0_0)),(3,(.imm true (.int .i64) x))] []
def Et (z2_0:Bool) (h2_0_0:List Int):Int→Ex×St:=fun x=>(.exit 0,bR [(0,(.imm z2_0 (.sl (.int .i64)) h2_0_0)),(3,(.imm true (.int .i64) x))] [])
def Xf (s:St):Tre (Ex×St):=
 bE (.sl (.int .i64)) (s.tmps 0) fun z3 d2=>
 aC true (.int .i64) (s.tmps 3) fun d5=>
 .mat (aR (sO d2) d5) fun x=>.ret (Et z3 d2 x)
def qU:bK:=⟨([0,3],[]),([0,3],[]),Xf⟩
def NQ:List (Nat×bK):=[(2,qU)]
theorem adq:∀(z2_0:Bool)(h2_0_0:List Int)(x:Int)(c:St→Option (Ex×St)),den Gn NQ (aY NR 0) (Ho z2_0 h2_0_0 x) (bU qU.kp qU.kx c)=(sO h2_0_0 x).run (bV (Ho z2_0 h2_0_0) (Et z2_0 h2_0_0) c):=fun _ _ _ _=>by
 kernel_rfl
theorem ah4:bS Gn NQ (aY NR 0) qU:=bA fun s e s' h=>by
 generalize hs:restrict qU.kp s=s1 at h
 have h:(Xf s1).run some=some (e,s'):=h
 obtain ⟨z3,d2,e1,h_0⟩:=aD h
 obtain ⟨d5,e4,h_1⟩:=ak h_0
 obtain ⟨y,hy,hz⟩:=bT h_1
 refine ⟨_,_,Ho z3 d2,Et z3 d2,sO d2,d5,y,?_,hy,?_,adq z3 d2⟩
 ·subst hs;exact aT (T:=[(0,(.imm z3 (.sl (.int .i64)) d2)),(3,(.imm true (.int .i64) d5))]) (U:=[]) rfl rfl ⟨e1,e4,trivial⟩ trivial
 ·exact Option.some.inj hz
def ag7:FnI:=⟨NR,Tryz.f73.results.toList,Tryz.f73.resultTypes.toList,NQ⟩
def Zz (_zp0:Bool) (_p0:List Int):(List Int)→aB:=fun r=>⟨(.ref (1,0) []),[],[⟨false,(.sl (.int .i64)),.own,r⟩]⟩
theorem aoP:∀(zp0:Bool)(p0:List Int),bN Gn ag7 ⟨[(.imm zp0 (.sl (.int .i64)) p0)],[]⟩=(afs p0).run fun r=>some (Zz zp0 p0 r):=fun _ _=>by kernel_rfl
def ag6 (av:List AV) (rs:List Root):Tre aB:=
 aJ av fun a0_ av0=>
 aU av0<|
 aU rs<|
 bE (.sl (.int .i64)) a0_ fun z2 d1=>
 .mat (Gm d1) fun r=>.ret (Zz z2 d1 r)
def ag8:Ctr:=⟨[],fun ci=>ag6 ci.args ci.roots,false⟩
theorem alX:bM Tryz.prog .none Gn:=(aA F9 ad1 aN)
theorem aoQ:Contract Tryz.prog .none 73 ag8:=by
 have hl:aZ Gn NQ NR:=(bC (n:=1) (by kernel_rfl) fun k hk=>by
   match k,hk with
   |0,_=>exact bq (id:=2) (L:=qU) (by kernel_rfl) (by kernel_rfl) ah4)
 refine (aI (F:=ag7) bg alX Tryz.func73 (by kernel_rfl) (by kernel_rfl) (by kernel_rfl) hl []).weaken ?_
 rintro ⟨av,rs⟩ co h
 have h:(ag6 av rs).run some=some co:=h
 obtain ⟨a0_,av0,rfl,h_0⟩:=au h
 obtain ⟨rfl,h_1⟩:=ay h_0
 obtain ⟨rfl,h_2⟩:=ay h_1
 obtain ⟨z2,d1,rfl,h_3⟩:=aD h_2
 exact bJ (aoP z2 d1) h_3
def j6 (h2_0_0:List Int) (h2_0_2:(Int×(Int×Unit))):Int→Tre (Int ⊕ (Bool ⊕ Unit)):=fun s2=>
 .cond (decide (s2<(h2_0_0.length:Int)))
  (.ite (0≤s2∧s2<(h2_0_0.length:Int))<|
  .mat (h2_0_0[s2.toNat]?) fun x1=>
  .mat (wL h2_0_2) fun r2=>
  let v3:=inR x1 0 (aP .i64 (r2-1))
  .cond (!v3)
   (.ret (.inr (.inl false)))
   (.ret (.inl (aP .i64 (s2+1)))))
  (.ret (.inr (.inr ())))
def OC (p0:(Int×(Int×Unit))) (p1:List Int):Tre Bool:=
 .mat (aR (j6 p1 p0) 0) fun l4=>
 .alt l4
  (fun a5=>
   .ret a5)
  (fun _=>
   .ret true)
def zI (p0:(Int×(Int×Unit))) (p1:List Int):Option Bool:=(OC p0 p1).run some
def tQ:Env:=⟨tau,[(87,Gd),(86,D6)],[]⟩
def zJ:Code:=(Tryz.f140.body).getD .skip
def yQ (z2_0:Bool) (h2_0_0:List Int) (h2_0_2:(Int×(Int×Unit))):Int→St:=fun x=>bR [(1,(.imm z2_0 (.sl (.int .i64)) h2_0_0)),(2,(.ptr (4,0) [])),(5,(.imm true (.int .i64) x))] [((4,0),some ⟨true,aL,.own,h2_0_2⟩)]
def oH (_z2_0:Bool) (_h2_0_0:List Int) (_h2_0_2:(Int×(Int×Unit))):(Bool ⊕ Unit)→Ex×St
 |.inl x=>(.ret,bR [(4,(.imm true .bool x))] [])
 |.inr _=>(.exit 0,bR [(4,.dead)] [])
def K8 (s:St):Tre (Ex×St):=
 bE (.sl (.int .i64)) (s.tmps 1) fun z3 d2=>
 dU (4,0) [] (s.tmps 2)<|
 aC true (.int .i64) (s.tmps 5) fun d6=>
 bD true aL (s.roots (4,0)) fun m8 d9=>
 asM .own m8<|
 .mat (aR (j6 d2 d9) d6) fun x=>.alt x (fun a0=>.ret (oH z3 d2 d9 (.inl a0))) (fun b0=>.ret (oH z3 d2 d9 (.inr b0)))
def kg:bK:=⟨([1,2,5],[(4,0)]),([4],[]),K8⟩
def zH:List (Nat×bK):=[(2,kg)]
theorem Uq:∀(z2_0:Bool)(h2_0_0:List Int)(h2_0_2:(Int×(Int×Unit)))(x:Int)(c:St→Option (Ex×St)),den tQ zH (aY zJ 0) (yQ z2_0 h2_0_0 h2_0_2 x) (bU kg.kp kg.kx c)=(j6 h2_0_0 h2_0_2 x).run (bV (yQ z2_0 h2_0_0 h2_0_2) (oH z2_0 h2_0_0 h2_0_2) c):=fun _ _ _ _ _=>by
 kernel_rfl
theorem Yt:bS tQ zH (aY zJ 0) kg:=bA fun s e s' h=>by
 generalize hs:restrict kg.kp s=s1 at h
 have h:(K8 s1).run some=some (e,s'):=h
 obtain ⟨z3,d2,e1,h_0⟩:=aD h
 obtain ⟨e4,h_1⟩:=bF h_0
 obtain ⟨d6,e5,h_2⟩:=ak h_1
 obtain ⟨m8,d9,e7,h_3⟩:=aH h_2
 obtain ⟨rfl,h_4⟩:=aQ h_3
 obtain ⟨y,hy,hz⟩:=jR h_4
 refine ⟨_,_,yQ z3 d2 d9,oH z3 d2 d9,j6 d2 d9,d6,y,?_,hy,?_,Uq z3 d2 d9⟩
 ·subst hs;exact aT (T:=[(1,(.imm z3 (.sl (.int .i64)) d2)),(2,(.ptr (4,0) [])),(5,(.imm true (.int .i64) d6))]) (U:=[((4,0),some ⟨true,aL,.own,d9⟩)]) rfl rfl ⟨e1,e4,e5,trivial⟩ ⟨e7,trivial⟩
 ·rcases y with x|x<;>exact Option.some.inj hz
def Tt:FnI:=⟨zJ,Tryz.f140.results.toList,Tryz.f140.resultTypes.toList,zH⟩
def Nu (_zp0:Bool) (_p0:(Int×(Int×Unit))) (_p1:List Int):Bool→aB:=fun r=>⟨(.imm true .bool r),[],[]⟩
theorem ae7:∀(zp0:Bool)(p0:(Int×(Int×Unit)))(p1:List Int),bN tQ Tt ⟨[(.imm true aL p0),(.imm zp0 (.sl (.int .i64)) p1)],[]⟩=(OC p0 p1).run fun r=>some (Nu zp0 p0 p1 r):=fun _ _ _=>by kernel_rfl
def Tq (av:List AV) (rs:List Root):Tre aB:=
 aJ av fun a0_ av0=>
 aJ av0 fun a1_ av1=>
 aU av1<|
 aU rs<|
 aC true aL a0_ fun d1=>
 bE (.sl (.int .i64)) a1_ fun z3 d2=>
 .mat (zI d1 d2) fun r=>.ret (Nu z3 d1 d2 r)
def Tv:Ctr:=⟨[],fun ci=>Tq ci.args ci.roots,false⟩
theorem ac2:bM Tryz.prog .none tQ:=(aA Jb asS (aA D7 amr aN))
theorem ae8:Contract Tryz.prog .none 140 Tv:=by
 have hl:aZ tQ zH zJ:=(bC (n:=1) (by kernel_rfl) fun k hk=>by
   match k,hk with
   |0,_=>exact bq (id:=2) (L:=kg) (by kernel_rfl) (by kernel_rfl) Yt)
 refine (aI (F:=Tt) bg ac2 Tryz.func140 (by kernel_rfl) (by kernel_rfl) (by kernel_rfl) hl []).weaken ?_
 rintro ⟨av,rs⟩ co h
 have h:(Tq av rs).run some=some co:=h
 obtain ⟨a0_,av0,rfl,h_0⟩:=au h
 obtain ⟨a1_,av1,rfl,h_1⟩:=au h_0
 obtain ⟨rfl,h_2⟩:=ay h_1
 obtain ⟨rfl,h_3⟩:=ay h_2
 obtain ⟨d1,rfl,h_4⟩:=ak h_3
 obtain ⟨z3,d2,rfl,h_5⟩:=aD h_4
 exact bJ (ae7 z3 d1 d2) h_5
def aoB (p0:(Int×(Int×Unit))) (p1:List Int):Tre Bool:=
 .cond (decide ((p1.length:Int)≤12))
  (.mat (zI p0 p1) fun r1=>
  .cond r1
   (.cond (decide ((p1.length:Int)=0))
    (.ret true)
    (let v2:=aP .i64 ((p1.length:Int)-1)
    .ite (0≤v2∧v2<(p1.length:Int))<|
    .mat (p1[v2.toNat]?) fun x3=>
    .ret (!decide (x3=0))))
   (.ret false))
  (.ret false)
def XL (p0:(Int×(Int×Unit))) (p1:List Int):Option Bool:=(aoB p0 p1).run some
def afa:Env:=⟨tau,[(140,Tv)],[]⟩
def am8:Code:=(Tryz.f139.body).getD .skip
def am7:FnI:=⟨am8,Tryz.f139.results.toList,Tryz.f139.resultTypes.toList,[]⟩
def agJ (_zp0:Bool) (_p0:(Int×(Int×Unit))) (_p1:List Int):Bool→aB:=fun r=>⟨(.imm true .bool r),[],[]⟩
theorem asu:∀(zp0:Bool)(p0:(Int×(Int×Unit)))(p1:List Int),bN afa am7 ⟨[(.imm true aL p0),(.imm zp0 (.sl (.int .i64)) p1)],[]⟩=(aoB p0 p1).run fun r=>some (agJ zp0 p0 p1 r):=fun _ _ _=>by kernel_rfl
def am6 (av:List AV) (rs:List Root):Tre aB:=
 aJ av fun a0_ av0=>
 aJ av0 fun a1_ av1=>
 aU av1<|
 aU rs<|
 aC true aL a0_ fun d1=>
 bE (.sl (.int .i64)) a1_ fun z3 d2=>
 .mat (XL d1 d2) fun r=>.ret (agJ z3 d1 d2 r)
def am9:Ctr:=⟨[],fun ci=>am6 ci.args ci.roots,false⟩
theorem aqN:bM Tryz.prog .none afa:=(aA ae8 aAn aN)
theorem asv:Contract Tryz.prog .none 139 am9:=by
 have hl:aZ afa [] am8:=bB (by kernel_rfl)
 refine (aI (F:=am7) bg aqN Tryz.func139 (by kernel_rfl) (by kernel_rfl) (by kernel_rfl) hl []).weaken ?_
 rintro ⟨av,rs⟩ co h
 have h:(am6 av rs).run some=some co:=h
 obtain ⟨a0_,av0,rfl,h_0⟩:=au h
 obtain ⟨a1_,av1,rfl,h_1⟩:=au h_0
 obtain ⟨rfl,h_2⟩:=ay h_1
 obtain ⟨rfl,h_3⟩:=ay h_2
 obtain ⟨d1,rfl,h_4⟩:=ak h_3
 obtain ⟨z3,d2,rfl,h_5⟩:=aD h_4
 exact bJ (asu z3 d1 d2) h_5
def Oz (p0:(Int×(Int×Unit))) (p1:List Int):Tre Bool:=
 .mat (D9 p0) fun r1=>
 .cond r1
  (.mat (XL p0 p1) fun r2=>
  .ret r2)
  (.ret false)
def tO (p0:(Int×(Int×Unit))) (p1:List Int):Option Bool:=(Oz p0 p1).run some
def GV:Env:=⟨tau,[(83,XK),(139,am9)],[]⟩
def Tg:Code:=(Tryz.f127.body).getD .skip
def Tf:FnI:=⟨Tg,Tryz.f127.results.toList,Tryz.f127.resultTypes.toList,[]⟩
def Nb (_zp0:Bool) (_p0:(Int×(Int×Unit))) (_p1:List Int):Bool→aB:=fun r=>⟨(.imm true .bool r),[],[]⟩
theorem aeS:∀(zp0:Bool)(p0:(Int×(Int×Unit)))(p1:List Int),bN GV Tf ⟨[(.imm true aL p0),(.imm zp0 (.sl (.int .i64)) p1)],[]⟩=(Oz p0 p1).run fun r=>some (Nb zp0 p0 p1 r):=fun _ _ _=>by kernel_rfl
def Te (av:List AV) (rs:List Root):Tre aB:=
 aJ av fun a0_ av0=>
 aJ av0 fun a1_ av1=>
 aU av1<|
 aU rs<|
 aC true aL a0_ fun d1=>
 bE (.sl (.int .i64)) a1_ fun z3 d2=>
 .mat (tO d1 d2) fun r=>.ret (Nb z3 d1 d2 r)
def Ti:Ctr:=⟨[],fun ci=>Te ci.args ci.roots,false⟩
theorem acK:bM Tryz.prog .none GV:=(aA aaE av4 (aA asv aAm aN))
theorem aeT:Contract Tryz.prog .none 127 Ti:=by
 have hl:aZ GV [] Tg:=bB (by kernel_rfl)
 refine (aI (F:=Tf) bg acK Tryz.func127 (by kernel_rfl) (by kernel_rfl) (by kernel_rfl) hl []).weaken ?_
 rintro ⟨av,rs⟩ co h
 have h:(Te av rs).run some=some co:=h
 obtain ⟨a0_,av0,rfl,h_0⟩:=au h
 obtain ⟨a1_,av1,rfl,h_1⟩:=au h_0
 obtain ⟨rfl,h_2⟩:=ay h_1
 obtain ⟨rfl,h_3⟩:=ay h_2
 obtain ⟨d1,rfl,h_4⟩:=ak h_3
 obtain ⟨z3,d2,rfl,h_5⟩:=aD h_4
 exact bJ (aeS z3 d1 d2) h_5
def ae5 (p0:(Int×(Int×Unit))) (p1:List Int) (p2:List Int):Tre Int:=
 .mat (tO p0 p1) fun r1=>
 .cond (!r1)
  (.ret 1)
  (.mat (tO p0 p2) fun r2=>
  .cond (!r2)
   (.ret 1)
   (.cond (decide ((p2.length:Int)=0))
    (.ret 4)
    (.ret 0)))
def Nr (p0:(Int×(Int×Unit))) (p1:List Int) (p2:List Int):Option Int:=(ae5 p0 p1 p2).run some
def WC:Env:=⟨tau,[(127,Ti)],[]⟩
def agE:Code:=(Tryz.f106.body).getD .skip
def agD:FnI:=⟨agE,Tryz.f106.results.toList,Tryz.f106.resultTypes.toList,[]⟩
def Zj (_zp0:Bool) (_zp1:Bool) (_p0:(Int×(Int×Unit))) (_p1:List Int) (_p2:List Int):Int→aB:=fun r=>⟨(.imm true (.int .i64) r),[],[]⟩
theorem aox:∀(zp0:Bool)(zp1:Bool)(p0:(Int×(Int×Unit)))(p1:List Int)(p2:List Int),bN WC agD ⟨[(.imm true aL p0),(.imm zp0 (.sl (.int .i64)) p1),(.imm zp1 (.sl (.int .i64)) p2)],[]⟩=(ae5 p0 p1 p2).run fun r=>some (Zj zp0 zp1 p0 p1 p2 r):=fun _ _ _ _ _=>by kernel_rfl
def agC (av:List AV) (rs:List Root):Tre aB:=
 aJ av fun a0_ av0=>
 aJ av0 fun a1_ av1=>
 aJ av1 fun a2_ av2=>
 aU av2<|
 aU rs<|
 aC true aL a0_ fun d1=>
 bE (.sl (.int .i64)) a1_ fun z3 d2=>
 bE (.sl (.int .i64)) a2_ fun z5 d4=>
 .mat (Nr d1 d2 d4) fun r=>.ret (Zj z3 z5 d1 d2 d4 r)
def agF:Ctr:=⟨[],fun ci=>agC ci.args ci.roots,false⟩
theorem alK:bM Tryz.prog .none WC:=(aA aeT aAd aN)
theorem aoy:Contract Tryz.prog .none 106 agF:=by
 have hl:aZ WC [] agE:=bB (by kernel_rfl)
 refine (aI (F:=agD) bg alK Tryz.func106 (by kernel_rfl) (by kernel_rfl) (by kernel_rfl) hl []).weaken ?_
 rintro ⟨av,rs⟩ co h
 have h:(agC av rs).run some=some co:=h
 obtain ⟨a0_,av0,rfl,h_0⟩:=au h
 obtain ⟨a1_,av1,rfl,h_1⟩:=au h_0
 obtain ⟨a2_,av2,rfl,h_2⟩:=au h_1
 obtain ⟨rfl,h_3⟩:=ay h_2
 obtain ⟨rfl,h_4⟩:=ay h_3
 obtain ⟨d1,rfl,h_5⟩:=ak h_4
 obtain ⟨z3,d2,rfl,h_6⟩:=aD h_5
 obtain ⟨z5,d4,rfl,h_7⟩:=aD h_6
 exact bJ (aox z3 z5 d1 d2 d4) h_7
def QT (p0:(Int×(Int×Unit))) (p1:Int) (p2:Int):Tre Int:=
 .ifn (p0.1=0)<|
 let v1:=aP .i64 (p0.1-(Int.tmod p2 p0.1))
 .ifn (p0.1=0)<|
 .mat (fV p0 p1 (Int.tmod v1 p0.1)) fun r2=>
 .ret r2
def Bt (p0:(Int×(Int×Unit))) (p1:Int) (p2:Int):Option Int:=(QT p0 p1 p2).run some
-- more
theorem aww{f:TF3}(hf:aO f=true){x:Nat}(hx:x<(FOf f hf).q)(k:Nat):Bt f (x:Int) (k:Int)=some (((FOf f hf).sqn (Y6 f.1.toNat k) x:Nat):Int):=by
 obtain ⟨h1,h2,h3,h4⟩:=axO hf
 have hm:Int.tmod (k:Int) f.1=((k%f.1.toNat:Nat):Int):=by
  conv=>lhs;rw [h1]
  exact (Int.ofNat_tmod k f.1.toNat).symm
 have hk:k%f.1.toNat<f.1.toNat:=Nat.mod_lt _ (by omega)
 have h5:aP .i64 (f.1-Int.tmod (k:Int) f.1)=((f.1.toNat-k%f.1.toNat:Nat):Int):=by
  rw [hm,dN (by omega) (by omega)];omega
 have hm2:Int.tmod ((f.1.toNat-k%f.1.toNat:Nat):Int) f.1=((Y6 f.1.toNat k:Nat):Int):=by
  conv=>lhs;rw [h1]
  exact (Int.ofNat_tmod _ f.1.toNat).symm
 unfold Bt QT
 rw [Tre.Rw,if_neg h2]
 dsimp only
 rw [h5,Tre.Rw,if_neg h2,hm2,ah (ajv hf hx _),Tre.aK]
def JK:Env:=⟨tau,[(62,mE)],[]⟩
def U0:Code:=(Tryz.f78.body).getD .skip
def UZ:FnI:=⟨U0,Tryz.f78.results.toList,Tryz.f78.resultTypes.toList,[]⟩
def Pk (_p0:(Int×(Int×Unit))) (_p1:Int) (_p2:Int):Int→aB:=fun r=>⟨(.imm true (.int .i64) r),[],[]⟩
theorem aho:∀(p0:(Int×(Int×Unit)))(p1:Int)(p2:Int),bN JK UZ ⟨[(.imm true aL p0),(.imm true (.int .i64) p1),(.imm true (.int .i64) p2)],[]⟩=(QT p0 p1 p2).run fun r=>some (Pk p0 p1 p2 r):=fun _ _ _=>by kernel_rfl
def UY (av:List AV) (rs:List Root):Tre aB:=
 aJ av fun a0_ av0=>
 aJ av0 fun a1_ av1=>
 aJ av1 fun a2_ av2=>
 aU av2<|
 aU rs<|
 aC true aL a0_ fun d1=>
 aC true (.int .i64) a1_ fun d2=>
 aC true (.int .i64) a2_ fun d3=>
 .mat (Bt d1 d2 d3) fun r=>.ret (Pk d1 d2 d3 r)
def U1:Ctr:=⟨[],fun ci=>UY ci.args ci.roots,false⟩
theorem aea:bM Tryz.prog .none JK:=(aA nZ apA aN)
theorem ahp:Contract Tryz.prog .none 78 U1:=by
 have hl:aZ JK [] U0:=bB (by kernel_rfl)
 refine (aI (F:=UZ) bg aea Tryz.func78 (by kernel_rfl) (by kernel_rfl) (by kernel_rfl) hl []).weaken ?_
 rintro ⟨av,rs⟩ co h
 have h:(UY av rs).run some=some co:=h
 obtain ⟨a0_,av0,rfl,h_0⟩:=au h
 obtain ⟨a1_,av1,rfl,h_1⟩:=au h_0
 obtain ⟨a2_,av2,rfl,h_2⟩:=au h_1
 obtain ⟨rfl,h_3⟩:=ay h_2
 obtain ⟨rfl,h_4⟩:=ay h_3
 obtain ⟨d1,rfl,h_5⟩:=ak h_4
 obtain ⟨d2,rfl,h_6⟩:=ak h_5
 obtain ⟨d3,rfl,h_7⟩:=ak h_6
 exact bJ (aho d1 d2 d3) h_7
def afb (p0:(Int×(Int×Unit))) (p1:Int) (p2:Int):Tre Int:=
 .ifn (p0.1=0)<|
 let v1:=aP .i64 (p0.1-(Int.tmod p2 p0.1))
 .mat (kH p0 p1 v1) fun r2=>
 .ret r2
def Nz (p0:(Int×(Int×Unit))) (p1:Int) (p2:Int):Option Int:=(afb p0 p1 p2).run some
-- more
theorem axl{f:TF3}(hf:aO f=true){x:Nat}(hx:x<(FOf f hf).q)(k:Nat):Nz f (x:Int) (k:Int)=some (((FOf f hf).sqn (Y6 f.1.toNat k) x:Nat):Int):=by
 obtain ⟨h1,h2,h3,h4⟩:=axO hf
 have hm:Int.tmod (k:Int) f.1=((k%f.1.toNat:Nat):Int):=by
  conv=>lhs;rw [h1]
  exact (Int.ofNat_tmod k f.1.toNat).symm
 have hk:k%f.1.toNat<f.1.toNat:=Nat.mod_lt _ (by omega)
 have h5:aP .i64 (f.1-Int.tmod (k:Int) f.1)=((f.1.toNat-k%f.1.toNat:Nat):Int):=by
  rw [hm,dN (by omega) (by omega)];omega
 unfold Nz afb
 rw [Tre.Rw,if_neg h2]
 dsimp only
 rw [h5,ah (afw hf hx _),Tre.aK]
 unfold Y6
 rw [ady hf hx]
def WK:Env:=⟨tau,[(56,uz)],[]⟩
def agM:Code:=(Tryz.f128.body).getD .skip
def agL:FnI:=⟨agM,Tryz.f128.results.toList,Tryz.f128.resultTypes.toList,[]⟩
def Zl (_p0:(Int×(Int×Unit))) (_p1:Int) (_p2:Int):Int→aB:=fun r=>⟨(.imm true (.int .i64) r),[],[]⟩
theorem aoC:∀(p0:(Int×(Int×Unit)))(p1:Int)(p2:Int),bN WK agL ⟨[(.imm true aL p0),(.imm true (.int .i64) p1),(.imm true (.int .i64) p2)],[]⟩=(afb p0 p1 p2).run fun r=>some (Zl p0 p1 p2 r):=fun _ _ _=>by kernel_rfl
def agK (av:List AV) (rs:List Root):Tre aB:=
 aJ av fun a0_ av0=>
 aJ av0 fun a1_ av1=>
 aJ av1 fun a2_ av2=>
 aU av2<|
 aU rs<|
 aC true aL a0_ fun d1=>
 aC true (.int .i64) a1_ fun d2=>
 aC true (.int .i64) a2_ fun d3=>
 .mat (Nz d1 d2 d3) fun r=>.ret (Zl d1 d2 d3 r)
def agN:Ctr:=⟨[],fun ci=>agK ci.args ci.roots,false⟩
theorem alM:bM Tryz.prog .none WK:=(aA wM apz aN)
theorem aoD:Contract Tryz.prog .none 128 agN:=by
 have hl:aZ WK [] agM:=bB (by kernel_rfl)
 refine (aI (F:=agL) bg alM Tryz.func128 (by kernel_rfl) (by kernel_rfl) (by kernel_rfl) hl []).weaken ?_
 rintro ⟨av,rs⟩ co h
 have h:(agK av rs).run some=some co:=h
 obtain ⟨a0_,av0,rfl,h_0⟩:=au h
 obtain ⟨a1_,av1,rfl,h_1⟩:=au h_0
 obtain ⟨a2_,av2,rfl,h_2⟩:=au h_1
 obtain ⟨rfl,h_3⟩:=ay h_2
 obtain ⟨rfl,h_4⟩:=ay h_3
 obtain ⟨d1,rfl,h_5⟩:=ak h_4
 obtain ⟨d2,rfl,h_6⟩:=ak h_5
 obtain ⟨d3,rfl,h_7⟩:=ak h_6
 exact bJ (aoC d1 d2 d3) h_7
def afe (p0:Int) (p1:Int):Tre (List Int):=
 .ite (((.int .i64):K)=(.int .i64)∧0≤aP .i64 (p1+1)∧aP .i64 (p1+1)=aP .i64 (p1+1)∧aP .i64 (p1+1)*(8:Nat)≤140737488355328∧1≤8)<|
 .ite (0≤p1∧p1<((List.replicate (aP .i64 (p1+1)).toNat (0:Int)).length:Int))<|
 .mat ((List.replicate (aP .i64 (p1+1)).toNat (0:Int))[p1.toNat]?) fun _=>
 let v2:=(List.replicate (aP .i64 (p1+1)).toNat (0:Int)).set p1.toNat p0
 .ret v2
def NA (p0:Int) (p1:Int):Option (List Int):=(afe p0 p1).run some
def WL:Env:=⟨tau,[],[]⟩
def agQ:Code:=(Tryz.f129.body).getD .skip
def agP:FnI:=⟨agQ,Tryz.f129.results.toList,Tryz.f129.resultTypes.toList,[]⟩
def Zo (_p0:Int) (_p1:Int):(List Int)→aB:=fun r=>⟨(.ref (1,0) []),[],[⟨false,(.sl (.int .i64)),.own,r⟩]⟩
theorem aoF:∀(p0:Int)(p1:Int),bN WL agP ⟨[(.imm true (.int .i64) p0),(.imm true (.int .i64) p1)],[]⟩=(afe p0 p1).run fun r=>some (Zo p0 p1 r):=fun _ _=>by kernel_rfl
def agO (av:List AV) (rs:List Root):Tre aB:=
 aJ av fun a0_ av0=>
 aJ av0 fun a1_ av1=>
 aU av1<|
 aU rs<|
 aC true (.int .i64) a0_ fun d1=>
 aC true (.int .i64) a1_ fun d2=>
 .mat (NA d1 d2) fun r=>.ret (Zo d1 d2 r)
def agR:Ctr:=⟨[],fun ci=>agO ci.args ci.roots,false⟩
theorem alN:bM Tryz.prog .none WL:=aN
theorem aoG:Contract Tryz.prog .none 129 agR:=by
 have hl:aZ WL [] agQ:=bB (by kernel_rfl)
 refine (aI (F:=agP) bg alN Tryz.func129 (by kernel_rfl) (by kernel_rfl) (by kernel_rfl) hl []).weaken ?_
 rintro ⟨av,rs⟩ co h
 have h:(agO av rs).run some=some co:=h
 obtain ⟨a0_,av0,rfl,h_0⟩:=au h
 obtain ⟨a1_,av1,rfl,h_1⟩:=au h_0
 obtain ⟨rfl,h_2⟩:=ay h_1
 obtain ⟨rfl,h_3⟩:=ay h_2
 obtain ⟨d1,rfl,h_4⟩:=ak h_3
 obtain ⟨d2,rfl,h_5⟩:=ak h_4
 exact bJ (aoF d1 d2) h_5
def sI (h2_0_0:List Int):Int→Tre (Int ⊕ Int):=fun s2=>
 .cond (decide (s2>0))
  (.ite (0≤aP .i64 (s2-1)∧aP .i64 (s2-1)<(h2_0_0.length:Int))<|
  .mat (h2_0_0[(aP .i64 (s2-1)).toNat]?) fun x1=>
  .cond (decide (x1=0))
   (.ret (.inl (aP .i64 (s2-1))))
   (.ret (.inr s2)))
  (.ret (.inr s2))
def aff (p0:List Int):Tre (List Int):=
 .mat (aR (sI p0) (p0.length:Int)) fun l2=>
 .ite (0≤(0:Int)∧(0:Int)≤l2∧l2≤(p0.length:Int))<|
 let v3:=(p0.drop 0).take (l2-0).toNat
 .mat (gH v3) fun r4=>
 .ret r4
def Gh (p0:List Int):Option (List Int):=(aff p0).run some
-- more
theorem aqY{l:List Nat}(hl2:l.length≤1000):Gh (aS l)=some (aS (bX l)):=by
 have htl:=jI l
 have hlen:=aW l
 have hm:∀n,0<n→n≤l.length→aP .i64 ((n:Int)-1)=((n-1:Nat):Int):=fun n h1 h2=>gM h1 (by omega)
 have hx:∀n,0<n→n≤l.length→(aS l)[n-1]?=some (cf l (n-1):Int):=fun n h1 h2=>dA (dV (by omega))
 unfold Gh aff
 rw [ah (show aR (sI (aS l)) ((aS l).length:Int)=some (((bX l).length:Nat):Int) from ?_)]
 ·rw [Tre.run_ite,if_pos (by omega)]
  dsimp only
  rw [show ((((bX l).length:Nat):Int)-0).toNat=(bX l).length by omega,List.drop_zero,←Xz,adD,ah (show gH (aS (bX l))=some _ from KF (by rw [aW];omega)),Tre.aK]
 have h0:((aS l).length:Int)=((l.length-0:Nat):Int):=by rw [hlen];omega
 rw [h0]
 refine cO (fun i=>((l.length-i:Nat):Int)) (l.length-(bX l).length) _ (fun i hi=>?_) ?_
 ·unfold sI
  rw [Tre.aG,decide_eq_true (by omega),cond_true,hm _ (by omega) (by omega),dF (hx _ (by omega) (by omega)),Tre.aG,decide_eq_true (by rw [Dl (by omega)];rfl),cond_true,Tre.aK,Nat.sub_sub]
 ·rw [show l.length-(l.length-(bX l).length)=(bX l).length by omega]
  unfold sI
  by_cases hz:(bX l).length=0
  ·rw [Tre.aG,decide_eq_false (by omega),cond_false,Tre.aK]
  ·have h1:=(Qx l).resolve_left hz
   rw [Tre.aG,decide_eq_true (by omega),cond_true,hm _ (by omega) htl,dF (hx _ (by omega) htl),Tre.aG,decide_eq_false (by omega),cond_false,Tre.aK]
def Gi:Env:=⟨tau,[(108,D8)],[]⟩
def ND:Code:=(Tryz.f126.body).getD .skip
def G8 (z2_0:Bool) (h2_0_0:List Int):Int→St:=fun x=>bR [(0,(.imm z2_0 (.sl (.int .i64)) h2_0_0)),(3,(.imm true (.int .i64) x))] []
def Eh (z2_0:Bool) (h2_0_0:List Int):Int→Ex×St:=fun x=>(.exit 0,bR [(0,(.imm z2_0 (.sl (.int .i64)) h2_0_0)),(3,(.imm true (.int .i64) x))] [])
def WO (s:St):Tre (Ex×St):=
 bE (.sl (.int .i64)) (s.tmps 0) fun z3 d2=>
 aC true (.int .i64) (s.tmps 3) fun d5=>
 .mat (aR (sI d2) d5) fun x=>.ret (Eh z3 d2 x)
def qL:bK:=⟨([0,3],[]),([0,3],[]),WO⟩
def NC:List (Nat×bK):=[(2,qL)]
theorem ac5:∀(z2_0:Bool)(h2_0_0:List Int)(x:Int)(c:St→Option (Ex×St)),den Gi NC (aY ND 0) (G8 z2_0 h2_0_0 x) (bU qL.kp qL.kx c)=(sI h2_0_0 x).run (bV (G8 z2_0 h2_0_0) (Eh z2_0 h2_0_0) c):=fun _ _ _ _=>by
 kernel_rfl
theorem ahV:bS Gi NC (aY ND 0) qL:=bA fun s e s' h=>by
 generalize hs:restrict qL.kp s=s1 at h
 have h:(WO s1).run some=some (e,s'):=h
 obtain ⟨z3,d2,e1,h_0⟩:=aD h
 obtain ⟨d5,e4,h_1⟩:=ak h_0
 obtain ⟨y,hy,hz⟩:=bT h_1
 refine ⟨_,_,G8 z3 d2,Eh z3 d2,sI d2,d5,y,?_,hy,?_,ac5 z3 d2⟩
 ·subst hs;exact aT (T:=[(0,(.imm z3 (.sl (.int .i64)) d2)),(3,(.imm true (.int .i64) d5))]) (U:=[]) rfl rfl ⟨e1,e4,trivial⟩ trivial
 ·exact Option.some.inj hz
def agT:FnI:=⟨ND,Tryz.f126.results.toList,Tryz.f126.resultTypes.toList,NC⟩
def Zp (_zp0:Bool) (_p0:List Int):(List Int)→aB:=fun r=>⟨(.ref (1,0) []),[],[⟨false,(.sl (.int .i64)),.own,r⟩]⟩
theorem aoH:∀(zp0:Bool)(p0:List Int),bN Gi agT ⟨[(.imm zp0 (.sl (.int .i64)) p0)],[]⟩=(aff p0).run fun r=>some (Zp zp0 p0 r):=fun _ _=>by kernel_rfl
def agS (av:List AV) (rs:List Root):Tre aB:=
 aJ av fun a0_ av0=>
 aU av0<|
 aU rs<|
 bE (.sl (.int .i64)) a0_ fun z2 d1=>
 .mat (Gh d1) fun r=>.ret (Zp z2 d1 r)
def WM:Ctr:=⟨[],fun ci=>agS ci.args ci.roots,false⟩
theorem alO:bM Tryz.prog .none Gi:=(aA F9 ad1 aN)
theorem ac6:Contract Tryz.prog .none 126 WM:=by
 have hl:aZ Gi NC ND:=(bC (n:=1) (by kernel_rfl) fun k hk=>by
   match k,hk with
   |0,_=>exact bq (id:=2) (L:=qL) (by kernel_rfl) (by kernel_rfl) ahV)
 refine (aI (F:=agT) bg alO Tryz.func126 (by kernel_rfl) (by kernel_rfl) (by kernel_rfl) hl []).weaken ?_
 rintro ⟨av,rs⟩ co h
 have h:(agS av rs).run some=some co:=h
 obtain ⟨a0_,av0,rfl,h_0⟩:=au h
 obtain ⟨rfl,h_1⟩:=ay h_0
 obtain ⟨rfl,h_2⟩:=ay h_1
 obtain ⟨z2,d1,rfl,h_3⟩:=aD h_2
 exact bJ (aoH z2 d1) h_3
def dZ:((List Int) ⊕ (Nat×Nat×(List Int)))→Tre (((List Int) ⊕ (Nat×Nat×(List Int))) ⊕ ((List Int) ⊕ (Nat×Nat×(List Int))))
 |.inl s1=>
  .cond (decide ((s1.length:Int)>0))
   (let v1:=aP .i64 ((s1.length:Int)-1)
   .ite (0≤v1∧v1<(s1.length:Int))<|
   .mat (s1[v1.toNat]?) fun x2=>
   .cond (decide (x2=0))
    (.ite (0≤(0:Int)∧(0:Int)≤v1∧v1≤(s1.length:Int))<|
    .ret (.inl (.inr (0,(v1-0).toNat,s1))))
    (.ret (.inr (.inl s1))))
   (.ret (.inr (.inl s1)))
 |.inr s1=>
  .cond (decide ((s1.2.1:Int)>0))
   (let v3:=aP .i64 ((s1.2.1:Int)-1)
   .ite (0≤v3∧v3<(s1.2.1:Int))<|
   .mat (s1.2.2[s1.1+v3.toNat]?) fun x4=>
   .cond (decide (x4=0))
    (.ite (0≤(0:Int)∧(0:Int)≤v3∧v3≤(s1.2.1:Int))<|
    .ret (.inl (.inr (s1.1+0,(v3-0).toNat,s1.2.2))))
    (.ret (.inr (.inr (s1.1,s1.2.1,s1.2.2)))))
   (.ret (.inr (.inr (s1.1,s1.2.1,s1.2.2))))
def Vp (p0:List Int):Tre ((List Int) ⊕ (Nat×Nat×(List Int))):=
 .mat (aR dZ (.inl p0)) fun l5=>
 .alt l5
  (fun a6=>
   .ret (.inl a6))
  (fun b7=>
   .ret (.inr (b7.1,b7.2.1,b7.2.2)))
def ze (p0:List Int):Option ((List Int) ⊕ (Nat×Nat×(List Int))):=(Vp p0).run some
-- more
def aBT:(List Int) ⊕ (Nat×Nat×(List Int))→List Int
 |.inl a=>a
 |.inr b=>(b.2.2.drop b.1).take b.2.1
def st4(l:List Nat)(n:Nat):(List Int) ⊕ (Nat×Nat×(List Int)):=if n=l.length then .inl (aS l) else .inr (0,n,aS l)
theorem amD{l:List Nat}(hl2:l.length≤1000):∃r,ze (aS l)=some r∧aBT r=aS (bX l):=by
 have htl:=jI l
 have hlen:=aW l
 have hx:∀n,0<n→n≤l.length→(aS l)[n-1]?=some (cf l (n-1):Int):=fun n h1 h2=>dA (dV (by omega))
 have hstep:∀n,0<n→n≤l.length→cf l (n-1)=0→(dZ (if n=l.length then .inl (aS l) else .inr (0,n,aS l))).run some=some (.inl (.inr (0,n-1,aS l))):=by
  intro n h1 h2 h0
  by_cases hn:n=l.length
  ·have hm:aP .i64 (((aS l).length:Int)-1)=((n-1:Nat):Int):=by rw [hlen,←hn,gM (by omega) (by omega)]
   rw [if_pos hn]
   unfold dZ
   dsimp only
   rw [Tre.aG,decide_eq_true (by omega),cond_true,hm,dF (hx n h1 h2),Tre.aG,decide_eq_true (by omega),cond_true,Tre.run_ite,if_pos (by omega),Tre.aK]
   rw [show (((n-1:Nat):Int)-0).toNat=n-1 by omega]
  ·have hm:aP .i64 ((n:Int)-1)=((n-1:Nat):Int):=gM (by omega) (by omega)
   rw [if_neg hn]
   unfold dZ
   dsimp only
   rw [Tre.aG,decide_eq_true (by omega),cond_true,hm,Tre.run_ite,if_pos (by omega),Int.toNat_natCast,Nat.zero_add,ah (hx n h1 h2),Tre.aG,decide_eq_true (by omega),cond_true,Tre.run_ite,if_pos (by omega),Tre.aK]
   rw [show (((n-1:Nat):Int)-0).toNat=n-1 by omega]
 have hend:∀n,n≤l.length→(n=0∨cf l (n-1)≠0)→∃r,(dZ (if n=l.length then .inl (aS l) else .inr (0,n,aS l))).run some=some (.inr r)∧r=if n=l.length then .inl (aS l) else .inr (0,n,aS l):=by
  intro n h2 h0
  refine ⟨_,?_,rfl⟩
  by_cases hn:n=l.length
  ·have hm:0<n→aP .i64 (((aS l).length:Int)-1)=((n-1:Nat):Int):=fun h1=>by rw [hlen,←hn,gM (by omega) (by omega)]
   rw [if_pos hn]
   unfold dZ
   dsimp only
   by_cases h1:n=0
   ·rw [Tre.aG,decide_eq_false (by omega),cond_false,Tre.aK]
   ·have h0:=h0.resolve_left h1
    rw [Tre.aG,decide_eq_true (by omega),cond_true,hm (by omega),dF (hx n (by omega) h2),Tre.aG,decide_eq_false (by omega),cond_false,Tre.aK]
  ·rw [if_neg hn]
   unfold dZ
   dsimp only
   by_cases h1:n=0
   ·rw [Tre.aG,decide_eq_false (by omega),cond_false,Tre.aK]
   ·have hm:aP .i64 ((n:Int)-1)=((n-1:Nat):Int):=gM (by omega) (by omega)
    have h0:=h0.resolve_left h1
    rw [Tre.aG,decide_eq_true (by omega),cond_true,hm,Tre.run_ite,if_pos (by omega),Int.toNat_natCast,Nat.zero_add,ah (hx n (by omega) h2),Tre.aG,decide_eq_false (by omega),cond_false,Tre.aK]
 obtain ⟨r,hr1,hr2⟩:=hend (bX l).length htl (Qx l)
 refine ⟨r,?_,?_⟩
 ·unfold ze Vp
  have hl:aR dZ (.inl (aS l))=some r:=by
   have h0:(.inl (aS l):(List Int) ⊕ (Nat×Nat×(List Int)))=st4 l (l.length-0):=by simp [st4]
   rw [h0]
   refine cO (fun i=>st4 l (l.length-i)) (l.length-(bX l).length) _ (fun i hi=>?_) ?_
   ·unfold st4
    rw [hstep (l.length-i) (by omega) (by omega) (Dl (by omega))]
    rw [if_neg (show ¬l.length-(i+1)=l.length by omega),Nat.sub_sub]
   ·rw [show l.length-(l.length-(bX l).length)=(bX l).length by omega];exact hr1
  rw [ah hl]
  cases r<;>rfl
 ·rw [hr2]
  split
  ·rename_i h
   show aS l=_
   have:=adD l
   rw [h,List.take_length] at this
   rw [←this]
  ·show ((aS l).drop 0).take (bX l).length=_
   rw [List.drop_zero,←Xz,adD]
def zf:Env:=⟨tau,[],[]⟩
def EB:Code:=(Tryz.f48.body).getD .skip
def vD:((List Int) ⊕ (Nat×Nat×(List Int)))→St
 |.inl x=>bR [(0,(.ref (0,0) []))] [((0,0),some ⟨false,(.sl (.int .i64)),.own,x⟩)]
 |.inr x=>bR [(0,(.slc (0,0) [] x.1 x.2.1))] [((0,0),some ⟨false,(.sl (.int .i64)),.own,x.2.2⟩)]
def iR:((List Int) ⊕ (Nat×Nat×(List Int)))→Ex×St
 |.inl x=>(.exit 0,bR [(0,(.ref (0,0) []))] [((0,0),some ⟨false,(.sl (.int .i64)),.own,x⟩)])
 |.inr x=>(.exit 0,bR [(0,(.slc (0,0) [] x.1 x.2.1))] [((0,0),some ⟨false,(.sl (.int .i64)),.own,x.2.2⟩)])
def PG (s:St):Tre (Ex×St):=
 cond (AV.isRef (s.tmps 0))
 (dz (0,0) [] (s.tmps 0)<|
 bD false (.sl (.int .i64)) (s.roots (0,0)) fun m3 d4=>
 asM .own m3<|
 .mat (aR dZ (.inl d4)) fun x=>.alt x (fun a0=>.ret (iR (.inl a0))) (fun b0=>.ret (iR (.inr b0))))
 (avr (0,0) [] (s.tmps 0) fun i2 n3=>
 bD false (.sl (.int .i64)) (s.roots (0,0)) fun m5 d6=>
 asM .own m5<|
 .mat (aR dZ (.inr (i2,n3,d6))) fun x=>.alt x (fun a0=>.ret (iR (.inl a0))) (fun b0=>.ret (iR (.inr b0))))
def mF:bK:=⟨([0],[(0,0)]),([0],[(0,0)]),PG⟩
def EA:List (Nat×bK):=[(1,mF)]
theorem Ii:∀(x:((List Int) ⊕ (Nat×Nat×(List Int))))(c:St→Option (Ex×St)),den zf EA (aY EB 0) (vD x) (bU mF.kp mF.kx c)=(dZ x).run (bV (vD) (iR) c):=fun x _=>by
 rcases x with x|x<;>kernel_rfl
theorem abI:bS zf EA (aY EB 0) mF:=bA fun s e s' h=>by
 generalize hs:restrict mF.kp s=s1 at h
 have h:(PG s1).run some=some (e,s'):=h
 cases ht0:AV.isRef (s1.tmps 0) with
 |true=>
  have h:=axt ht0 h
  obtain ⟨e1,h_0⟩:=bf h
  obtain ⟨m3,d4,e2,h_1⟩:=aH h_0
  obtain ⟨rfl,h_2⟩:=aQ h_1
  obtain ⟨y,hy,hz⟩:=jR h_2
  refine ⟨_,_,vD,iR,dZ,(.inl d4),y,?_,hy,?_,Ii⟩
  ·subst hs;exact aT (T:=[(0,(.ref (0,0) []))]) (U:=[((0,0),some ⟨false,(.sl (.int .i64)),.own,d4⟩)]) rfl rfl ⟨e1,trivial⟩ ⟨e2,trivial⟩
  ·rcases y with x|x<;>exact Option.some.inj hz
 |false=>
  have h:=avb ht0 h
  obtain ⟨i2,n3,e1,h_0⟩:=arn h
  obtain ⟨m5,d6,e4,h_1⟩:=aH h_0
  obtain ⟨rfl,h_2⟩:=aQ h_1
  obtain ⟨y,hy,hz⟩:=jR h_2
  refine ⟨_,_,vD,iR,dZ,(.inr (i2,n3,d6)),y,?_,hy,?_,Ii⟩
  ·subst hs;exact aT (T:=[(0,(.slc (0,0) [] i2 n3))]) (U:=[((0,0),some ⟨false,(.sl (.int .i64)),.own,d6⟩)]) rfl rfl ⟨e1,trivial⟩ ⟨e4,trivial⟩
  ·rcases y with x|x<;>exact Option.some.inj hz
def YT:FnI:=⟨EB,Tryz.f48.results.toList,Tryz.f48.resultTypes.toList,EA⟩
def GH (_p0:List Int):((List Int) ⊕ (Nat×Nat×(List Int)))→aB
 |.inl r=>⟨(.ref (0,0) []),[⟨false,(.sl (.int .i64)),.own,r⟩],[]⟩
 |.inr r=>⟨(.slc (0,0) [] r.1 r.2.1),[⟨false,(.sl (.int .i64)),.own,r.2.2⟩],[]⟩
theorem ajl:∀(p0:List Int),bN zf YT ⟨[(.ref (0,0) [])],[⟨false,(.sl (.int .i64)),.own,p0⟩]⟩=(Vp p0).run fun r=>some (GH p0 r):=fun _=>by kernel_rfl
def YS (av:List AV) (rs:List Root):Tre aB:=
 aJ av fun a0_ av0=>
 aU av0<|
 aJ rs fun r0_ rs0=>
 aU rs0<|
 dz (0,0) [] a0_<|
 Js false (.sl (.int .i64)) r0_ fun m1 d2=>
 asM .own m1<|
 .mat (ze d2) fun r=>.alt r (fun a0=>.ret (GH d2 (.inl a0))) (fun b0=>.ret (GH d2 (.inr b0)))
def Ol:Ctr:=⟨[0],fun ci=>YS ci.args ci.roots,false⟩
theorem ahx:bM Tryz.prog .none zf:=aN
theorem Vq:Contract Tryz.prog .none 48 Ol:=by
 have hl:aZ zf EA EB:=(bC (n:=1) (by kernel_rfl) fun k hk=>by
   match k,hk with
   |0,_=>exact bq (id:=1) (L:=mF) (by kernel_rfl) (by kernel_rfl) abI)
 refine (aI (F:=YT) bg ahx Tryz.func48 (by kernel_rfl) (by kernel_rfl) (by kernel_rfl) hl [0]).weaken ?_
 rintro ⟨av,rs⟩ co h
 have h:(YS av rs).run some=some co:=h
 obtain ⟨a0_,av0,rfl,h_0⟩:=au h
 obtain ⟨rfl,h_1⟩:=ay h_0
 obtain ⟨r0_,rs0,rfl,h_2⟩:=au h_1
 obtain ⟨rfl,h_3⟩:=ay h_2
 obtain ⟨rfl,h_4⟩:=bf h_3
 obtain ⟨m1,d2,rfl,h_5⟩:=eY h_4
 obtain ⟨rfl,h_6⟩:=aQ h_5
 exact aiV (ajl d2) h_6 (by rintro (x|x)<;>rfl)
def DJ (h4_0_0:List Int) (h4_0_1:Int):(Int×(List Int))→Tre ((Int×(List Int)) ⊕ (List Int)):=fun s4=>
 .cond (decide (s4.1<h4_0_1))
  (.ite (0≤s4.1∧s4.1<(h4_0_0.length:Int))<|
  .mat (h4_0_0[s4.1.toNat]?) fun x3=>
  .ite (0≤s4.1∧s4.1<(s4.2.length:Int))<|
  .mat (s4.2[s4.1.toNat]?) fun x4=>
  .ite (0≤s4.1∧s4.1<(s4.2.length:Int))<|
  .mat (s4.2[s4.1.toNat]?) fun _=>
  let v6:=s4.2.set s4.1.toNat (jJ .i64 x4 x3)
  .ret (.inl (aP .i64 (s4.1+1),v6)))
  (.ret (.inr s4.2))
def ar0 (p0:List Int) (p1:List Int):Tre (List Int):=
 let v1:=if (p0.length:Int)<(p1.length:Int) then (p1.length:Int) else (p0.length:Int)
 .ite (((.int .i64):K)=(.int .i64)∧0≤v1∧v1=v1∧v1*(8:Nat)≤140737488355328∧1≤8)<|
 let v2:=p0.take (List.replicate v1.toNat (0:Int)).length++(List.replicate v1.toNat (0:Int)).drop p0.length
 .mat (aR (DJ p1 (p1.length:Int)) (0,v2)) fun l7=>
 .mat (ze l7) fun r8=>
 .alt r8
  (fun a9=>
   .ret a9)
  (fun b10=>
   .ret ((b10.2.2.drop b10.1).take b10.2.1))
def Kw (p0:List Int) (p1:List Int):Option (List Int):=(ar0 p0 p1).run some
-- more
theorem avj{f:TF3}(hf:aO f=true){A Q:List Nat}(hA:inL (FOf f hf) A)(hQ:inL (FOf f hf) Q)(hl:Q.length≤A.length){i:Nat}(hi:i<Q.length) :
  (aS (jS A (Q.take i)))[i]?=some (cf A i:Int)∧(aS Q)[i]?=some (cf Q i:Int)∧jJ .i64 (cf A i:Int) (cf Q i:Int)=((cf A i^^^cf Q i:Nat):Int) ∧
  (aS (jS A (Q.take i))).set i (((cf A i^^^cf Q i:Nat):Int))=aS (jS A (Q.take (i+1))):=by
 have hti:(Q.take i).length=i:=by rw [List.length_take];omega
 obtain ⟨h1,h2⟩:=ao4 (Q.take i) A (cf Q i) (by omega)
 rw [hti] at h1 h2
 refine ⟨dA h1,dA (dV hi),Xm hf (kR hA i) (kR hQ i),?_⟩
 rw [←Vt,h2,List.take_add_one,dV hi];rfl
theorem apX{f:TF3}(hf:aO f=true){P Q:List Nat}(hP:inL (FOf f hf) P)(hQ:inL (FOf f hf) Q)(hp:P.length≤1000)(hq:Q.length≤1000):Kw (aS P) (aS Q)=some (aS (bX (jS P Q))):=by
 have hm:(if ((aS P).length:Int)<((aS Q).length:Int) then ((aS Q).length:Int) else ((aS P).length:Int))=((max P.length Q.length:Nat):Int):=by
  rw [aW,aW];split<;>omega
 have hv:(aS P).take (List.replicate (max P.length Q.length) (0:Int)).length++(List.replicate (max P.length Q.length) (0:Int)).drop (aS P).length=aS (uW (max P.length Q.length) P):=by
  rw [List.length_replicate,List.take_of_length_le (by rw [aW];omega),List.drop_replicate,aW]
  unfold uW
  rw [wC,DN]
 have hpl:(uW (max P.length Q.length) P).length=max P.length Q.length:=acr (by omega)
 have hpi:inL (FOf f hf) (uW (max P.length Q.length) P):=abM hP fun x hx=>by rw [(List.mem_replicate.1 hx).2];exact FO.zlt _
 obtain ⟨r,hr1,hr2⟩:=amD (l:=jS (uW (max P.length Q.length) P) Q) (by rw [OO];omega)
 unfold Kw ar0
 dsimp only
 rw [hm,Tre.run_ite,if_pos ⟨rfl,by omega,rfl,by omega,by omega⟩,Int.toNat_natCast,hv]
 rw [ah (show aR (DJ (aS Q) ((aS Q).length:Int)) (0,aS (uW (max P.length Q.length) P))=some (aS (jS (uW (max P.length Q.length) P) Q)) from ?_),ah hr1]
 ·rw [←ao3 (max P.length Q.length),←hr2]
  cases r<;>rfl
 have h0:uW (max P.length Q.length) P=jS (uW (max P.length Q.length) P) (Q.take 0):=by rw [List.take_zero,aiv]
 conv=>lhs;rw [h0]
 refine cO (fun i=>((i:Int),aS (jS (uW (max P.length Q.length) P) (Q.take i)))) Q.length _ (fun i hi=>?_) ?_
 ·obtain ⟨h1,h2,h3,h4⟩:=avj hf hpi hQ (by omega) hi
  unfold DJ
  dsimp only
  rw [dP h2,dF h1,dF h1,h3,Int.toNat_natCast,h4,Tre.aK,aV (by omega)]
 ·unfold DJ
  dsimp only
  rw [aW,dw,Tre.aK,List.take_length]
def Vk:Env:=⟨tau,[(48,Ol)],[]⟩
def abB:Code:=(Tryz.f77.body).getD .skip
def Q8 (z4_0:Bool) (h4_0_0:List Int) (h4_0_1:Int):(Int×(List Int))→St:=fun x=>bR [(5,(.ref (7,0) [])),(17,(.imm z4_0 (.sl (.int .i64)) h4_0_0)),(18,(.imm true (.int .i64) h4_0_1)),(19,(.imm true (.int .i64) x.1))] [((7,0),some ⟨false,(.sl (.int .i64)),.own,x.2⟩)]
def Oj (_z4_0:Bool) (_h4_0_0:List Int) (_h4_0_1:Int):(List Int)→Ex×St:=fun x=>(.exit 0,bR [(5,(.ref (7,0) []))] [((7,0),some ⟨false,(.sl (.int .i64)),.own,x⟩)])
def afR (s:St):Tre (Ex×St):=
 dz (7,0) [] (s.tmps 5)<|
 bE (.sl (.int .i64)) (s.tmps 17) fun z4 d3=>
 aC true (.int .i64) (s.tmps 18) fun d6=>
 aC true (.int .i64) (s.tmps 19) fun d8=>
 bD false (.sl (.int .i64)) (s.roots (7,0)) fun m10 d11=>
 asM .own m10<|
 .mat (aR (DJ d3 d6) (d8,d11)) fun x=>.ret (Oj z4 d3 d6 x)
def AL:bK:=⟨([5,17,18,19],[(7,0)]),([5],[(7,0)]),afR⟩
def abA:List (Nat×bK):=[(4,AL)]
theorem ajb:∀(z4_0:Bool)(h4_0_0:List Int)(h4_0_1:Int)(x:(Int×(List Int)))(c:St→Option (Ex×St)),den Vk abA (aY abB 0) (Q8 z4_0 h4_0_0 h4_0_1 x) (bU AL.kp AL.kx c)=(DJ h4_0_0 h4_0_1 x).run (bV (Q8 z4_0 h4_0_0 h4_0_1) (Oj z4_0 h4_0_0 h4_0_1) c):=fun _ _ _ _ _=>by
 kernel_rfl
theorem anK:bS Vk abA (aY abB 0) AL:=bA fun s e s' h=>by
 generalize hs:restrict AL.kp s=s1 at h
 have h:(afR s1).run some=some (e,s'):=h
 obtain ⟨e1,h_0⟩:=bf h
 obtain ⟨z4,d3,e2,h_1⟩:=aD h_0
 obtain ⟨d6,e5,h_2⟩:=ak h_1
 obtain ⟨d8,e7,h_3⟩:=ak h_2
 obtain ⟨m10,d11,e9,h_4⟩:=aH h_3
 obtain ⟨rfl,h_5⟩:=aQ h_4
 obtain ⟨y,hy,hz⟩:=bT h_5
 refine ⟨_,_,Q8 z4 d3 d6,Oj z4 d3 d6,DJ d3 d6,(d8,d11),y,?_,hy,?_,ajb z4 d3 d6⟩
 ·subst hs;exact aT (T:=[(5,(.ref (7,0) [])),(17,(.imm z4 (.sl (.int .i64)) d3)),(18,(.imm true (.int .i64) d6)),(19,(.imm true (.int .i64) d8))]) (U:=[((7,0),some ⟨false,(.sl (.int .i64)),.own,d11⟩)]) rfl rfl ⟨e1,e2,e5,e7,trivial⟩ ⟨e9,trivial⟩
 ·exact Option.some.inj hz
def apL:FnI:=⟨abB,Tryz.f77.results.toList,Tryz.f77.resultTypes.toList,abA⟩
def ajc (_zp0:Bool) (_zp1:Bool) (_p0:List Int) (_p1:List Int):(List Int)→aB:=fun r=>⟨(.ref (1,0) []),[],[⟨false,(.sl (.int .i64)),.own,r⟩]⟩
theorem aup:∀(zp0:Bool)(zp1:Bool)(p0:List Int)(p1:List Int),bN Vk apL ⟨[(.imm zp0 (.sl (.int .i64)) p0),(.imm zp1 (.sl (.int .i64)) p1)],[]⟩=(ar0 p0 p1).run fun r=>some (ajc zp0 zp1 p0 p1 r):=fun _ _ _ _=>by kernel_rfl
def apK (av:List AV) (rs:List Root):Tre aB:=
 aJ av fun a0_ av0=>
 aJ av0 fun a1_ av1=>
 aU av1<|
 aU rs<|
 bE (.sl (.int .i64)) a0_ fun z2 d1=>
 bE (.sl (.int .i64)) a1_ fun z4 d3=>
 .mat (Kw d1 d3) fun r=>.ret (ajc z2 z4 d1 d3 r)
def apM:Ctr:=⟨[],fun ci=>apK ci.args ci.roots,false⟩
theorem ar1:bM Tryz.prog .none Vk:=(aA Vq avZ aN)
theorem auq:Contract Tryz.prog .none 77 apM:=by
 have hl:aZ Vk abA abB:=(bC (n:=1) (by kernel_rfl) fun k hk=>by
   match k,hk with
   |0,_=>exact bq (id:=4) (L:=AL) (by kernel_rfl) (by kernel_rfl) anK)
 refine (aI (F:=apL) bg ar1 Tryz.func77 (by kernel_rfl) (by kernel_rfl) (by kernel_rfl) hl []).weaken ?_
 rintro ⟨av,rs⟩ co h
 have h:(apK av rs).run some=some co:=h
 obtain ⟨a0_,av0,rfl,h_0⟩:=au h
 obtain ⟨a1_,av1,rfl,h_1⟩:=au h_0
 obtain ⟨rfl,h_2⟩:=ay h_1
 obtain ⟨rfl,h_3⟩:=ay h_2
 obtain ⟨z2,d1,rfl,h_4⟩:=aD h_3
 obtain ⟨z4,d3,rfl,h_5⟩:=aD h_4
 exact bJ (aup z2 z4 d1 d3) h_5
def wP (h2_0_0:List Int):(List Int)→Tre ((List Int) ⊕ (List Int)):=fun s2=>
 .cond (decide ((s2.length:Int)<(h2_0_0.length:Int)))
  (.ite ((s2.length+1)*8≤bO∧1≤8)<|
  .ret (.inl (s2++([0]))))
  (.ret (.inr s2))
def wQ (h5_0_0:List Int):(Int×(List Int))→Tre ((Int×(List Int)) ⊕ (List Int)):=fun s5=>
 .cond (decide (s5.1<(h5_0_0.length:Int)))
  (.ite (0≤s5.1∧s5.1<(s5.2.length:Int))<|
  .mat (s5.2[s5.1.toNat]?) fun x3=>
  .ite (0≤s5.1∧s5.1<(h5_0_0.length:Int))<|
  .mat (h5_0_0[s5.1.toNat]?) fun x4=>
  .ite (0≤s5.1∧s5.1<(s5.2.length:Int))<|
  .mat (s5.2[s5.1.toNat]?) fun _=>
  let v6:=s5.2.set s5.1.toNat (jJ .i64 x3 x4)
  .ret (.inl (aP .i64 (s5.1+1),v6)))
  (.ret (.inr s5.2))
def aku (p0:List Int) (p1:List Int):Tre (List Int):=
 .mat (gH p0) fun r1=>
 .mat (aR (wP p1) r1) fun l2=>
 .mat (aR (wQ p1) (0,l2)) fun l7=>
 .mat (Gh l7) fun r8=>
 .ret r8
def K9 (p0:List Int) (p1:List Int):Option (List Int):=(aku p0 p1).run some
-- more
theorem atK{f:TF3}(hf:aO f=true){P Q:List Nat}(hP:inL (FOf f hf) P)(hQ:inL (FOf f hf) Q)(hp:P.length≤1000)(hq:Q.length≤1000):K9 (aS P) (aS Q)=some (aS (bX (jS P Q))):=by
 have hpl:(uW Q.length P).length=max P.length Q.length:=by simp [uW];omega
 have hpi:inL (FOf f hf) (uW Q.length P):=abM hP fun x hx=>by rw [(List.mem_replicate.1 hx).2];exact FO.zlt _
 unfold K9 aku
 rw [ah (show gH (aS P)=some (aS P) from KF (by rw [aW];omega))]
 rw [ah (show aR (wP (aS Q)) (aS P)=some (aS (uW Q.length P)) from ?_)]
 ·rw [ah (show aR (wQ (aS Q)) (0,aS (uW Q.length P))=some (aS (jS (uW Q.length P) Q)) from ?_),ah (aqY (by rw [OO];omega)),Tre.aK,ao3]
  have h0:uW Q.length P=jS (uW Q.length P) (Q.take 0):=by rw [List.take_zero,aiv]
  conv=>lhs;rw [h0]
  refine cO (fun i=>((i:Int),aS (jS (uW Q.length P) (Q.take i)))) Q.length _ (fun i hi=>?_) ?_
  ·obtain ⟨h1,h2,h3,h4⟩:=avj hf hpi hQ (by omega) hi
   unfold wQ
   dsimp only
   rw [Tre.aG,decide_eq_true (by rw [aW];omega),cond_true,dF h1,dF h2,dF h1,h3,Int.toNat_natCast,h4,Tre.aK,aV (by omega)]
  ·unfold wQ
   dsimp only
   rw [aW,dw,Tre.aK,List.take_length]
 ·have h0:aS P=aS (P++List.replicate 0 0):=by simp
  conv=>lhs;rw [h0]
  refine cO (fun i=>aS (P++List.replicate i 0)) (Q.length-P.length) _ (fun i hi=>?_) ?_
  ·unfold wP
   rw [Tre.aG,decide_eq_true (by rw [aW,aW,List.length_append,List.length_replicate];omega),cond_true,Tre.run_ite,if_pos (by rw [aW,List.length_append,List.length_replicate];unfold bO;omega),Tre.aK]
   rw [List.replicate_succ',←List.append_assoc,wC (P++List.replicate i 0)]
   rfl
  ·unfold wP
   rw [Tre.aG,decide_eq_false (by rw [aW,aW,List.length_append,List.length_replicate];omega),cond_false,Tre.aK]
   rfl
def Ai:Env:=⟨tau,[(108,D8),(126,WM)],[]⟩
def Ef:Code:=(Tryz.f130.body).getD .skip
def La (z2_0:Bool) (h2_0_0:List Int):(List Int)→St:=fun x=>bR [(1,(.imm z2_0 (.sl (.int .i64)) h2_0_0)),(5,(.ref (7,0) []))] [((7,0),some ⟨false,(.sl (.int .i64)),.own,x⟩)]
def G6 (z2_0:Bool) (h2_0_0:List Int):(List Int)→Ex×St:=fun x=>(.exit 0,bR [(1,(.imm z2_0 (.sl (.int .i64)) h2_0_0)),(5,(.ref (7,0) []))] [((7,0),some ⟨false,(.sl (.int .i64)),.own,x⟩)])
def Zm (s:St):Tre (Ex×St):=
 bE (.sl (.int .i64)) (s.tmps 1) fun z3 d2=>
 dz (7,0) [] (s.tmps 5)<|
 bD false (.sl (.int .i64)) (s.roots (7,0)) fun m6 d7=>
 asM .own m6<|
 .mat (aR (wP d2) d7) fun x=>.ret (G6 z3 d2 x)
def uD:bK:=⟨([1,5],[(7,0)]),([1,5],[(7,0)]),Zm⟩
def Lb (z5_0:Bool) (h5_0_0:List Int):(Int×(List Int))→St:=fun x=>bR [(1,(.imm z5_0 (.sl (.int .i64)) h5_0_0)),(5,(.ref (7,0) [])),(6,(.imm true (.int .i64) x.1))] [((7,0),some ⟨false,(.sl (.int .i64)),.own,x.2⟩)]
def G7 (_z5_0:Bool) (_h5_0_0:List Int):(List Int)→Ex×St:=fun x=>(.exit 2,bR [(5,(.ref (7,0) []))] [((7,0),some ⟨false,(.sl (.int .i64)),.own,x⟩)])
def Zn (s:St):Tre (Ex×St):=
 bE (.sl (.int .i64)) (s.tmps 1) fun z3 d2=>
 dz (7,0) [] (s.tmps 5)<|
 aC true (.int .i64) (s.tmps 6) fun d6=>
 bD false (.sl (.int .i64)) (s.roots (7,0)) fun m8 d9=>
 asM .own m8<|
 .mat (aR (wQ d2) (d6,d9)) fun x=>.ret (G7 z3 d2 x)
def uE:bK:=⟨([1,5,6],[(7,0)]),([5],[(7,0)]),Zn⟩
def Ee:List (Nat×bK):=[(2,uD),(5,uE)]
theorem afc:∀(z2_0:Bool)(h2_0_0:List Int)(x:List Int)(c:St→Option (Ex×St)),den Ai Ee (aY Ef 0) (La z2_0 h2_0_0 x) (bU uD.kp uD.kx c)=(wP h2_0_0 x).run (bV (La z2_0 h2_0_0) (G6 z2_0 h2_0_0) c):=fun _ _ _ _=>by
 kernel_rfl
theorem aky:bS Ai Ee (aY Ef 0) uD:=bA fun s e s' h=>by
 generalize hs:restrict uD.kp s=s1 at h
 have h:(Zm s1).run some=some (e,s'):=h
 obtain ⟨z3,d2,e1,h_0⟩:=aD h
 obtain ⟨e4,h_1⟩:=bf h_0
 obtain ⟨m6,d7,e5,h_2⟩:=aH h_1
 obtain ⟨rfl,h_3⟩:=aQ h_2
 obtain ⟨y,hy,hz⟩:=bT h_3
 refine ⟨_,_,La z3 d2,G6 z3 d2,wP d2,d7,y,?_,hy,?_,afc z3 d2⟩
 ·subst hs;exact aT (T:=[(1,(.imm z3 (.sl (.int .i64)) d2)),(5,(.ref (7,0) []))]) (U:=[((7,0),some ⟨false,(.sl (.int .i64)),.own,d7⟩)]) rfl rfl ⟨e1,e4,trivial⟩ ⟨e5,trivial⟩
 ·exact Option.some.inj hz
theorem afd:∀(z5_0:Bool)(h5_0_0:List Int)(x:(Int×(List Int)))(c:St→Option (Ex×St)),den Ai Ee (aY Ef 1) (Lb z5_0 h5_0_0 x) (bU uE.kp uE.kx c)=(wQ h5_0_0 x).run (bV (Lb z5_0 h5_0_0) (G7 z5_0 h5_0_0) c):=fun _ _ _ _=>by
 kernel_rfl
theorem akz:bS Ai Ee (aY Ef 1) uE:=bA fun s e s' h=>by
 generalize hs:restrict uE.kp s=s1 at h
 have h:(Zn s1).run some=some (e,s'):=h
 obtain ⟨z3,d2,e1,h_0⟩:=aD h
 obtain ⟨e4,h_1⟩:=bf h_0
 obtain ⟨d6,e5,h_2⟩:=ak h_1
 obtain ⟨m8,d9,e7,h_3⟩:=aH h_2
 obtain ⟨rfl,h_4⟩:=aQ h_3
 obtain ⟨y,hy,hz⟩:=bT h_4
 refine ⟨_,_,Lb z3 d2,G7 z3 d2,wQ d2,(d6,d9),y,?_,hy,?_,afd z3 d2⟩
 ·subst hs;exact aT (T:=[(1,(.imm z3 (.sl (.int .i64)) d2)),(5,(.ref (7,0) [])),(6,(.imm true (.int .i64) d6))]) (U:=[((7,0),some ⟨false,(.sl (.int .i64)),.own,d9⟩)]) rfl rfl ⟨e1,e4,e5,trivial⟩ ⟨e7,trivial⟩
 ·exact Option.some.inj hz
def akw:FnI:=⟨Ef,Tryz.f130.results.toList,Tryz.f130.resultTypes.toList,Ee⟩
def ac4 (_zp0:Bool) (_zp1:Bool) (_p0:List Int) (_p1:List Int):(List Int)→aB:=fun r=>⟨(.ref (1,0) []),[],[⟨false,(.sl (.int .i64)),.own,r⟩]⟩
theorem aqO:∀(zp0:Bool)(zp1:Bool)(p0:List Int)(p1:List Int),bN Ai akw ⟨[(.imm zp0 (.sl (.int .i64)) p0),(.imm zp1 (.sl (.int .i64)) p1)],[]⟩=(aku p0 p1).run fun r=>some (ac4 zp0 zp1 p0 p1 r):=fun _ _ _ _=>by kernel_rfl
def akv (av:List AV) (rs:List Root):Tre aB:=
 aJ av fun a0_ av0=>
 aJ av0 fun a1_ av1=>
 aU av1<|
 aU rs<|
 bE (.sl (.int .i64)) a0_ fun z2 d1=>
 bE (.sl (.int .i64)) a1_ fun z4 d3=>
 .mat (K9 d1 d3) fun r=>.ret (ac4 z2 z4 d1 d3 r)
def akx:Ctr:=⟨[],fun ci=>akv ci.args ci.roots,false⟩
theorem aoE:bM Tryz.prog .none Ai:=(aA F9 ad1 (aA ac6 avV aN))
theorem aqP:Contract Tryz.prog .none 130 akx:=by
 have hl:aZ Ai Ee Ef:=(bC (n:=2) (by kernel_rfl) fun k hk=>by
   match k,hk with
   |0,_=>exact bq (id:=2) (L:=uD) (by kernel_rfl) (by kernel_rfl) aky
   |1,_=>exact bq (id:=5) (L:=uE) (by kernel_rfl) (by kernel_rfl) akz)
 refine (aI (F:=akw) bg aoE Tryz.func130 (by kernel_rfl) (by kernel_rfl) (by kernel_rfl) hl []).weaken ?_
 rintro ⟨av,rs⟩ co h
 have h:(akv av rs).run some=some co:=h
 obtain ⟨a0_,av0,rfl,h_0⟩:=au h
 obtain ⟨a1_,av1,rfl,h_1⟩:=au h_0
 obtain ⟨rfl,h_2⟩:=ay h_1
 obtain ⟨rfl,h_3⟩:=ay h_2
 obtain ⟨z2,d1,rfl,h_4⟩:=aD h_3
 obtain ⟨z4,d3,rfl,h_5⟩:=aD h_4
 exact bJ (aqO z2 z4 d1 d3) h_5
def iP (h8_0_1:Int) (h8_0_2:Int) (h8_0_6:List Int) (h8_0_7:Int) (h8_0_9:(Int×(Int×Unit))):(Int×(List Int))→Tre ((Int×(List Int)) ⊕ (List Int)):=fun s8=>
 .cond (decide (s8.1<h8_0_7))
  (.ite (0≤s8.1∧s8.1<(h8_0_6.length:Int))<|
  .mat (h8_0_6[s8.1.toNat]?) fun x3=>
  let v4:=aP .i64 (h8_0_1+s8.1)
  .ite (0≤v4∧v4<(s8.2.length:Int))<|
  .mat (s8.2[v4.toNat]?) fun x5=>
  .mat (fV h8_0_9 x3 h8_0_1) fun r6=>
  .mat (bY h8_0_9 h8_0_2 r6) fun r7=>
  .ite (0≤v4∧v4<(s8.2.length:Int))<|
  .mat (s8.2[v4.toNat]?) fun _=>
  let v9:=s8.2.set v4.toNat (jJ .i64 x5 r7)
  .ret (.inl (aP .i64 (s8.1+1),v9)))
  (.ret (.inr s8.2))
def iO (h5_0_0:List Int) (h5_0_1:List Int) (h5_0_2:Int) (h5_0_4:(Int×(Int×Unit))):(Int×(List Int))→Tre ((Int×(List Int)) ⊕ (List Int)):=fun s5=>
 .cond (decide (s5.1<h5_0_2))
  (.ite (0≤s5.1∧s5.1<(h5_0_1.length:Int))<|
  .mat (h5_0_1[s5.1.toNat]?) fun x2=>
  .mat (aR (iP s5.1 x2 h5_0_0 (h5_0_0.length:Int) h5_0_4) (0,s5.2)) fun l10=>
  .ret (.inl (aP .i64 (s5.1+1),l10)))
  (.ret (.inr s5.2))
def Gt (p0:(Int×(Int×Unit))) (p1:List Int) (p2:List Int):Tre (List Int):=
 .cond (decide ((p1.length:Int)=0))
  (.ret [])
  (.cond (decide ((p2.length:Int)=0))
   (.ret [])
   (let v1:=aP .i64 ((p1.length:Int)+(p2.length:Int))
   .ite (((.int .i64):K)=(.int .i64)∧0≤aP .i64 (v1-1)∧aP .i64 (v1-1)=aP .i64 (v1-1)∧aP .i64 (v1-1)*(8:Nat)≤140737488355328∧1≤8)<|
   .mat (aR (iO p2 p1 (p1.length:Int) p0) (0,List.replicate (aP .i64 (v1-1)).toNat (0:Int))) fun l11=>
   .mat (ze l11) fun r12=>
   .alt r12
    (fun a13=>
     .ret a13)
    (fun b14=>
     .ret ((b14.2.2.drop b14.1).take b14.2.1))))
def jq (p0:(Int×(Int×Unit))) (p1:List Int) (p2:List Int):Option (List Int):=(Gt p0 p1 p2).run some
-- more
theorem asL(F:FO):∀(V:List Nat)(x:Nat→Nat)(i:Nat),(∀i,x i=0)→F.fD V x i=0:=by
 intro V
 induction V with
 |nil=>intro x i _;simp [FO.fD]
 |cons v vs ih=>
  intro x i hx
  simp only [FO.fD]
  rw [hx,F.mul_zero,Nat.zero_xor]
  cases i with
  |zero=>rfl
  |succ i=>exact ih _ i fun j=>by rw [hx,F.Jl]
theorem asN{f:TF3}(hf:aO f=true){A Y:List Nat}(hA:inL (FOf f hf) A)(hY:inL (FOf f hf) Y){i:Nat}(hl:i+Y.length≤A.length){j:Nat}(hj:j<Y.length) :
  (aS (jS A (List.replicate i 0++Y.take j)))[i+j]?=some (cf A (i+j):Int)∧jJ .i64 (cf A (i+j):Int) (cf Y j:Int)=((cf A (i+j)^^^cf Y j:Nat):Int) ∧
  (aS (jS A (List.replicate i 0++Y.take j))).set (i+j) (((cf A (i+j)^^^cf Y j:Nat):Int))=aS (jS A (List.replicate i 0++Y.take (j+1))):=by
 have hti:(List.replicate i 0++Y.take j).length=i+j:=by rw [List.length_append,List.length_replicate,List.length_take];omega
 obtain ⟨h1,h2⟩:=ao4 (List.replicate i 0++Y.take j) A (cf Y j) (by omega)
 rw [hti] at h1 h2
 refine ⟨dA h1,Xm hf (kR hA _) (kR hY j),?_⟩
 rw [←Vt,h2,List.take_add_one,dV hj,List.append_assoc];rfl
theorem asJ(A:List Nat)(i:Nat)(h:i≤A.length):jS A (List.replicate i 0)=A:=arv (asI (by rw [List.length_replicate];exact h)) fun s=>by rw [Ew,apg,Nat.xor_zero]
theorem atD(F:FO)(i c:Nat)(q:List Nat):inL F (F.acD i c q):=by
 intro x hx
 obtain ⟨d,_,rfl⟩:=List.mem_map.1 hx
 exact F.lt _ _
theorem atC(F:FO){i c:Nat}{q:List Nat}(j:Nat):cf (F.acD i c q) j=F.mul c (F.sqn i (cf q j)):=by
 unfold FO.acD
 rw [anz (by rw [F.aqX,F.mul_zero])]
theorem afZ{f:TF3}(hf:aO f=true){P Q:List Nat}(hP:inL (FOf f hf) P)(hQ:inL (FOf f hf) Q)(hp:P.length≤400)(hq:Q.length≤400):jq f (aS P) (aS Q)=some (aS (bX ((FOf f hf).tq P Q))):=by
 unfold jq Gt
 rw [Tre.aG,aW,aW]
 by_cases h1:P=[]
 ·subst h1;rfl
 have hpl:0<P.length:=List.length_pos_iff.2 h1
 rw [decide_eq_false (by omega),cond_false,Tre.aG]
 by_cases h2:Q=[]
 ·subst h2
  rw [decide_eq_true (show ((([]:List Nat).length:Nat):Int)=0 from rfl),cond_true,Tre.aK,ani fun i=>by rw [FO.OP,asL _ _ _ _ Bf]]
  rfl
 have hql:0<Q.length:=List.length_pos_iff.2 h2
 have hw1:aP .i64 ((P.length:Int)+(Q.length:Int))=((P.length+Q.length:Nat):Int):=by rw [dN (by omega) (by omega)];omega
 have hw2:aP .i64 (((P.length+Q.length:Nat):Int)-1)=((P.length+Q.length-1:Nat):Int):=gM (by omega) (by omega)
 have holen:=(FOf f hf).aqu P Q h2
 have hoin:=(FOf f hf).atx P Q
 obtain ⟨r,hr1,hr2⟩:=amD (l:=(FOf f hf).I6 P Q P.length) (by rw [holen _ (Nat.le_refl _)];omega)
 rw [decide_eq_false (by omega),cond_false]
 dsimp only
 rw [hw1,hw2,Tre.run_ite,if_pos ⟨rfl,by omega,rfl,by omega,by omega⟩,Int.toNat_natCast,←DN]
 rw [ah (show aR (iO (aS Q) (aS P) (P.length:Int) f) (0,aS (List.replicate (P.length+Q.length-1) 0))=some (aS ((FOf f hf).I6 P Q P.length)) from ?_),ah hr1]
 ·rw [←(FOf f hf).amS,←hr2]
  cases r<;>rfl
 refine cO (fun i=>((i:Int),aS ((FOf f hf).I6 P Q i))) P.length _ (fun i hi=>?_) ?_
 ·have hpi:=dA (dV hi)
  have hplen:(P.length:Int)=((aS P).length:Int):=by rw [aW]
  have hrl:((FOf f hf).acD i (cf P i) Q).length=Q.length:=by unfold FO.acD;rw [List.length_map]
  unfold iO
  dsimp only
  rw [hplen,dP hpi,aW]
  rw [ah (show aR (iP (i:Int) (cf P i:Int) (aS Q) (Q.length:Int) f) (0,aS ((FOf f hf).I6 P Q i))=some (aS ((FOf f hf).I6 P Q (i+1))) from ?_),Tre.aK,aV (by omega)]
  have h0:(FOf f hf).I6 P Q i=jS ((FOf f hf).I6 P Q i) (List.replicate i 0++((FOf f hf).acD i (cf P i) Q).take 0):=by rw [List.take_zero,List.append_nil,asJ _ _ (by rw [holen _ (by omega)];omega)]
  conv=>lhs;rw [h0]
  refine cO (fun j=>((j:Int),aS (jS ((FOf f hf).I6 P Q i) (List.replicate i 0++((FOf f hf).acD i (cf P i) Q).take j)))) Q.length _ (fun j hj=>?_) ?_
  ·obtain ⟨c1,c2,c3⟩:=asN hf (hoin i) (atD _ i (cf P i) Q) (i:=i) (by rw [holen _ (by omega),hrl];omega) (j:=j) (by omega)
   have hqlen:(Q.length:Int)=((aS Q).length:Int):=by rw [aW]
   have hij:aP .i64 ((i:Int)+(j:Int))=((i+j:Nat):Int):=by rw [dN (by omega) (by omega)];omega
   have hqj:=kR hQ j
   unfold iP
   dsimp only
   rw [hqlen,dP (dA (dV hj)),hij,dF c1,ah (ajv hf hqj i),ah (anR hf (kR hP i) ((FOf f hf).Hw i hqj)),dF c1,←atC,c2,Int.toNat_natCast,c3,Tre.aK,aV (by omega)]
  ·unfold iP
   dsimp only
   rw [dw,Tre.aK,List.take_of_length_le (by omega)]
   rfl
 ·unfold iO
  dsimp only
  rw [dw,Tre.aK]
def jr:Env:=⟨tau,[(62,mE),(75,oO),(48,Ol)],[]⟩
def kT:Code:=(Tryz.f70.body).getD .skip
def uI (z8_0:Bool) (z8_1:Bool) (z8_2:Bool) (h8_0_0:List Int) (h8_0_1:Int) (h8_0_2:Int) (h8_0_3:List Int) (h8_0_4:Int) (h8_0_5:Int) (h8_0_6:List Int) (h8_0_7:Int) (h8_0_9:(Int×(Int×Unit))):(Int×(List Int))→St:=fun x=>bR [(2,(.imm z8_0 (.sl (.int .i64)) h8_0_0)),(3,(.ptr (5,0) [])),(7,(.ref (9,0) [])),(8,(.imm true (.int .i64) h8_0_1)),(9,(.imm true (.int .i64) h8_0_2)),(27,(.imm z8_1 (.sl (.int .i64)) h8_0_3)),(28,(.imm true (.int .i64) h8_0_4)),(29,(.imm true (.int .i64) h8_0_5)),(34,(.imm z8_2 (.sl (.int .i64)) h8_0_6)),(35,(.imm true (.int .i64) h8_0_7)),(36,(.imm true (.int .i64) x.1))] [((5,0),some ⟨true,aL,.own,h8_0_9⟩),((9,0),some ⟨false,(.sl (.int .i64)),.own,x.2⟩)]
def rE (z8_0:Bool) (z8_1:Bool) (_z8_2:Bool) (h8_0_0:List Int) (_h8_0_1:Int) (_h8_0_2:Int) (h8_0_3:List Int) (h8_0_4:Int) (h8_0_5:Int) (_h8_0_6:List Int) (_h8_0_7:Int) (h8_0_9:(Int×(Int×Unit))):(List Int)→Ex×St:=fun x=>(.exit 2,bR [(2,(.imm z8_0 (.sl (.int .i64)) h8_0_0)),(3,(.ptr (5,0) [])),(7,(.ref (9,0) [])),(27,(.imm z8_1 (.sl (.int .i64)) h8_0_3)),(28,(.imm true (.int .i64) h8_0_4)),(29,(.imm true (.int .i64) h8_0_5))] [((5,0),some ⟨true,aL,.own,h8_0_9⟩),((9,0),some ⟨false,(.sl (.int .i64)),.own,x⟩)])
def EW (s:St):Tre (Ex×St):=
 bE (.sl (.int .i64)) (s.tmps 2) fun z3 d2=>
 dU (5,0) [] (s.tmps 3)<|
 dz (9,0) [] (s.tmps 7)<|
 aC true (.int .i64) (s.tmps 8) fun d7=>
 aC true (.int .i64) (s.tmps 9) fun d9=>
 bE (.sl (.int .i64)) (s.tmps 27) fun z12 d11=>
 aC true (.int .i64) (s.tmps 28) fun d14=>
 aC true (.int .i64) (s.tmps 29) fun d16=>
 bE (.sl (.int .i64)) (s.tmps 34) fun z19 d18=>
 aC true (.int .i64) (s.tmps 35) fun d21=>
 aC true (.int .i64) (s.tmps 36) fun d23=>
 bD true aL (s.roots (5,0)) fun m25 d26=>
 asM .own m25<|
 bD false (.sl (.int .i64)) (s.roots (9,0)) fun m28 d29=>
 asM .own m28<|
 .mat (aR (iP d7 d9 d18 d21 d26) (d23,d29)) fun x=>.ret (rE z3 z12 z19 d2 d7 d9 d11 d14 d16 d18 d21 d26 x)
def iU:bK:=⟨([2,3,7,8,9,27,28,29,34,35,36],[(5,0),(9,0)]),([2,3,7,27,28,29],[(5,0),(9,0)]),EW⟩
def uH (z5_0:Bool) (z5_1:Bool) (h5_0_0:List Int) (h5_0_1:List Int) (h5_0_2:Int) (h5_0_4:(Int×(Int×Unit))):(Int×(List Int))→St:=fun x=>bR [(2,(.imm z5_0 (.sl (.int .i64)) h5_0_0)),(3,(.ptr (5,0) [])),(7,(.ref (9,0) [])),(27,(.imm z5_1 (.sl (.int .i64)) h5_0_1)),(28,(.imm true (.int .i64) h5_0_2)),(29,(.imm true (.int .i64) x.1))] [((5,0),some ⟨true,aL,.own,h5_0_4⟩),((9,0),some ⟨false,(.sl (.int .i64)),.own,x.2⟩)]
def rD (_z5_0:Bool) (_z5_1:Bool) (_h5_0_0:List Int) (_h5_0_1:List Int) (_h5_0_2:Int) (_h5_0_4:(Int×(Int×Unit))):(List Int)→Ex×St:=fun x=>(.exit 0,bR [(7,(.ref (9,0) []))] [((9,0),some ⟨false,(.sl (.int .i64)),.own,x⟩)])
def EU (s:St):Tre (Ex×St):=
 bE (.sl (.int .i64)) (s.tmps 2) fun z3 d2=>
 dU (5,0) [] (s.tmps 3)<|
 dz (9,0) [] (s.tmps 7)<|
 bE (.sl (.int .i64)) (s.tmps 27) fun z8 d7=>
 aC true (.int .i64) (s.tmps 28) fun d10=>
 aC true (.int .i64) (s.tmps 29) fun d12=>
 bD true aL (s.roots (5,0)) fun m14 d15=>
 asM .own m14<|
 bD false (.sl (.int .i64)) (s.roots (9,0)) fun m17 d18=>
 asM .own m17<|
 .mat (aR (iO d2 d7 d10 d15) (d12,d18)) fun x=>.ret (rD z3 z8 d2 d7 d10 d15 x)
def iT:bK:=⟨([2,3,7,27,28,29],[(5,0),(9,0)]),([7],[(9,0)]),EU⟩
def kS:List (Nat×bK):=[(8,iU),(5,iT)]
theorem O1:∀(z8_0:Bool)(z8_1:Bool)(z8_2:Bool)(h8_0_0:List Int)(h8_0_1:Int)(h8_0_2:Int)(h8_0_3:List Int)(h8_0_4:Int)(h8_0_5:Int)(h8_0_6:List Int)(h8_0_7:Int)(h8_0_9:(Int×(Int×Unit)))(x:(Int×(List Int)))(c:St→Option (Ex×St)),den jr kS (aY kT 1) (uI z8_0 z8_1 z8_2 h8_0_0 h8_0_1 h8_0_2 h8_0_3 h8_0_4 h8_0_5 h8_0_6 h8_0_7 h8_0_9 x) (bU iU.kp iU.kx c)=(iP h8_0_1 h8_0_2 h8_0_6 h8_0_7 h8_0_9 x).run (bV (uI z8_0 z8_1 z8_2 h8_0_0 h8_0_1 h8_0_2 h8_0_3 h8_0_4 h8_0_5 h8_0_6 h8_0_7 h8_0_9) (rE z8_0 z8_1 z8_2 h8_0_0 h8_0_1 h8_0_2 h8_0_3 h8_0_4 h8_0_5 h8_0_6 h8_0_7 h8_0_9) c):=fun _ _ _ _ _ _ _ _ _ _ _ _ _ _=>by
 kernel_rfl
theorem TP:bS jr kS (aY kT 1) iU:=bA fun s e s' h=>by
 generalize hs:restrict iU.kp s=s1 at h
 have h:(EW s1).run some=some (e,s'):=h
 obtain ⟨z3,d2,e1,h_0⟩:=aD h
 obtain ⟨e4,h_1⟩:=bF h_0
 obtain ⟨e5,h_2⟩:=bf h_1
 obtain ⟨d7,e6,h_3⟩:=ak h_2
 obtain ⟨d9,e8,h_4⟩:=ak h_3
 obtain ⟨z12,d11,e10,h_5⟩:=aD h_4
 obtain ⟨d14,e13,h_6⟩:=ak h_5
 obtain ⟨d16,e15,h_7⟩:=ak h_6
 obtain ⟨z19,d18,e17,h_8⟩:=aD h_7
 obtain ⟨d21,e20,h_9⟩:=ak h_8
 obtain ⟨d23,e22,h_10⟩:=ak h_9
 obtain ⟨m25,d26,e24,h_11⟩:=aH h_10
 obtain ⟨rfl,h_12⟩:=aQ h_11
 obtain ⟨m28,d29,e27,h_13⟩:=aH h_12
 obtain ⟨rfl,h_14⟩:=aQ h_13
 obtain ⟨y,hy,hz⟩:=bT h_14
 refine ⟨_,_,uI z3 z12 z19 d2 d7 d9 d11 d14 d16 d18 d21 d26,rE z3 z12 z19 d2 d7 d9 d11 d14 d16 d18 d21 d26,iP d7 d9 d18 d21 d26,(d23,d29),y,?_,hy,?_,O1 z3 z12 z19 d2 d7 d9 d11 d14 d16 d18 d21 d26⟩
 ·subst hs;exact aT (T:=[(2,(.imm z3 (.sl (.int .i64)) d2)),(3,(.ptr (5,0) [])),(7,(.ref (9,0) [])),(8,(.imm true (.int .i64) d7)),(9,(.imm true (.int .i64) d9)),(27,(.imm z12 (.sl (.int .i64)) d11)),(28,(.imm true (.int .i64) d14)),(29,(.imm true (.int .i64) d16)),(34,(.imm z19 (.sl (.int .i64)) d18)),(35,(.imm true (.int .i64) d21)),(36,(.imm true (.int .i64) d23))]) (U:=[((5,0),some ⟨true,aL,.own,d26⟩),((9,0),some ⟨false,(.sl (.int .i64)),.own,d29⟩)]) rfl rfl ⟨e1,e4,e5,e6,e8,e10,e13,e15,e17,e20,e22,trivial⟩ ⟨e24,e27,trivial⟩
 ·exact Option.some.inj hz
theorem OZ:∀(z5_0:Bool)(z5_1:Bool)(h5_0_0:List Int)(h5_0_1:List Int)(h5_0_2:Int)(h5_0_4:(Int×(Int×Unit)))(x:(Int×(List Int)))(c:St→Option (Ex×St)),den jr kS (aY kT 0) (uH z5_0 z5_1 h5_0_0 h5_0_1 h5_0_2 h5_0_4 x) (bU iT.kp iT.kx c)=(iO h5_0_0 h5_0_1 h5_0_2 h5_0_4 x).run (bV (uH z5_0 z5_1 h5_0_0 h5_0_1 h5_0_2 h5_0_4) (rD z5_0 z5_1 h5_0_0 h5_0_1 h5_0_2 h5_0_4) c):=fun _ _ _ _ _ _ _ _=>by
 kernel_rfl
theorem TN:bS jr kS (aY kT 0) iT:=bA fun s e s' h=>by
 generalize hs:restrict iT.kp s=s1 at h
 have h:(EU s1).run some=some (e,s'):=h
 obtain ⟨z3,d2,e1,h_0⟩:=aD h
 obtain ⟨e4,h_1⟩:=bF h_0
 obtain ⟨e5,h_2⟩:=bf h_1
 obtain ⟨z8,d7,e6,h_3⟩:=aD h_2
 obtain ⟨d10,e9,h_4⟩:=ak h_3
 obtain ⟨d12,e11,h_5⟩:=ak h_4
 obtain ⟨m14,d15,e13,h_6⟩:=aH h_5
 obtain ⟨rfl,h_7⟩:=aQ h_6
 obtain ⟨m17,d18,e16,h_8⟩:=aH h_7
 obtain ⟨rfl,h_9⟩:=aQ h_8
 obtain ⟨y,hy,hz⟩:=bT h_9
 refine ⟨_,_,uH z3 z8 d2 d7 d10 d15,rD z3 z8 d2 d7 d10 d15,iO d2 d7 d10 d15,(d12,d18),y,?_,hy,?_,OZ z3 z8 d2 d7 d10 d15⟩
 ·subst hs;exact aT (T:=[(2,(.imm z3 (.sl (.int .i64)) d2)),(3,(.ptr (5,0) [])),(7,(.ref (9,0) [])),(27,(.imm z8 (.sl (.int .i64)) d7)),(28,(.imm true (.int .i64) d10)),(29,(.imm true (.int .i64) d12))]) (U:=[((5,0),some ⟨true,aL,.own,d15⟩),((9,0),some ⟨false,(.sl (.int .i64)),.own,d18⟩)]) rfl rfl ⟨e1,e4,e5,e6,e9,e11,trivial⟩ ⟨e13,e16,trivial⟩
 ·exact Option.some.inj hz
def Ml:FnI:=⟨kT,Tryz.f70.results.toList,Tryz.f70.resultTypes.toList,kS⟩
def H8 (_zp0:Bool) (_zp1:Bool) (_p0:(Int×(Int×Unit))) (_p1:List Int) (_p2:List Int):(List Int)→aB:=fun r=>⟨(.ref (1,0) []),[],[⟨false,(.sl (.int .i64)),.own,r⟩]⟩
theorem ZT:∀(zp0:Bool)(zp1:Bool)(p0:(Int×(Int×Unit)))(p1:List Int)(p2:List Int),bN jr Ml ⟨[(.imm true aL p0),(.imm zp0 (.sl (.int .i64)) p1),(.imm zp1 (.sl (.int .i64)) p2)],[]⟩=(Gt p0 p1 p2).run fun r=>some (H8 zp0 zp1 p0 p1 p2 r):=fun _ _ _ _ _=>by kernel_rfl
def Mk (av:List AV) (rs:List Root):Tre aB:=
 aJ av fun a0_ av0=>
 aJ av0 fun a1_ av1=>
 aJ av1 fun a2_ av2=>
 aU av2<|
 aU rs<|
 aC true aL a0_ fun d1=>
 bE (.sl (.int .i64)) a1_ fun z3 d2=>
 bE (.sl (.int .i64)) a2_ fun z5 d4=>
 .mat (jq d1 d2 d4) fun r=>.ret (H8 z3 z5 d1 d2 d4 r)
def Bn:Ctr:=⟨[],fun ci=>Mk ci.args ci.roots,false⟩
theorem XU:bM Tryz.prog .none jr:=(aA nZ apA (aA pY amq (aA Vq avZ aN)))
theorem JB:Contract Tryz.prog .none 70 Bn:=by
 have hl:aZ jr kS kT:=(bC (n:=2) (by kernel_rfl) fun k hk=>by
   match k,hk with
   |0,_=>exact bq (id:=5) (L:=iT) (by kernel_rfl) (by kernel_rfl) TN
   |1,_=>exact bq (id:=8) (L:=iU) (by kernel_rfl) (by kernel_rfl) TP)
 refine (aI (F:=Ml) bg XU Tryz.func70 (by kernel_rfl) (by kernel_rfl) (by kernel_rfl) hl []).weaken ?_
 rintro ⟨av,rs⟩ co h
 have h:(Mk av rs).run some=some co:=h
 obtain ⟨a0_,av0,rfl,h_0⟩:=au h
 obtain ⟨a1_,av1,rfl,h_1⟩:=au h_0
 obtain ⟨a2_,av2,rfl,h_2⟩:=au h_1
 obtain ⟨rfl,h_3⟩:=ay h_2
 obtain ⟨rfl,h_4⟩:=ay h_3
 obtain ⟨d1,rfl,h_5⟩:=ak h_4
 obtain ⟨z3,d2,rfl,h_6⟩:=aD h_5
 obtain ⟨z5,d4,rfl,h_7⟩:=aD h_6
 exact bJ (ZT z3 z5 d1 d2 d4) h_7
def lM (h8_0_0:List Int) (h8_0_1:List Int) (h8_0_2:Int) (h8_0_4:(Int×(Int×Unit))):(Int×(List Int))→Tre ((Int×(List Int)) ⊕ (List Int)):=fun s8=>
 .cond (decide (s8.1<(h8_0_1.length:Int)))
  (let v2:=aP .i64 (h8_0_2+s8.1)
  .ite (0≤v2∧v2<(s8.2.length:Int))<|
  .mat (s8.2[v2.toNat]?) fun x3=>
  .ite (0≤h8_0_2∧h8_0_2<(h8_0_0.length:Int))<|
  .mat (h8_0_0[h8_0_2.toNat]?) fun x4=>
  .ite (0≤s8.1∧s8.1<(h8_0_1.length:Int))<|
  .mat (h8_0_1[s8.1.toNat]?) fun x5=>
  .mat (kH h8_0_4 x5 h8_0_2) fun r6=>
  .mat (dH h8_0_4 x4 r6) fun r7=>
  .ite (0≤v2∧v2<(s8.2.length:Int))<|
  .mat (s8.2[v2.toNat]?) fun _=>
  let v9:=s8.2.set v2.toNat (jJ .i64 x3 r7)
  .ret (.inl (aP .i64 (s8.1+1),v9)))
  (.ret (.inr s8.2))
def lK (h5_0_0:List Int) (h5_0_1:List Int) (h5_0_3:(Int×(Int×Unit))):(Int×(List Int))→Tre ((Int×(List Int)) ⊕ (List Int)):=fun s5=>
 .cond (decide (s5.1<(h5_0_0.length:Int)))
  (.mat (aR (lM h5_0_0 h5_0_1 s5.1 h5_0_3) (0,s5.2)) fun l10=>
  .ret (.inl (aP .i64 (s5.1+1),l10)))
  (.ret (.inr s5.2))
def RJ (p0:(Int×(Int×Unit))) (p1:List Int) (p2:List Int):Tre (List Int):=
 .cond (decide ((p1.length:Int)=0))
  (.ret [])
  (.cond (decide ((p2.length:Int)=0))
   (.ret [])
   (let v1:=aP .i64 ((p1.length:Int)+(p2.length:Int))
   .ite (((.int .i64):K)=(.int .i64)∧0≤aP .i64 (v1-1)∧aP .i64 (v1-1)=aP .i64 (v1-1)∧aP .i64 (v1-1)*(8:Nat)≤140737488355328∧1≤8)<|
   .mat (aR (lK p1 p2 p0) (0,List.replicate (aP .i64 (v1-1)).toNat (0:Int))) fun l11=>
   .mat (Gh l11) fun r12=>
   .ret r12))
def qI (p0:(Int×(Int×Unit))) (p1:List Int) (p2:List Int):Option (List Int):=(RJ p0 p1 p2).run some
-- more
theorem ag9{f:TF3}(hf:aO f=true){P Q:List Nat}(hP:inL (FOf f hf) P)(hQ:inL (FOf f hf) Q)(hp:P.length≤400)(hq:Q.length≤400):qI f (aS P) (aS Q)=some (aS (bX ((FOf f hf).tq P Q))):=by
 unfold qI RJ
 rw [Tre.aG,aW,aW]
 by_cases h1:P=[]
 ·subst h1;rfl
 have hpl:0<P.length:=List.length_pos_iff.2 h1
 rw [decide_eq_false (by omega),cond_false,Tre.aG]
 by_cases h2:Q=[]
 ·subst h2
  rw [decide_eq_true (show ((([]:List Nat).length:Nat):Int)=0 from rfl),cond_true,Tre.aK,ani fun i=>by rw [FO.OP,asL _ _ _ _ Bf]]
  rfl
 have hql:0<Q.length:=List.length_pos_iff.2 h2
 have hw1:aP .i64 ((P.length:Int)+(Q.length:Int))=((P.length+Q.length:Nat):Int):=by rw [dN (by omega) (by omega)];omega
 have hw2:aP .i64 (((P.length+Q.length:Nat):Int)-1)=((P.length+Q.length-1:Nat):Int):=gM (by omega) (by omega)
 have holen:=(FOf f hf).aqu P Q h2
 have hoin:=(FOf f hf).atx P Q
 rw [decide_eq_false (by omega),cond_false]
 dsimp only
 rw [hw1,hw2,Tre.run_ite,if_pos ⟨rfl,by omega,rfl,by omega,by omega⟩,Int.toNat_natCast,←DN]
 rw [ah (show aR (lK (aS P) (aS Q) f) (0,aS (List.replicate (P.length+Q.length-1) 0))=some (aS ((FOf f hf).I6 P Q P.length)) from ?_),ah (aqY (by rw [holen _ (Nat.le_refl _)];omega)),Tre.aK,FO.amS]
 refine cO (fun i=>((i:Int),aS ((FOf f hf).I6 P Q i))) P.length _ (fun i hi=>?_) ?_
 ·have hpi:=dA (dV hi)
  have hrl:((FOf f hf).acD i (cf P i) Q).length=Q.length:=by unfold FO.acD;rw [List.length_map]
  unfold lK
  dsimp only
  rw [Tre.aG,decide_eq_true (by rw [aW];omega),cond_true]
  rw [ah (show aR (lM (aS P) (aS Q) (i:Int) f) (0,aS ((FOf f hf).I6 P Q i))=some (aS ((FOf f hf).I6 P Q (i+1))) from ?_),Tre.aK,aV (by omega)]
  have h0:(FOf f hf).I6 P Q i=jS ((FOf f hf).I6 P Q i) (List.replicate i 0++((FOf f hf).acD i (cf P i) Q).take 0):=by rw [List.take_zero,List.append_nil,asJ _ _ (by rw [holen _ (by omega)];omega)]
  conv=>lhs;rw [h0]
  refine cO (fun j=>((j:Int),aS (jS ((FOf f hf).I6 P Q i) (List.replicate i 0++((FOf f hf).acD i (cf P i) Q).take j)))) Q.length _ (fun j hj=>?_) ?_
  ·obtain ⟨c1,c2,c3⟩:=asN hf (hoin i) (atD _ i (cf P i) Q) (i:=i) (by rw [holen _ (by omega),hrl];omega) (j:=j) (by omega)
   have hij:aP .i64 ((i:Int)+(j:Int))=((i+j:Nat):Int):=by rw [dN (by omega) (by omega)];omega
   have hqj:=kR hQ j
   unfold lM
   dsimp only
   rw [Tre.aG,decide_eq_true (by rw [aW];omega),cond_true,hij,dF c1,dF hpi,dF (dA (dV hj)),ah (afw hf hqj i),ah (afv hf (kR hP i) ((FOf f hf).Hw i hqj)),dF c1,←atC,c2,Int.toNat_natCast,c3,Tre.aK,aV (by omega)]
  ·unfold lM
   dsimp only
   rw [aW,dw,Tre.aK,List.take_of_length_le (by omega)]
   rfl
 ·unfold lK
  dsimp only
  rw [aW,dw,Tre.aK]
def mY:Env:=⟨tau,[(56,uz),(68,sw),(126,WM)],[]⟩
def qJ:Code:=(Tryz.f102.body).getD .skip
def Ah (z8_0:Bool) (z8_1:Bool) (h8_0_0:List Int) (h8_0_1:List Int) (h8_0_2:Int) (h8_0_4:(Int×(Int×Unit))):(Int×(List Int))→St:=fun x=>bR [(1,(.imm z8_0 (.sl (.int .i64)) h8_0_0)),(2,(.imm z8_1 (.sl (.int .i64)) h8_0_1)),(3,(.ptr (5,0) [])),(7,(.ref (9,0) [])),(8,(.imm true (.int .i64) h8_0_2)),(9,(.imm true (.int .i64) x.1))] [((5,0),some ⟨true,aL,.own,h8_0_4⟩),((9,0),some ⟨false,(.sl (.int .i64)),.own,x.2⟩)]
def yP (z8_0:Bool) (z8_1:Bool) (h8_0_0:List Int) (h8_0_1:List Int) (h8_0_2:Int) (h8_0_4:(Int×(Int×Unit))):(List Int)→Ex×St:=fun x=>(.exit 2,bR [(1,(.imm z8_0 (.sl (.int .i64)) h8_0_0)),(2,(.imm z8_1 (.sl (.int .i64)) h8_0_1)),(3,(.ptr (5,0) [])),(7,(.ref (9,0) [])),(8,(.imm true (.int .i64) h8_0_2))] [((5,0),some ⟨true,aL,.own,h8_0_4⟩),((9,0),some ⟨false,(.sl (.int .i64)),.own,x⟩)])
def Nt (s:St):Tre (Ex×St):=
 bE (.sl (.int .i64)) (s.tmps 1) fun z3 d2=>
 bE (.sl (.int .i64)) (s.tmps 2) fun z6 d5=>
 dU (5,0) [] (s.tmps 3)<|
 dz (9,0) [] (s.tmps 7)<|
 aC true (.int .i64) (s.tmps 8) fun d10=>
 aC true (.int .i64) (s.tmps 9) fun d12=>
 bD true aL (s.roots (5,0)) fun m14 d15=>
 asM .own m14<|
 bD false (.sl (.int .i64)) (s.roots (9,0)) fun m17 d18=>
 asM .own m17<|
 .mat (aR (lM d2 d5 d10 d15) (d12,d18)) fun x=>.ret (yP z3 z6 d2 d5 d10 d15 x)
def lu:bK:=⟨([1,2,3,7,8,9],[(5,0),(9,0)]),([1,2,3,7,8],[(5,0),(9,0)]),Nt⟩
def Ag (z5_0:Bool) (z5_1:Bool) (h5_0_0:List Int) (h5_0_1:List Int) (h5_0_3:(Int×(Int×Unit))):(Int×(List Int))→St:=fun x=>bR [(1,(.imm z5_0 (.sl (.int .i64)) h5_0_0)),(2,(.imm z5_1 (.sl (.int .i64)) h5_0_1)),(3,(.ptr (5,0) [])),(7,(.ref (9,0) [])),(8,(.imm true (.int .i64) x.1))] [((5,0),some ⟨true,aL,.own,h5_0_3⟩),((9,0),some ⟨false,(.sl (.int .i64)),.own,x.2⟩)]
def yO (_z5_0:Bool) (_z5_1:Bool) (_h5_0_0:List Int) (_h5_0_1:List Int) (_h5_0_3:(Int×(Int×Unit))):(List Int)→Ex×St:=fun x=>(.exit 0,bR [(7,(.ref (9,0) []))] [((9,0),some ⟨false,(.sl (.int .i64)),.own,x⟩)])
def Ns (s:St):Tre (Ex×St):=
 bE (.sl (.int .i64)) (s.tmps 1) fun z3 d2=>
 bE (.sl (.int .i64)) (s.tmps 2) fun z6 d5=>
 dU (5,0) [] (s.tmps 3)<|
 dz (9,0) [] (s.tmps 7)<|
 aC true (.int .i64) (s.tmps 8) fun d10=>
 bD true aL (s.roots (5,0)) fun m12 d13=>
 asM .own m12<|
 bD false (.sl (.int .i64)) (s.roots (9,0)) fun m15 d16=>
 asM .own m15<|
 .mat (aR (lK d2 d5 d13) (d10,d16)) fun x=>.ret (yO z3 z6 d2 d5 d13 x)
def lq:bK:=⟨([1,2,3,7,8],[(5,0),(9,0)]),([7],[(9,0)]),Ns⟩
def qH:List (Nat×bK):=[(8,lu),(5,lq)]
theorem WI:∀(z8_0:Bool)(z8_1:Bool)(h8_0_0:List Int)(h8_0_1:List Int)(h8_0_2:Int)(h8_0_4:(Int×(Int×Unit)))(x:(Int×(List Int)))(c:St→Option (Ex×St)),den mY qH (aY qJ 1) (Ah z8_0 z8_1 h8_0_0 h8_0_1 h8_0_2 h8_0_4 x) (bU lu.kp lu.kx c)=(lM h8_0_0 h8_0_1 h8_0_2 h8_0_4 x).run (bV (Ah z8_0 z8_1 h8_0_0 h8_0_1 h8_0_2 h8_0_4) (yP z8_0 z8_1 h8_0_0 h8_0_1 h8_0_2 h8_0_4) c):=fun _ _ _ _ _ _ _ _=>by
 kernel_rfl
theorem aaK:bS mY qH (aY qJ 1) lu:=bA fun s e s' h=>by
 generalize hs:restrict lu.kp s=s1 at h
 have h:(Nt s1).run some=some (e,s'):=h
 obtain ⟨z3,d2,e1,h_0⟩:=aD h
 obtain ⟨z6,d5,e4,h_1⟩:=aD h_0
 obtain ⟨e7,h_2⟩:=bF h_1
 obtain ⟨e8,h_3⟩:=bf h_2
 obtain ⟨d10,e9,h_4⟩:=ak h_3
 obtain ⟨d12,e11,h_5⟩:=ak h_4
 obtain ⟨m14,d15,e13,h_6⟩:=aH h_5
 obtain ⟨rfl,h_7⟩:=aQ h_6
 obtain ⟨m17,d18,e16,h_8⟩:=aH h_7
 obtain ⟨rfl,h_9⟩:=aQ h_8
 obtain ⟨y,hy,hz⟩:=bT h_9
 refine ⟨_,_,Ah z3 z6 d2 d5 d10 d15,yP z3 z6 d2 d5 d10 d15,lM d2 d5 d10 d15,(d12,d18),y,?_,hy,?_,WI z3 z6 d2 d5 d10 d15⟩
 ·subst hs;exact aT (T:=[(1,(.imm z3 (.sl (.int .i64)) d2)),(2,(.imm z6 (.sl (.int .i64)) d5)),(3,(.ptr (5,0) [])),(7,(.ref (9,0) [])),(8,(.imm true (.int .i64) d10)),(9,(.imm true (.int .i64) d12))]) (U:=[((5,0),some ⟨true,aL,.own,d15⟩),((9,0),some ⟨false,(.sl (.int .i64)),.own,d18⟩)]) rfl rfl ⟨e1,e4,e7,e8,e9,e11,trivial⟩ ⟨e13,e16,trivial⟩
 ·exact Option.some.inj hz
theorem WH:∀(z5_0:Bool)(z5_1:Bool)(h5_0_0:List Int)(h5_0_1:List Int)(h5_0_3:(Int×(Int×Unit)))(x:(Int×(List Int)))(c:St→Option (Ex×St)),den mY qH (aY qJ 0) (Ag z5_0 z5_1 h5_0_0 h5_0_1 h5_0_3 x) (bU lq.kp lq.kx c)=(lK h5_0_0 h5_0_1 h5_0_3 x).run (bV (Ag z5_0 z5_1 h5_0_0 h5_0_1 h5_0_3) (yO z5_0 z5_1 h5_0_0 h5_0_1 h5_0_3) c):=fun _ _ _ _ _ _ _=>by
 kernel_rfl
theorem aaJ:bS mY qH (aY qJ 0) lq:=bA fun s e s' h=>by
 generalize hs:restrict lq.kp s=s1 at h
 have h:(Ns s1).run some=some (e,s'):=h
 obtain ⟨z3,d2,e1,h_0⟩:=aD h
 obtain ⟨z6,d5,e4,h_1⟩:=aD h_0
 obtain ⟨e7,h_2⟩:=bF h_1
 obtain ⟨e8,h_3⟩:=bf h_2
 obtain ⟨d10,e9,h_4⟩:=ak h_3
 obtain ⟨m12,d13,e11,h_5⟩:=aH h_4
 obtain ⟨rfl,h_6⟩:=aQ h_5
 obtain ⟨m15,d16,e14,h_7⟩:=aH h_6
 obtain ⟨rfl,h_8⟩:=aQ h_7
 obtain ⟨y,hy,hz⟩:=bT h_8
 refine ⟨_,_,Ag z3 z6 d2 d5 d13,yO z3 z6 d2 d5 d13,lK d2 d5 d13,(d10,d16),y,?_,hy,?_,WH z3 z6 d2 d5 d13⟩
 ·subst hs;exact aT (T:=[(1,(.imm z3 (.sl (.int .i64)) d2)),(2,(.imm z6 (.sl (.int .i64)) d5)),(3,(.ptr (5,0) [])),(7,(.ref (9,0) [])),(8,(.imm true (.int .i64) d10))]) (U:=[((5,0),some ⟨true,aL,.own,d13⟩),((9,0),some ⟨false,(.sl (.int .i64)),.own,d16⟩)]) rfl rfl ⟨e1,e4,e7,e8,e9,trivial⟩ ⟨e11,e14,trivial⟩
 ·exact Option.some.inj hz
def WG:FnI:=⟨qJ,Tryz.f102.results.toList,Tryz.f102.resultTypes.toList,qH⟩
def Qj (_zp0:Bool) (_zp1:Bool) (_p0:(Int×(Int×Unit))) (_p1:List Int) (_p2:List Int):(List Int)→aB:=fun r=>⟨(.ref (1,0) []),[],[⟨false,(.sl (.int .i64)),.own,r⟩]⟩
theorem ahT:∀(zp0:Bool)(zp1:Bool)(p0:(Int×(Int×Unit)))(p1:List Int)(p2:List Int),bN mY WG ⟨[(.imm true aL p0),(.imm zp0 (.sl (.int .i64)) p1),(.imm zp1 (.sl (.int .i64)) p2)],[]⟩=(RJ p0 p1 p2).run fun r=>some (Qj zp0 zp1 p0 p1 p2 r):=fun _ _ _ _ _=>by kernel_rfl
def WE (av:List AV) (rs:List Root):Tre aB:=
 aJ av fun a0_ av0=>
 aJ av0 fun a1_ av1=>
 aJ av1 fun a2_ av2=>
 aU av2<|
 aU rs<|
 aC true aL a0_ fun d1=>
 bE (.sl (.int .i64)) a1_ fun z3 d2=>
 bE (.sl (.int .i64)) a2_ fun z5 d4=>
 .mat (qI d1 d2 d4) fun r=>.ret (Qj z3 z5 d1 d2 d4 r)
def K7:Ctr:=⟨[],fun ci=>WE ci.args ci.roots,false⟩
theorem ae6:bM Tryz.prog .none mY:=(aA wM apz (aA qZ afJ (aA ac6 avV aN)))
theorem Tp:Contract Tryz.prog .none 102 K7:=by
 have hl:aZ mY qH qJ:=(bC (n:=2) (by kernel_rfl) fun k hk=>by
   match k,hk with
   |0,_=>exact bq (id:=5) (L:=lq) (by kernel_rfl) (by kernel_rfl) aaJ
   |1,_=>exact bq (id:=8) (L:=lu) (by kernel_rfl) (by kernel_rfl) aaK)
 refine (aI (F:=WG) bg ae6 Tryz.func102 (by kernel_rfl) (by kernel_rfl) (by kernel_rfl) hl []).weaken ?_
 rintro ⟨av,rs⟩ co h
 have h:(WE av rs).run some=some co:=h
 obtain ⟨a0_,av0,rfl,h_0⟩:=au h
 obtain ⟨a1_,av1,rfl,h_1⟩:=au h_0
 obtain ⟨a2_,av2,rfl,h_2⟩:=au h_1
 obtain ⟨rfl,h_3⟩:=ay h_2
 obtain ⟨rfl,h_4⟩:=ay h_3
 obtain ⟨d1,rfl,h_5⟩:=ak h_4
 obtain ⟨z3,d2,rfl,h_6⟩:=aD h_5
 obtain ⟨z5,d4,rfl,h_7⟩:=aD h_6
 exact bJ (ahT z3 z5 d1 d2 d4) h_7
def gV (h2_0_0:List Int) (h2_0_1:Bool) (h2_0_2:Int) (h2_0_3:(Int×(Int×Unit))):((List Int)×(List Int))→Tre (((List Int)×(List Int)) ⊕ ((List Int)×(List Int))):=fun s2=>
 .cond (decide ((s2.2.length:Int) ≥ (h2_0_0.length:Int)))
  (let v3:=aP .i64 ((s2.2.length:Int)-(h2_0_0.length:Int))
  .ite (((.int .i64):K)=(.int .i64)∧0≤aP .i64 (v3+1)∧aP .i64 (v3+1)=aP .i64 (v3+1)∧aP .i64 (v3+1)*(8:Nat)≤140737488355328∧1≤8)<|
  let v4:=aP .i64 ((s2.2.length:Int)-1)
  .ite (0≤v4∧v4<(s2.2.length:Int))<|
  .mat (s2.2[v4.toNat]?) fun x5=>
  .cond h2_0_1
   (.ite (0≤h2_0_2∧h2_0_2<(h2_0_0.length:Int))<|
   .mat (h2_0_0[h2_0_2.toNat]?) fun x6=>
   .mat (fV h2_0_3 x6 v3) fun r7=>
   .mat (bZ h2_0_3 r7) fun r8=>
   .mat (bY h2_0_3 x5 r8) fun r9=>
   .ite (0≤v3∧v3<((List.replicate (aP .i64 (v3+1)).toNat (0:Int)).length:Int))<|
   .mat ((List.replicate (aP .i64 (v3+1)).toNat (0:Int))[v3.toNat]?) fun _=>
   let v11:=(List.replicate (aP .i64 (v3+1)).toNat (0:Int)).set v3.toNat r9
   .mat (jq h2_0_3 v11 h2_0_0) fun r12=>
   .mat (Kw s2.2 r12) fun r13=>
   .mat (Kw s2.1 v11) fun r14=>
   .ret (.inl (r14,r13)))
   (.ite (0≤h2_0_2∧h2_0_2<(h2_0_0.length:Int))<|
   .mat (h2_0_0[h2_0_2.toNat]?) fun x15=>
   .mat (bZ h2_0_3 x15) fun r16=>
   .mat (bY h2_0_3 x5 r16) fun r17=>
   .mat (Bt h2_0_3 r17 h2_0_2) fun r18=>
   .ite (0≤v3∧v3<((List.replicate (aP .i64 (v3+1)).toNat (0:Int)).length:Int))<|
   .mat ((List.replicate (aP .i64 (v3+1)).toNat (0:Int))[v3.toNat]?) fun _=>
   let v20:=(List.replicate (aP .i64 (v3+1)).toNat (0:Int)).set v3.toNat r18
   .mat (jq h2_0_3 h2_0_0 v20) fun r21=>
   .mat (Kw s2.2 r21) fun r22=>
   .mat (Kw s2.1 v20) fun r23=>
   .ret (.inl (r23,r22))))
  (.ret (.inr (s2.1,s2.2)))
def JC (p0:(Int×(Int×Unit))) (p1:List Int) (p2:List Int) (p3:Bool):Tre ((List Int)×(List Int)):=
 .mat (gH p1) fun r1=>
 let v2:=aP .i64 ((p2.length:Int)-1)
 .mat (aR (gV p2 p3 v2 p0) ([],r1)) fun l24=>
 .ret (l24.1,l24.2)
def xw (p0:(Int×(Int×Unit))) (p1:List Int) (p2:List Int) (p3:Bool):Option ((List Int)×(List Int)):=(JC p0 p1 p2 p3).run some
-- more
theorem as0{f:TF3}(hf:aO f=true){V:List Nat}(hV:inL (FOf f hf) V)(h0:cf V (V.length-1)≠0):∃iv:Nat,Bc f (cf V (V.length-1):Int)=(iv:Int)∧iv<(FOf f hf).q∧(FOf f hf).mul (cf V (V.length-1)) iv=1:=by
 obtain ⟨iv,h1,h2,h3⟩:=aAv hf (kR hV (V.length-1))
 exact ⟨iv,h1,h2,h3 h0⟩
theorem atM(k c:Nat):(List.replicate (k+1) (0:Int)).set k (c:Int)=aS (vK k c):=by
 unfold vK
 rw [Vt,DN]
theorem aiK{A R V:List Nat}{c M:Nat}(hA:A.length≤M)(hR:R.length≤M)(hn:0<V.length)(hl:V.length≤R.length)(F:FO) :
  (bX (jS A (vK (R.length-V.length) c))).length≤M∧(bX (F.tq V (vK (R.length-V.length) c))).length≤M∧(vK (R.length-V.length) c).length≤M:=by
 have h1:=jI (jS A (vK (R.length-V.length) c))
 rw [OO,XQ] at h1
 have h2:=jI (F.tq V (vK (R.length-V.length) c))
 have h3:=F.Xn V (vK (R.length-V.length) c) (List.length_pos_iff.1 hn) (by intro h;have:=XQ (R.length-V.length) c;rw [h] at this;simp at this)
 rw [XQ] at h3
 rw [XQ]
 omega
theorem auu{f:TF3}(hf:aO f=true){N V:List Nat}(hV:inL (FOf f hf) V)(hn:V≠[])(ht:cf V (V.length-1)≠0):∀(m:Nat)(A R:List Nat),R.length≤m→A.length≤100→R.length≤100→V.length≤100→TL (FOf f hf) N V A R →
  ∃A' R',aR (gV (aS V) false ((V.length-1:Nat):Int) f) (aS A,aS R)=some (aS A',aS R')∧TL (FOf f hf) N V A' R'∧R'.length<V.length∧A'.length≤100:=by
 have hvl:0<V.length:=List.length_pos_iff.2 hn
 obtain ⟨iv,hi1,hi2,hi3⟩:=as0 hf hV ht
 intro m
 induction m with
 |zero=>
  intro A R hm hA hR hV2 h
  refine ⟨A,R,fB ?_,h,by omega,hA⟩
  unfold gV
  dsimp only
  rw [Tre.aG,decide_eq_false (by rw [aW,aW];omega),cond_false,Tre.aK]
 |succ m ih=>
  intro A R hm hA hR hV2 h
  by_cases hl:V.length≤R.length
  ·obtain ⟨hc,hD,hlt⟩:=apq hf hV h hn hl hi2 hi3
   obtain ⟨b1,b2,b3⟩:=aiK (c:=(FOf f hf).sqn (Y6 f.1.toNat (V.length-1)) ((FOf f hf).mul (cf R (R.length-1)) iv)) hA hR hvl hl (FOf f hf)
   obtain ⟨A',R',h1,h2,h3,h4⟩:=ih _ _ (by omega) b1 (by omega) hV2 hD
   refine ⟨A',R',?_,h2,h3,h4⟩
   rw [←h1]
   refine mR ?_
   have hk:aP .i64 (((aS R).length:Int)-((aS V).length:Int))=((R.length-V.length:Nat):Int):=by rw [aW,aW,dN (by omega) (by omega)];omega
   have hr:aP .i64 (((aS R).length:Int)-1)=((R.length-1:Nat):Int):=by rw [aW];exact gM (by omega) (by omega)
   have hk1:aP .i64 (((R.length-V.length:Nat):Int)+1)=((R.length-V.length+1:Nat):Int):=aV (by omega)
   have hrl:=kR h.ir (R.length-1)
   have hml:=(FOf f hf).lt (cf R (R.length-1)) iv
   unfold gV
   dsimp only
   rw [Tre.aG,decide_eq_true (by rw [aW,aW];omega),cond_true,hk,hk1,Tre.run_ite,if_pos ⟨rfl,by omega,rfl,by omega,by omega⟩,hr,dF (dA (dV (show R.length-1<R.length by omega))),Tre.aG,cond_false]
   rw [dF (dA (dV (show V.length-1<V.length by omega))),ah (asY hf ((YU hf).2 ⟨_,rfl,kR hV _⟩)),hi1,ah (anR hf hrl hi2),ah (aww hf hml _),Int.toNat_natCast]
   rw [dF (show (List.replicate (R.length-V.length+1) (0:Int))[R.length-V.length]?=some 0 by rw [List.getElem?_replicate,if_pos (by omega)]),Int.toNat_natCast,atM]
   rw [ah (afZ hf hV (Xk hc) (by omega) (by omega)),ah (apX hf h.ir (tK (abN _ _)) (by omega) (by omega)),ah (apX hf h.ia (Xk hc) (by omega) (by omega)),Tre.aK]
  ·refine ⟨A,R,fB ?_,h,by omega,hA⟩
   unfold gV
   dsimp only
   rw [Tre.aG,decide_eq_false (by rw [aW,aW];omega),cond_false,Tre.aK]
theorem TL.start{F:FO}{N V:List Nat}(hN:inL F N)(ht:Am N):TL F N V [] N:=⟨fun x hx=>absurd hx List.not_mem_nil,hN,fun h=>absurd rfl h,ht,fun i=>by rw [show F.fD V (cf []) i=0 from aph Bf,Nat.zero_xor]⟩
theorem ar5{f:TF3}(hf:aO f=true){N V:List Nat}(hN:inL (FOf f hf) N)(hV:inL (FOf f hf) V)(hn:V≠[])(htV:Am V)(htN:Am N)(hNl:N.length≤100)(hVl:V.length≤100) :
  ∃A R,xw f (aS N) (aS V) false=some (aS A,aS R)∧TL (FOf f hf) N V A R∧R.length<V.length∧A.length≤100:=by
 have hvl:0<V.length:=List.length_pos_iff.2 hn
 obtain ⟨A,R,h1,h2,h3,h4⟩:=auu hf hV hn (htV hn) N.length [] N (Nat.le_refl _) (Nat.zero_le _) hNl hVl (TL.start hN htN)
 refine ⟨A,R,?_,h2,h3,h4⟩
 have hd:aP .i64 (((aS V).length:Int)-1)=((V.length-1:Nat):Int):=by rw [aW];exact gM (by omega) (by omega)
 rw [show aS []=[] from rfl] at h1
 unfold xw JC
 dsimp only
 rw [ah (show gH (aS N)=some (aS N) from KF (by rw [aW];omega)),hd,ah h1,Tre.aK]
def pX:Env:=⟨tau,[(65,kN),(62,mE),(76,Bq),(75,oO),(70,Bn),(77,apM),(78,U1)],[(1000002,[((14,0),[],false)])]⟩
def xA:Code:=(Tryz.f47.body).getD .skip
def vS (z2_0:Bool) (h2_0_0:List Int) (h2_0_1:Bool) (h2_0_2:Int) (h2_0_3:(Int×(Int×Unit))):((List Int)×(List Int))→St:=fun x=>bR [(2,(.imm z2_0 (.sl (.int .i64)) h2_0_0)),(3,(.imm true .bool h2_0_1)),(4,(.ptr (6,0) [])),(10,(.ref (12,0) [])),(11,(.ref (13,0) [])),(12,(.imm true (.int .i64) h2_0_2))] [((6,0),some ⟨true,aL,.own,h2_0_3⟩),((12,0),some ⟨false,(.sl (.int .i64)),.own,x.1⟩),((13,0),some ⟨false,(.sl (.int .i64)),.own,x.2⟩)]
def uJ (_z2_0:Bool) (_h2_0_0:List Int) (_h2_0_1:Bool) (_h2_0_2:Int) (_h2_0_3:(Int×(Int×Unit))):((List Int)×(List Int))→Ex×St:=fun x=>(.exit 0,bR [(10,(.ref (12,0) [])),(11,(.ref (13,0) []))] [((12,0),some ⟨false,(.sl (.int .i64)),.own,x.1⟩),((13,0),some ⟨false,(.sl (.int .i64)),.own,x.2⟩)])
def H9 (s:St):Tre (Ex×St):=
 bE (.sl (.int .i64)) (s.tmps 2) fun z3 d2=>
 aC true .bool (s.tmps 3) fun d5=>
 dU (6,0) [] (s.tmps 4)<|
 dz (12,0) [] (s.tmps 10)<|
 dz (13,0) [] (s.tmps 11)<|
 aC true (.int .i64) (s.tmps 12) fun d10=>
 bD true aL (s.roots (6,0)) fun m12 d13=>
 asM .own m12<|
 bD false (.sl (.int .i64)) (s.roots (12,0)) fun m15 d16=>
 asM .own m15<|
 bD false (.sl (.int .i64)) (s.roots (13,0)) fun m18 d19=>
 asM .own m18<|
 .mat (aR (gV d2 d5 d10 d13) (d16,d19)) fun x=>.ret (uJ z3 d2 d5 d10 d13 x)
def jB:bK:=⟨([2,3,4,10,11,12],[(6,0),(12,0),(13,0)]),([10,11],[(12,0),(13,0)]),H9⟩
def xu:List (Nat×bK):=[(2,jB)]
theorem QM:∀(z2_0:Bool)(h2_0_0:List Int)(h2_0_1:Bool)(h2_0_2:Int)(h2_0_3:(Int×(Int×Unit)))(x:((List Int)×(List Int)))(c:St→Option (Ex×St)),den pX xu (aY xA 0) (vS z2_0 h2_0_0 h2_0_1 h2_0_2 h2_0_3 x) (bU jB.kp jB.kx c)=(gV h2_0_0 h2_0_1 h2_0_2 h2_0_3 x).run (bV (vS z2_0 h2_0_0 h2_0_1 h2_0_2 h2_0_3) (uJ z2_0 h2_0_0 h2_0_1 h2_0_2 h2_0_3) c):=fun _ _ _ _ _ _ _=>by
 kernel_rfl
theorem UN:bS pX xu (aY xA 0) jB:=bA fun s e s' h=>by
 generalize hs:restrict jB.kp s=s1 at h
 have h:(H9 s1).run some=some (e,s'):=h
 obtain ⟨z3,d2,e1,h_0⟩:=aD h
 obtain ⟨d5,e4,h_1⟩:=ak h_0
 obtain ⟨e6,h_2⟩:=bF h_1
 obtain ⟨e7,h_3⟩:=bf h_2
 obtain ⟨e8,h_4⟩:=bf h_3
 obtain ⟨d10,e9,h_5⟩:=ak h_4
 obtain ⟨m12,d13,e11,h_6⟩:=aH h_5
 obtain ⟨rfl,h_7⟩:=aQ h_6
 obtain ⟨m15,d16,e14,h_8⟩:=aH h_7
 obtain ⟨rfl,h_9⟩:=aQ h_8
 obtain ⟨m18,d19,e17,h_10⟩:=aH h_9
 obtain ⟨rfl,h_11⟩:=aQ h_10
 obtain ⟨y,hy,hz⟩:=bT h_11
 refine ⟨_,_,vS z3 d2 d5 d10 d13,uJ z3 d2 d5 d10 d13,gV d2 d5 d10 d13,(d16,d19),y,?_,hy,?_,QM z3 d2 d5 d10 d13⟩
 ·subst hs;exact aT (T:=[(2,(.imm z3 (.sl (.int .i64)) d2)),(3,(.imm true .bool d5)),(4,(.ptr (6,0) [])),(10,(.ref (12,0) [])),(11,(.ref (13,0) [])),(12,(.imm true (.int .i64) d10))]) (U:=[((6,0),some ⟨true,aL,.own,d13⟩),((12,0),some ⟨false,(.sl (.int .i64)),.own,d16⟩),((13,0),some ⟨false,(.sl (.int .i64)),.own,d19⟩)]) rfl rfl ⟨e1,e4,e6,e7,e8,e9,trivial⟩ ⟨e11,e14,e17,trivial⟩
 ·exact Option.some.inj hz
def O6:FnI:=⟨xA,Tryz.f47.results.toList,Tryz.f47.resultTypes.toList,xu⟩
def JD (_zp0:Bool) (_zp1:Bool) (_p0:(Int×(Int×Unit))) (_p1:List Int) (_p2:List Int) (_p3:Bool):((List Int)×(List Int))→aB:=fun r=>⟨(.tcons (.ref (1,0) []) (.tcons (.ref (1,1) []) .tnil)),[],[⟨false,(.sl (.int .i64)),.own,r.1⟩,⟨false,(.sl (.int .i64)),.own,r.2⟩]⟩
theorem abk:∀(zp0:Bool)(zp1:Bool)(p0:(Int×(Int×Unit)))(p1:List Int)(p2:List Int)(p3:Bool),bN pX O6 ⟨[(.imm true aL p0),(.imm zp0 (.sl (.int .i64)) p1),(.imm zp1 (.sl (.int .i64)) p2),(.imm true .bool p3)],[]⟩=(JC p0 p1 p2 p3).run fun r=>some (JD zp0 zp1 p0 p1 p2 p3 r):=fun _ _ _ _ _ _=>by kernel_rfl
def O5 (av:List AV) (rs:List Root):Tre aB:=
 aJ av fun a0_ av0=>
 aJ av0 fun a1_ av1=>
 aJ av1 fun a2_ av2=>
 aJ av2 fun a3_ av3=>
 aU av3<|
 aU rs<|
 aC true aL a0_ fun d1=>
 bE (.sl (.int .i64)) a1_ fun z3 d2=>
 bE (.sl (.int .i64)) a2_ fun z5 d4=>
 aC true .bool a3_ fun d6=>
 .mat (xw d1 d2 d4 d6) fun r=>.ret (JD z3 z5 d1 d2 d4 d6 r)
def O7:Ctr:=⟨[],fun ci=>O5 ci.args ci.roots,false⟩
theorem ZU:bM Tryz.prog .none pX:=(aA ny asR (aA nZ apA (aA JE azl (aA pY amq (aA JB azk (aA auq aBB (aA ahp aBC aN)))))))
theorem abl:Contract Tryz.prog .none 47 O7:=by
 have hl:aZ pX xu xA:=(bC (n:=1) (by kernel_rfl) fun k hk=>by
   match k,hk with
   |0,_=>exact bq (id:=2) (L:=jB) (by kernel_rfl) (by kernel_rfl) UN)
 refine (aI (F:=O6) bg ZU Tryz.func47 (by kernel_rfl) (by kernel_rfl) (by kernel_rfl) hl []).weaken ?_
 rintro ⟨av,rs⟩ co h
 have h:(O5 av rs).run some=some co:=h
 obtain ⟨a0_,av0,rfl,h_0⟩:=au h
 obtain ⟨a1_,av1,rfl,h_1⟩:=au h_0
 obtain ⟨a2_,av2,rfl,h_2⟩:=au h_1
 obtain ⟨a3_,av3,rfl,h_3⟩:=au h_2
 obtain ⟨rfl,h_4⟩:=ay h_3
 obtain ⟨rfl,h_5⟩:=ay h_4
 obtain ⟨d1,rfl,h_6⟩:=ak h_5
 obtain ⟨z3,d2,rfl,h_7⟩:=aD h_6
 obtain ⟨z5,d4,rfl,h_8⟩:=aD h_7
 obtain ⟨d6,rfl,h_9⟩:=ak h_8
 exact bJ (abk z3 z5 d1 d2 d4 d6) h_9
def oI (h4_0_0:List Int) (h4_0_1:Int) (h4_0_2:(Int×(Int×Unit))):((List Int)×(List Int))→Tre (((List Int)×(List Int)) ⊕ ((List Int)×(List Int))):=fun s4=>
 .cond (decide ((s4.2.length:Int) ≥ (h4_0_0.length:Int)))
  (let v4:=aP .i64 ((s4.2.length:Int)-(h4_0_0.length:Int))
  let v5:=aP .i64 ((s4.2.length:Int)-1)
  .ite (0≤v5∧v5<(s4.2.length:Int))<|
  .mat (s4.2[v5.toNat]?) fun x6=>
  .mat (dG h4_0_2 h4_0_1) fun r7=>
  .mat (dH h4_0_2 x6 r7) fun r8=>
  let v9:=aP .i64 ((h4_0_0.length:Int)-1)
  .mat (Nz h4_0_2 r8 v9) fun r10=>
  .mat (NA r10 v4) fun r11=>
  .mat (K9 s4.1 r11) fun r12=>
  .mat (qI h4_0_2 h4_0_0 r11) fun r13=>
  .mat (K9 s4.2 r13) fun r14=>
  .ret (.inl (r12,r14)))
  (.ret (.inr (s4.1,s4.2)))
def ae9 (p0:(Int×(Int×Unit))) (p1:List Int) (p2:List Int):Tre ((List Int)×(List Int)):=
 .mat (gH p1) fun r1=>
 let v2:=aP .i64 ((p2.length:Int)-1)
 .ite (0≤v2∧v2<(p2.length:Int))<|
 .mat (p2[v2.toNat]?) fun x3=>
 .mat (aR (oI p2 x3 p0) ([],r1)) fun l15=>
 .ret (l15.1,l15.2)
def Nw (p0:(Int×(Int×Unit))) (p1:List Int) (p2:List Int):Option ((List Int)×(List Int)):=(ae9 p0 p1 p2).run some
-- more
theorem axn{c k:Nat}(hk:k≤1000):NA (c:Int) (k:Int)=some (aS (vK k c)):=by
 have hk1:aP .i64 ((k:Int)+1)=((k+1:Nat):Int):=aV (by omega)
 unfold NA afe
 rw [hk1,Tre.run_ite,if_pos ⟨rfl,by omega,rfl,by omega,by omega⟩,Int.toNat_natCast,dF (show (List.replicate (k+1) (0:Int))[k]?=some 0 by rw [List.getElem?_replicate,if_pos (by omega)])]
 dsimp only
 rw [Int.toNat_natCast,atM,Tre.aK]
theorem auX{f:TF3}(hf:aO f=true){N V:List Nat}(hV:inL (FOf f hf) V)(hn:V≠[])(ht:cf V (V.length-1)≠0):∀(m:Nat)(A R:List Nat),R.length≤m→A.length≤100→R.length≤100→V.length≤100→TL (FOf f hf) N V A R →
  ∃A' R',aR (oI (aS V) (cf V (V.length-1):Int) f) (aS A,aS R)=some (aS A',aS R')∧TL (FOf f hf) N V A' R'∧R'.length<V.length∧A'.length≤100:=by
 have hvl:0<V.length:=List.length_pos_iff.2 hn
 obtain ⟨iv,hi1,hi2,hi3⟩:=as0 hf hV ht
 intro m
 induction m with
 |zero=>
  intro A R hm hA hR hV2 h
  refine ⟨A,R,fB ?_,h,by omega,hA⟩
  unfold oI
  dsimp only
  rw [Tre.aG,decide_eq_false (by rw [aW,aW];omega),cond_false,Tre.aK]
 |succ m ih=>
  intro A R hm hA hR hV2 h
  by_cases hl:V.length≤R.length
  ·obtain ⟨hc,hD,hlt⟩:=apq hf hV h hn hl hi2 hi3
   obtain ⟨b1,b2,b3⟩:=aiK (c:=(FOf f hf).sqn (Y6 f.1.toNat (V.length-1)) ((FOf f hf).mul (cf R (R.length-1)) iv)) hA hR hvl hl (FOf f hf)
   obtain ⟨A',R',h1,h2,h3,h4⟩:=ih _ _ (by omega) b1 (by omega) hV2 hD
   refine ⟨A',R',?_,h2,h3,h4⟩
   rw [←h1]
   refine mR ?_
   have hk:aP .i64 (((aS R).length:Int)-((aS V).length:Int))=((R.length-V.length:Nat):Int):=by rw [aW,aW,dN (by omega) (by omega)];omega
   have hr:aP .i64 (((aS R).length:Int)-1)=((R.length-1:Nat):Int):=by rw [aW];exact gM (by omega) (by omega)
   have hv:aP .i64 (((aS V).length:Int)-1)=((V.length-1:Nat):Int):=by rw [aW];exact gM (by omega) (by omega)
   have hrl:=kR h.ir (R.length-1)
   have hml:=(FOf f hf).lt (cf R (R.length-1)) iv
   unfold oI
   dsimp only
   rw [Tre.aG,decide_eq_true (by rw [aW,aW];omega),cond_true,hk,hr,dF (dA (dV (show R.length-1<R.length by omega)))]
   rw [ah (atF hf ((YU hf).2 ⟨_,rfl,kR hV _⟩)),hi1,ah (afv hf hrl hi2),hv,ah (axl hf hml _),ah (axn (by omega))]
   rw [ah (atK hf h.ia (Xk hc) (by omega) (by omega)),ah (ag9 hf hV (Xk hc) (by omega) (by omega)),ah (atK hf h.ir (tK (abN _ _)) (by omega) (by omega)),Tre.aK]
  ·refine ⟨A,R,fB ?_,h,by omega,hA⟩
   unfold oI
   dsimp only
   rw [Tre.aG,decide_eq_false (by rw [aW,aW];omega),cond_false,Tre.aK]
theorem axd{f:TF3}(hf:aO f=true){N V:List Nat}(hN:inL (FOf f hf) N)(hV:inL (FOf f hf) V)(hn:V≠[])(htV:Am V)(htN:Am N)(hNl:N.length≤100)(hVl:V.length≤100) :
  ∃A R,Nw f (aS N) (aS V)=some (aS A,aS R)∧TL (FOf f hf) N V A R∧R.length<V.length∧A.length≤100:=by
 have hvl:0<V.length:=List.length_pos_iff.2 hn
 obtain ⟨A,R,h1,h2,h3,h4⟩:=auX hf hV hn (htV hn) N.length [] N (Nat.le_refl _) (Nat.zero_le _) hNl hVl (TL.start hN htN)
 refine ⟨A,R,?_,h2,h3,h4⟩
 have hd:aP .i64 (((aS V).length:Int)-1)=((V.length-1:Nat):Int):=by rw [aW];exact gM (by omega) (by omega)
 rw [show aS []=[] from rfl] at h1
 unfold Nw ae9
 dsimp only
 rw [ah (show gH (aS N)=some (aS N) from KF (by rw [aW];omega)),hd,dF (dA (dV (show V.length-1<V.length by omega))),ah h1,Tre.aK]
def Gg:Env:=⟨tau,[(108,D8),(117,KS),(68,sw),(128,agN),(129,agR),(130,akx),(102,K7)],[]⟩
def Ny:Code:=(Tryz.f107.body).getD .skip
def G5 (z4_0:Bool) (h4_0_0:List Int) (h4_0_1:Int) (h4_0_2:(Int×(Int×Unit))):((List Int)×(List Int))→St:=fun x=>bR [(2,(.imm z4_0 (.sl (.int .i64)) h4_0_0)),(3,(.ptr (5,0) [])),(8,(.ref (10,0) [])),(9,(.ref (11,0) [])),(10,(.imm true (.int .i64) h4_0_1))] [((5,0),some ⟨true,aL,.own,h4_0_2⟩),((10,0),some ⟨false,(.sl (.int .i64)),.own,x.1⟩),((11,0),some ⟨false,(.sl (.int .i64)),.own,x.2⟩)]
def Ed (_z4_0:Bool) (_h4_0_0:List Int) (_h4_0_1:Int) (_h4_0_2:(Int×(Int×Unit))):((List Int)×(List Int))→Ex×St:=fun x=>(.exit 0,bR [(8,(.ref (10,0) [])),(9,(.ref (11,0) []))] [((10,0),some ⟨false,(.sl (.int .i64)),.own,x.1⟩),((11,0),some ⟨false,(.sl (.int .i64)),.own,x.2⟩)])
def WJ (s:St):Tre (Ex×St):=
 bE (.sl (.int .i64)) (s.tmps 2) fun z3 d2=>
 dU (5,0) [] (s.tmps 3)<|
 dz (10,0) [] (s.tmps 8)<|
 dz (11,0) [] (s.tmps 9)<|
 aC true (.int .i64) (s.tmps 10) fun d8=>
 bD true aL (s.roots (5,0)) fun m10 d11=>
 asM .own m10<|
 bD false (.sl (.int .i64)) (s.roots (10,0)) fun m13 d14=>
 asM .own m13<|
 bD false (.sl (.int .i64)) (s.roots (11,0)) fun m16 d17=>
 asM .own m16<|
 .mat (aR (oI d2 d8 d11) (d14,d17)) fun x=>.ret (Ed z3 d2 d8 d11 x)
def qK:bK:=⟨([2,3,8,9,10],[(5,0),(10,0),(11,0)]),([8,9],[(10,0),(11,0)]),WJ⟩
def Nv:List (Nat×bK):=[(4,qK)]
theorem ac3:∀(z4_0:Bool)(h4_0_0:List Int)(h4_0_1:Int)(h4_0_2:(Int×(Int×Unit)))(x:((List Int)×(List Int)))(c:St→Option (Ex×St)),den Gg Nv (aY Ny 0) (G5 z4_0 h4_0_0 h4_0_1 h4_0_2 x) (bU qK.kp qK.kx c)=(oI h4_0_0 h4_0_1 h4_0_2 x).run (bV (G5 z4_0 h4_0_0 h4_0_1 h4_0_2) (Ed z4_0 h4_0_0 h4_0_1 h4_0_2) c):=fun _ _ _ _ _ _=>by
 kernel_rfl
theorem ahU:bS Gg Nv (aY Ny 0) qK:=bA fun s e s' h=>by
 generalize hs:restrict qK.kp s=s1 at h
 have h:(WJ s1).run some=some (e,s'):=h
 obtain ⟨z3,d2,e1,h_0⟩:=aD h
 obtain ⟨e4,h_1⟩:=bF h_0
 obtain ⟨e5,h_2⟩:=bf h_1
 obtain ⟨e6,h_3⟩:=bf h_2
 obtain ⟨d8,e7,h_4⟩:=ak h_3
 obtain ⟨m10,d11,e9,h_5⟩:=aH h_4
 obtain ⟨rfl,h_6⟩:=aQ h_5
 obtain ⟨m13,d14,e12,h_7⟩:=aH h_6
 obtain ⟨rfl,h_8⟩:=aQ h_7
 obtain ⟨m16,d17,e15,h_9⟩:=aH h_8
 obtain ⟨rfl,h_10⟩:=aQ h_9
 obtain ⟨y,hy,hz⟩:=bT h_10
 refine ⟨_,_,G5 z3 d2 d8 d11,Ed z3 d2 d8 d11,oI d2 d8 d11,(d14,d17),y,?_,hy,?_,ac3 z3 d2 d8 d11⟩
 ·subst hs;exact aT (T:=[(2,(.imm z3 (.sl (.int .i64)) d2)),(3,(.ptr (5,0) [])),(8,(.ref (10,0) [])),(9,(.ref (11,0) [])),(10,(.imm true (.int .i64) d8))]) (U:=[((5,0),some ⟨true,aL,.own,d11⟩),((10,0),some ⟨false,(.sl (.int .i64)),.own,d14⟩),((11,0),some ⟨false,(.sl (.int .i64)),.own,d17⟩)]) rfl rfl ⟨e1,e4,e5,e6,e7,trivial⟩ ⟨e9,e12,e15,trivial⟩
 ·exact Option.some.inj hz
def agH:FnI:=⟨Ny,Tryz.f107.results.toList,Tryz.f107.resultTypes.toList,Nv⟩
def Zk (_zp0:Bool) (_zp1:Bool) (_p0:(Int×(Int×Unit))) (_p1:List Int) (_p2:List Int):((List Int)×(List Int))→aB:=fun r=>⟨(.tcons (.ref (1,0) []) (.tcons (.ref (1,1) []) .tnil)),[],[⟨false,(.sl (.int .i64)),.own,r.1⟩,⟨false,(.sl (.int .i64)),.own,r.2⟩]⟩
theorem aoz:∀(zp0:Bool)(zp1:Bool)(p0:(Int×(Int×Unit)))(p1:List Int)(p2:List Int),bN Gg agH ⟨[(.imm true aL p0),(.imm zp0 (.sl (.int .i64)) p1),(.imm zp1 (.sl (.int .i64)) p2)],[]⟩=(ae9 p0 p1 p2).run fun r=>some (Zk zp0 zp1 p0 p1 p2 r):=fun _ _ _ _ _=>by kernel_rfl
def agG (av:List AV) (rs:List Root):Tre aB:=
 aJ av fun a0_ av0=>
 aJ av0 fun a1_ av1=>
 aJ av1 fun a2_ av2=>
 aU av2<|
 aU rs<|
 aC true aL a0_ fun d1=>
 bE (.sl (.int .i64)) a1_ fun z3 d2=>
 bE (.sl (.int .i64)) a2_ fun z5 d4=>
 .mat (Nw d1 d2 d4) fun r=>.ret (Zk z3 z5 d1 d2 d4 r)
def agI:Ctr:=⟨[],fun ci=>agG ci.args ci.roots,false⟩
theorem alL:bM Tryz.prog .none Gg:=(aA F9 ad1 (aA Tk avT (aA qZ afJ (aA aoD aAe (aA aoG aAf (aA aqP aAg (aA Tp avQ aN)))))))
theorem aoA:Contract Tryz.prog .none 107 agI:=by
 have hl:aZ Gg Nv Ny:=(bC (n:=1) (by kernel_rfl) fun k hk=>by
   match k,hk with
   |0,_=>exact bq (id:=4) (L:=qK) (by kernel_rfl) (by kernel_rfl) ahU)
 refine (aI (F:=agH) bg alL Tryz.func107 (by kernel_rfl) (by kernel_rfl) (by kernel_rfl) hl []).weaken ?_
 rintro ⟨av,rs⟩ co h
 have h:(agG av rs).run some=some co:=h
 obtain ⟨a0_,av0,rfl,h_0⟩:=au h
 obtain ⟨a1_,av1,rfl,h_1⟩:=au h_0
 obtain ⟨a2_,av2,rfl,h_2⟩:=au h_1
 obtain ⟨rfl,h_3⟩:=ay h_2
 obtain ⟨rfl,h_4⟩:=ay h_3
 obtain ⟨d1,rfl,h_5⟩:=ak h_4
 obtain ⟨z3,d2,rfl,h_6⟩:=aD h_5
 obtain ⟨z5,d4,rfl,h_7⟩:=aD h_6
 exact bJ (aoz z3 z5 d1 d2 d4) h_7
def I7 (p0:(Int×(Int×Unit))) (p1:List Int) (p2:List Int):Tre (Int×(List Int)×(List Int)):=
 .mat (Nr p0 p1 p2) fun r1=>
 .cond (!decide (r1=0))
  (.ret (r1,[],[]))
  (.mat (Nw p0 p1 p2) fun r2=>
  .ret (0,r2.1,r2.2))
def qD (p0:(Int×(Int×Unit))) (p1:List Int) (p2:List Int):Option (Int×(List Int)×(List Int)):=(I7 p0 p1 p2).run some
def KL:Env:=⟨tau,[(106,agF),(107,agI)],[]⟩
def V6:Code:=(Tryz.f72.body).getD .skip
def V5:FnI:=⟨V6,Tryz.f72.results.toList,Tryz.f72.resultTypes.toList,[]⟩
def P9 (_zp0:Bool) (_zp1:Bool) (_p0:(Int×(Int×Unit))) (_p1:List Int) (_p2:List Int):(Int×(List Int)×(List Int))→aB:=fun r=>⟨(.tcons (.ref (1,0) []) (.tcons (.ref (1,1) []) (.tcons (.imm true (.int .i64) r.1) .tnil))),[],[⟨false,(.sl (.int .i64)),.own,r.2.1⟩,⟨false,(.sl (.int .i64)),.own,r.2.2⟩]⟩
theorem ahK:∀(zp0:Bool)(zp1:Bool)(p0:(Int×(Int×Unit)))(p1:List Int)(p2:List Int),bN KL V5 ⟨[(.imm true aL p0),(.imm zp0 (.sl (.int .i64)) p1),(.imm zp1 (.sl (.int .i64)) p2)],[]⟩=(I7 p0 p1 p2).run fun r=>some (P9 zp0 zp1 p0 p1 p2 r):=fun _ _ _ _ _=>by kernel_rfl
def V4 (av:List AV) (rs:List Root):Tre aB:=
 aJ av fun a0_ av0=>
 aJ av0 fun a1_ av1=>
 aJ av1 fun a2_ av2=>
 aU av2<|
 aU rs<|
 aC true aL a0_ fun d1=>
 bE (.sl (.int .i64)) a1_ fun z3 d2=>
 bE (.sl (.int .i64)) a2_ fun z5 d4=>
 .mat (qD d1 d2 d4) fun r=>.ret (P9 z3 z5 d1 d2 d4 r)
def V7:Ctr:=⟨[],fun ci=>V4 ci.args ci.roots,false⟩
theorem aeR:bM Tryz.prog .none KL:=(aA aoy az0 (aA aoA az1 aN))
theorem ahL:Contract Tryz.prog .none 72 V7:=by
 have hl:aZ KL [] V6:=bB (by kernel_rfl)
 refine (aI (F:=V5) bg aeR Tryz.func72 (by kernel_rfl) (by kernel_rfl) (by kernel_rfl) hl []).weaken ?_
 rintro ⟨av,rs⟩ co h
 have h:(V4 av rs).run some=some co:=h
 obtain ⟨a0_,av0,rfl,h_0⟩:=au h
 obtain ⟨a1_,av1,rfl,h_1⟩:=au h_0
 obtain ⟨a2_,av2,rfl,h_2⟩:=au h_1
 obtain ⟨rfl,h_3⟩:=ay h_2
 obtain ⟨rfl,h_4⟩:=ay h_3
 obtain ⟨d1,rfl,h_5⟩:=ak h_4
 obtain ⟨z3,d2,rfl,h_6⟩:=aD h_5
 obtain ⟨z5,d4,rfl,h_7⟩:=aD h_6
 exact bJ (ahK z3 z5 d1 d2 d4) h_7
def kC (h6_0_1:List Int):(Int×(List Int))→Tre ((Int×(List Int)) ⊕ (List Int)):=fun s6=>
 .cond (decide (s6.1<(h6_0_1.length:Int)))
  (.ite (0≤s6.1∧s6.1<(h6_0_1.length:Int))<|
  .mat (h6_0_1[s6.1.toNat]?) fun x4=>
  .ite (0≤s6.1∧s6.1<(s6.2.length:Int))<|
  .mat (s6.2[s6.1.toNat]?) fun _=>
  let v6:=s6.2.set s6.1.toNat x4
  .ret (.inl (aP .i64 (s6.1+1),v6)))
  (.ret (.inr s6.2))
def OH (p0:(Int×(Int×Unit))) (p1:List Int) (p2:List Int) (p3:Int):Tre ((List Int)×Bool):=
 .mat (Gm p1) fun r1=>
 .mat (Gm p2) fun r2=>
 .mat (qD p0 r1 r2) fun r3=>
 .cond (!decide (r3.1=0))
  (.ret ([],false))
  (.cond (decide ((r3.2.2.length:Int)>0))
   (.ret ([],false))
   (.cond (decide ((r3.2.1.length:Int)>p3))
    (.ret ([],false))
    (.ite (((.int .i64):K)=(.int .i64)∧0≤p3∧p3=p3∧p3*(8:Nat)≤140737488355328∧1≤8)<|
    .mat (aR (kC r3.2.1) (0,List.replicate p3.toNat (0:Int))) fun l7=>
    .ret (l7,true))))
def tX (p0:(Int×(Int×Unit))) (p1:List Int) (p2:List Int) (p3:Int):Option ((List Int)×Bool):=(OH p0 p1 p2 p3).run some
-- more
theorem ayD{f:TF3}(hf:aO f=true){L:List Nat}(h:inL (FOf f hf) L)(hl:L.length≤1000):zI f (aS L)=some true:=by
 unfold zI OC
 rw [ah (show aR (j6 (aS L) f) 0=some (.inr ()) from ?_)]
 ·rfl
 refine cO (fun i=>(i:Int)) L.length _ (fun i hi=>?_) ?_
 ·have hc:=kR h i
  have hin:inR (cf L i:Int) 0 (Uw f)=true:=by
   rw [al5] at hc
   rw [kF]
   unfold Uw
   have:((cf L i:Nat):Int)<((2 ^ f.1.toNat:Nat):Int):=by exact_mod_cast hc
   have h2:((2 ^ f.1.toNat:Nat):Int)=(2:Int) ^ f.1.toNat:=by rw [Int.natCast_pow];rfl
   omega
  unfold j6
  rw [dP (dA (dV hi)),ah (RG hf),aip hf]
  dsimp only
  rw [Tre.aG,hin,Bool.not_true,cond_false,Tre.aK,aV (by omega)]
 ·unfold j6
  rw [aW,dw,Tre.aK]
theorem atG{f:TF3}(hf:aO f=true){L:List Nat}(h:inL (FOf f hf) L)(ht:Am L)(hl:L.length≤12):tO f (aS L)=some true:=by
 have h1:XL f (aS L)=some true:=by
  unfold XL aoB
  rw [Tre.aG,aW,decide_eq_true (by omega),cond_true,ah (ayD hf h (by omega)),Tre.aG,cond_true,Tre.aG]
  by_cases h0:L.length=0
  ·rw [decide_eq_true (by omega),cond_true,Tre.aK]
  ·have:=ht fun hh=>h0 (by rw [hh];rfl)
   have hp:aP .i64 ((L.length:Int)-1)=((L.length-1:Nat):Int):=gM (by omega) (by omega)
   have hll:(L.length:Int)=((aS L).length:Int):=by rw [aW]
   rw [decide_eq_false (by omega),cond_false]
   dsimp only
   rw [hp,hll,dF (dA (dV (show L.length-1<L.length by omega))),Tre.aK,decide_eq_false (by omega)]
   rfl
 unfold tO Oz
 rw [ah (aaD f),hf,Tre.aG,cond_true,ah h1,Tre.aK]
theorem aqR{f:TF3}(hf:aO f=true){N V:List Nat}(hN:inL (FOf f hf) N)(hV:inL (FOf f hf) V)(htV:Am V)(htN:Am N)(hNl:N.length≤12)(hVl:V.length≤12):Nr f (aS N) (aS V)=some (if V=[] then 4 else 0):=by
 unfold Nr ae5
 rw [ah (atG hf hN htN hNl),Tre.aG,Bool.not_true,cond_false,ah (atG hf hV htV hVl),Tre.aG,Bool.not_true,cond_false,Tre.aG,aW]
 by_cases h:V=[]
 ·subst h;rfl
 ·have:=List.length_pos_iff.2 h
  rw [decide_eq_false (by omega),if_neg h];rfl
theorem aw7{f:TF3}(hf:aO f=true){N V:List Nat}(hN:inL (FOf f hf) N)(hV:inL (FOf f hf) V)(hn:V≠[])(htV:Am V)(htN:Am N)(hNl:N.length≤12)(hVl:V.length≤12) :
  ∃A R,qD f (aS N) (aS V)=some (0,aS A,aS R)∧TL (FOf f hf) N V A R∧R.length<V.length∧A.length≤100:=by
 obtain ⟨A,R,h1,h2,h3,h4⟩:=axd hf hN hV hn htV htN (by omega) (by omega)
 refine ⟨A,R,?_,h2,h3,h4⟩
 unfold qD I7
 rw [ah (aqR hf hN hV htV htN hNl hVl),if_neg hn,Tre.aG,decide_eq_true rfl,Bool.not_true,cond_false,ah h1,Tre.aK]
theorem auY{f:TF3}(hf:aO f=true){N:List Nat}(hN:inL (FOf f hf) N)(htN:Am N)(hNl:N.length≤12):qD f (aS N) (aS [])=some (4,[],[]):=by
 unfold qD I7
 rw [ah (aqR hf hN (fun x hx=>absurd hx List.not_mem_nil) (fun h=>absurd rfl h) htN hNl (Nat.zero_le _)),if_pos rfl,Tre.aG,decide_eq_false (by decide),Bool.not_false,cond_true,Tre.aK]
theorem awU{A:List Nat}{k:Nat}(h:A.length≤k)(hk:k≤1000):aR (kC (aS A)) (0,List.replicate k (0:Int))=some (aS (uW k A)):=by
 have hst:∀i,i<A.length→(aS (A.take i++List.replicate (k-i) 0)).set i (cf A i:Int)=aS (A.take (i+1)++List.replicate (k-(i+1)) 0):=by
  intro i hi
  have hti:(A.take i).length=i:=by rw [List.length_take];omega
  rw [←Vt,show k-i=(k-(i+1))+1 by omega,List.replicate_succ,List.set_append_right _ _ (by omega),hti,Nat.sub_self,List.set_cons_zero,List.take_add_one,dV hi,List.append_assoc]
  rfl
 have h0:List.replicate k (0:Int)=aS (A.take 0++List.replicate (k-0) 0):=by rw [List.take_zero,List.nil_append,DN,Nat.sub_zero]
 rw [h0]
 refine cO (fun i=>((i:Int),aS (A.take i++List.replicate (k-i) 0))) A.length _ (fun i hi=>?_) ?_
 ·have hti:(A.take i).length=i:=by rw [List.length_take];omega
  have hx:(A.take i++List.replicate (k-i) 0)[i]?=some 0:=by
   rw [List.getElem?_append_right (by omega),hti,Nat.sub_self,List.getElem?_replicate,if_pos (by omega)]
  unfold kC
  dsimp only
  rw [dP (dA (dV hi)),dF (dA hx),Int.toNat_natCast,hst i hi,Tre.aK,aV (by omega)]
 ·unfold kC
  dsimp only
  rw [aW,dw,Tre.aK,List.take_length]
  rfl
def tY:Env:=⟨tau,[(73,ag8),(72,V7)],[(1000000,[((10,0),[],false)]),(1000002,[((10,0),[],false),((11,0),[],false)])]⟩
def zN:Code:=(Tryz.f43.body).getD .skip
def yX (h6_0_1:List Int):(Int×(List Int))→St:=fun x=>bR [(10,(.ref (23,0) [])),(13,(.ref (15,0) [])),(14,(.imm true (.int .i64) x.1))] [((23,0),some ⟨false,(.sl (.int .i64)),.own,h6_0_1⟩),((15,0),some ⟨false,(.sl (.int .i64)),.own,x.2⟩)]
def wV (_h6_0_1:List Int):(List Int)→Ex×St:=fun x=>(.exit 0,bR [(13,(.ref (15,0) []))] [((15,0),some ⟨false,(.sl (.int .i64)),.own,x⟩)])
def Ll (s:St):Tre (Ex×St):=
 dz (23,0) [] (s.tmps 10)<|
 dz (15,0) [] (s.tmps 13)<|
 aC true (.int .i64) (s.tmps 14) fun d4=>
 bD false (.sl (.int .i64)) (s.roots (23,0)) fun m6 d7=>
 asM .own m6<|
 bD false (.sl (.int .i64)) (s.roots (15,0)) fun m9 d10=>
 asM .own m9<|
 .mat (aR (kC d7) (d4,d10)) fun x=>.ret (wV d7 x)
def kD:bK:=⟨([10,13,14],[(23,0),(15,0)]),([13],[(15,0)]),Ll⟩
def zM:List (Nat×bK):=[(6,kD)]
theorem Uu:∀(h6_0_1:List Int)(x:(Int×(List Int)))(c:St→Option (Ex×St)),den tY zM (aY zN 0) (yX h6_0_1 x) (bU kD.kp kD.kx c)=(kC h6_0_1 x).run (bV (yX h6_0_1) (wV h6_0_1) c):=fun _ _ _=>by
 kernel_rfl
theorem Yz:bS tY zM (aY zN 0) kD:=bA fun s e s' h=>by
 generalize hs:restrict kD.kp s=s1 at h
 have h:(Ll s1).run some=some (e,s'):=h
 obtain ⟨e1,h_0⟩:=bf h
 obtain ⟨e2,h_1⟩:=bf h_0
 obtain ⟨d4,e3,h_2⟩:=ak h_1
 obtain ⟨m6,d7,e5,h_3⟩:=aH h_2
 obtain ⟨rfl,h_4⟩:=aQ h_3
 obtain ⟨m9,d10,e8,h_5⟩:=aH h_4
 obtain ⟨rfl,h_6⟩:=aQ h_5
 obtain ⟨y,hy,hz⟩:=bT h_6
 refine ⟨_,_,yX d7,wV d7,kC d7,(d4,d10),y,?_,hy,?_,Uu d7⟩
 ·subst hs;exact aT (T:=[(10,(.ref (23,0) [])),(13,(.ref (15,0) [])),(14,(.imm true (.int .i64) d4))]) (U:=[((23,0),some ⟨false,(.sl (.int .i64)),.own,d7⟩),((15,0),some ⟨false,(.sl (.int .i64)),.own,d10⟩)]) rfl rfl ⟨e1,e2,e3,trivial⟩ ⟨e5,e8,trivial⟩
 ·exact Option.some.inj hz
def TB:FnI:=⟨zN,Tryz.f43.results.toList,Tryz.f43.resultTypes.toList,zM⟩
def NP (_zp0:Bool) (_zp1:Bool) (_p0:(Int×(Int×Unit))) (_p1:List Int) (_p2:List Int) (_p3:Int):((List Int)×Bool)→aB:=fun r=>⟨(.tcons (.imm true (.sl (.int .i64)) r.1) (.tcons (.imm true .bool r.2) .tnil)),[],[]⟩
theorem afm:∀(zp0:Bool)(zp1:Bool)(p0:(Int×(Int×Unit)))(p1:List Int)(p2:List Int)(p3:Int),bN tY TB ⟨[(.imm true aL p0),(.imm zp0 (.sl (.int .i64)) p1),(.imm zp1 (.sl (.int .i64)) p2),(.imm true (.int .i64) p3)],[]⟩=(OH p0 p1 p2 p3).run fun r=>some (NP zp0 zp1 p0 p1 p2 p3 r):=fun _ _ _ _ _ _=>by kernel_rfl
def TA (av:List AV) (rs:List Root):Tre aB:=
 aJ av fun a0_ av0=>
 aJ av0 fun a1_ av1=>
 aJ av1 fun a2_ av2=>
 aJ av2 fun a3_ av3=>
 aU av3<|
 aU rs<|
 aC true aL a0_ fun d1=>
 bE (.sl (.int .i64)) a1_ fun z3 d2=>
 bE (.sl (.int .i64)) a2_ fun z5 d4=>
 aC true (.int .i64) a3_ fun d6=>
 .mat (tX d1 d2 d4 d6) fun r=>.ret (NP z3 z5 d1 d2 d4 d6 r)
def TD:Ctr:=⟨[],fun ci=>TA ci.args ci.roots,false⟩
theorem adk:bM Tryz.prog .none tY:=(aA aoQ aBA (aA ahL aBz aN))
theorem afn:Contract Tryz.prog .none 43 TD:=by
 have hl:aZ tY zM zN:=(bC (n:=1) (by kernel_rfl) fun k hk=>by
   match k,hk with
   |0,_=>exact bq (id:=6) (L:=kD) (by kernel_rfl) (by kernel_rfl) Yz)
 refine (aI (F:=TB) bg adk Tryz.func43 (by kernel_rfl) (by kernel_rfl) (by kernel_rfl) hl []).weaken ?_
 rintro ⟨av,rs⟩ co h
 have h:(TA av rs).run some=some co:=h
 obtain ⟨a0_,av0,rfl,h_0⟩:=au h
 obtain ⟨a1_,av1,rfl,h_1⟩:=au h_0
 obtain ⟨a2_,av2,rfl,h_2⟩:=au h_1
 obtain ⟨a3_,av3,rfl,h_3⟩:=au h_2
 obtain ⟨rfl,h_4⟩:=ay h_3
 obtain ⟨rfl,h_5⟩:=ay h_4
 obtain ⟨d1,rfl,h_6⟩:=ak h_5
 obtain ⟨z3,d2,rfl,h_7⟩:=aD h_6
 obtain ⟨z5,d4,rfl,h_8⟩:=aD h_7
 obtain ⟨d6,rfl,h_9⟩:=ak h_8
 exact bJ (afm z3 z5 d1 d2 d4 d6) h_9
end Go.Proofs.YtihiobjhogpmdaaGreat
