/- Part 6 of the proof of FnExactDecodeGabidulin. -/
import Derived.Test.YtihiobjhogpmdaaGreatDg5
set_option maxRecDepth 100000
namespace Go.Proofs.YtihiobjhogpmdaaGreat
open Go Go.Abs Go.Proofs
noncomputable def jP (h3_0_0:Int) (h3_0_2:(List Int)) (h3_0_3:Int) (h3_0_5:(Int×(Int×Unit))):(Int×Int)→Tre ((Int×Int) ⊕ Int):=fun s3 =>
 .cond (decide (s3.2 < h3_0_3))
  (.ite (0≤s3.2∧s3.2 < (h3_0_2.length:Int)) <|
  .mat (h3_0_2[s3.2.toNat]?) fun x1 =>
  .mat (fV h3_0_5 h3_0_0 s3.2) fun r2 =>
  .mat (bX h3_0_5 x1 r2) fun r3 =>
  .ret (.inl (jI .i64 s3.1 r3,aO .i64 (s3.2+1))))
  (.ret (.inr s3.1))
noncomputable def MI (p0:(Int×(Int×Unit))) (p1:(List Int)) (p2:Int):Tre Int :=
 .mat (aR (jP p2 p1 (p1.length:Int) p0) (0,0)) fun l4 =>
 .ret l4
noncomputable def yQ (p0:(Int×(Int×Unit))) (p1:(List Int)) (p2:Int):Option Int:=(MI p0 p1 p2).run some
-- more
theorem aq5 (F:FO):∀ (p:List Nat) (c x:Nat),F.lp (p++[c]) x=F.lp p x ^^^ F.mul c (F.sqn p.length x):=by
 intro p
 induction p with
 |nil=>intro c x;simp [FO.lp,FO.sqn]
 |cons a p ih =>
  intro c x
  simp only [List.cons_append,FO.lp,List.length_cons,FO.sqn]
  rw [ih,Nat.xor_assoc]
theorem asB {f:TF3} (hf:aN f=true) {P:List Nat} (hP:inL (FOf f hf) P) (hl:P.length≤1000) {x:Nat} (hx:x < (FOf f hf).q):yQ f (aS P) (x:Int)=some (((FOf f hf).lp P x:Nat):Int):=by
 unfold yQ MI
 rw [ah (show aR (jP (x:Int) (aS P) ((aS P).length:Int) f) (0,0)=some (((FOf f hf).lp P x:Nat):Int) from ?_),Tre.aL]
 refine cZ (fun i=>((((FOf f hf).lp (P.take i) x:Nat):Int),(i:Int))) P.length _ (fun i hi=>?_) ?_
 ·have hs:=(FOf f hf).Nh i hx
  have hti:(P.take i).length=i:=by rw [List.length_take];omega
  unfold jP
  dsimp only
  rw [eu (dG (eT hi)),ah (ahI hf hx i),ah (alZ hf (pq hP i) hs),Tre.aL,aX (by omega),Zl hf ((FOf f hf).aom _ _) ((FOf f hf).lt _ _),List.take_add_one,eT hi,Option.toList_some,aq5,hti]
 ·unfold jP
  dsimp only
  rw [aW,dF,Tre.aL,List.take_length]
noncomputable def rV:Env:=⟨tau,[(62,lZ),(75,ow)],[]⟩
noncomputable def yR:Code:=(Tryz.f69.body).getD .skip
noncomputable def xO (z3_0:Bool) (h3_0_0:Int) (h3_0_2:(List Int)) (h3_0_3:Int) (h3_0_5:(Int×(Int×Unit))):(Int×Int)→St:=fun x=>bR [(2,(.imm true (.int .i64) h3_0_0)),(3,(.ptr (5,0) [])),(7,(.imm true (.int .i64) x.1)),(10,(.imm z3_0 (.sl (.int .i64)) h3_0_2)),(11,(.imm true (.int .i64) h3_0_3)),(12,(.imm true (.int .i64) x.2))] [((5,0),some ⟨true,aM,.own,h3_0_5⟩)]
noncomputable def uY (_z3_0:Bool) (_h3_0_0:Int) (_h3_0_2:(List Int)) (_h3_0_3:Int) (_h3_0_5:(Int×(Int×Unit))):Int→Ex×St:=fun x=>(.exit 0,bR [(7,(.imm true (.int .i64) x))] [])
noncomputable def IQ (s:St):Tre (Ex×St) :=
 aC true (.int .i64) (s.tmps 2) fun d2 =>
 dW (5,0) [] (s.tmps 3) <|
 aC true (.int .i64) (s.tmps 7) fun d5 =>
 bH (.sl (.int .i64)) (s.tmps 10) fun z8 d7 =>
 aC true (.int .i64) (s.tmps 11) fun d10 =>
 aC true (.int .i64) (s.tmps 12) fun d12 =>
 bD true aM (s.roots (5,0)) fun m14 d15 =>
 asM .own m14 <|
 .mat (aR (jP d2 d7 d10 d15) (d5,d12)) fun x=>.ret (uY z8 d2 d7 d10 d15 x)
noncomputable def jQ:bJ:=⟨([2,3,7,10,11,12],[(5,0)]),([7],[]),IQ⟩
noncomputable def yP:List (Nat×bJ):=[(3,jQ)]
theorem RX:∀ (z3_0:Bool) (h3_0_0:Int) (h3_0_2:(List Int)) (h3_0_3:Int) (h3_0_5:(Int×(Int×Unit))) (x:(Int×Int)) (c:St→Option (Ex×St)),den rV yP (aY yR 0) (xO z3_0 h3_0_0 h3_0_2 h3_0_3 h3_0_5 x) (bV jQ.kp jQ.kx c)=(jP h3_0_0 h3_0_2 h3_0_3 h3_0_5 x).run (bW (xO z3_0 h3_0_0 h3_0_2 h3_0_3 h3_0_5) (uY z3_0 h3_0_0 h3_0_2 h3_0_3 h3_0_5) c):=fun _ _ _ _ _ _ _=>by
 kernel_rfl
theorem Wo:bS rV yP (aY yR 0) jQ:=bA fun s e s' h=>by
 generalize hs:restrict jQ.kp s=s1 at h
 have h:(IQ s1).run some=some (e,s'):=h
 obtain ⟨d2,e1,h_0⟩:=ak h
 obtain ⟨e3,h_1⟩:=bI h_0
 obtain ⟨d5,e4,h_2⟩:=ak h_1
 obtain ⟨z8,d7,e6,h_3⟩:=aF h_2
 obtain ⟨d10,e9,h_4⟩:=ak h_3
 obtain ⟨d12,e11,h_5⟩:=ak h_4
 obtain ⟨m14,d15,e13,h_6⟩:=aH h_5
 obtain ⟨rfl,h_7⟩:=aQ h_6
 obtain ⟨y,hy,hz⟩:=bT h_7
 refine ⟨_,_,xO z8 d2 d7 d10 d15,uY z8 d2 d7 d10 d15,jP d2 d7 d10 d15,(d5,d12),y,?_,hy,?_,RX z8 d2 d7 d10 d15⟩
 ·subst hs;exact aT (T:=[(2,(.imm true (.int .i64) d2)),(3,(.ptr (5,0) [])),(7,(.imm true (.int .i64) d5)),(10,(.imm z8 (.sl (.int .i64)) d7)),(11,(.imm true (.int .i64) d10)),(12,(.imm true (.int .i64) d12))]) (U:=[((5,0),some ⟨true,aM,.own,d15⟩)]) rfl rfl ⟨e1,e3,e4,e6,e9,e11,trivial⟩ ⟨e13,trivial⟩
 ·exact Option.some.inj hz
noncomputable def QK:FnI:=⟨yR,Tryz.f69.results.toList,Tryz.f69.resultTypes.toList,yP⟩
noncomputable def Ld (_zp0:Bool) (_p0:(Int×(Int×Unit))) (_p1:(List Int)) (_p2:Int):Int→aB:=fun r=>⟨(.imm true (.int .i64) r),[],[]⟩
theorem acu:∀ (zp0:Bool) (p0:(Int×(Int×Unit))) (p1:(List Int)) (p2:Int),bQ rV QK ⟨[(.imm true aM p0),(.imm zp0 (.sl (.int .i64)) p1),(.imm true (.int .i64) p2)],[]⟩=(MI p0 p1 p2).run fun r=>some (Ld zp0 p0 p1 p2 r):=fun _ _ _ _=>by kernel_rfl
noncomputable def QJ (av:List AV) (rs:List Root):Tre aB :=
 aJ av fun a0_ av0 =>
 aJ av0 fun a1_ av1 =>
 aJ av1 fun a2_ av2 =>
 aU av2 <|
 aU rs <|
 aC true aM a0_ fun d1 =>
 bH (.sl (.int .i64)) a1_ fun z3 d2 =>
 aC true (.int .i64) a2_ fun d4 =>
 .mat (yQ d1 d2 d4) fun r=>.ret (Ld z3 d1 d2 d4 r)
noncomputable def QL:Ctr:=⟨[],fun ci=>QJ ci.args ci.roots,false⟩
theorem ZM:bP Tryz.prog .none rV:=(aA nO anL (aA pE akE aP))
theorem acv:Contract Tryz.prog .none 69 QL:=by
 have hl:aZ rV yP yR:=(bC (n:=1) (by kernel_rfl) fun k hk=>by
   match k,hk with
   |0,_=>exact bq (id:=3) (L:=jQ) (by kernel_rfl) (by kernel_rfl) Wo)
 refine (aI (F:=QK) bn ZM Tryz.func69 (by kernel_rfl) (by kernel_rfl) (by kernel_rfl) hl []).weaken ?_
 rintro ⟨av,rs⟩ co h
 have h:(QJ av rs).run some=some co:=h
 obtain ⟨a0_,av0,rfl,h_0⟩:=au h
 obtain ⟨a1_,av1,rfl,h_1⟩:=au h_0
 obtain ⟨a2_,av2,rfl,h_2⟩:=au h_1
 obtain ⟨rfl,h_3⟩:=ay h_2
 obtain ⟨rfl,h_4⟩:=ay h_3
 obtain ⟨d1,rfl,h_5⟩:=ak h_4
 obtain ⟨z3,d2,rfl,h_6⟩:=aF h_5
 obtain ⟨d4,rfl,h_7⟩:=ak h_6
 exact bK (acu z3 d1 d2 d4) h_7
noncomputable def oM (h3_0_0:(List Int)) (h3_0_1:Int) (h3_0_4:(Int×(Int×Unit))):(Int×Int)→Tre ((Int×Int) ⊕ Int):=fun s3 =>
 .cond (decide (s3.2 < (h3_0_0.length:Int)))
  (.ite (0≤s3.2∧s3.2 < (h3_0_0.length:Int)) <|
  .mat (h3_0_0[s3.2.toNat]?) fun x1 =>
  .mat (lU h3_0_4 h3_0_1 s3.2) fun r2 =>
  .mat (dH h3_0_4 x1 r2) fun r3 =>
  .ret (.inl (jI .i64 s3.1 r3,aO .i64 (s3.2+1))))
  (.ret (.inr s3.1))
noncomputable def Zf (p0:(Int×(Int×Unit))) (p1:(List Int)) (p2:Int):Tre Int :=
 .mat (aR (oM p1 p2 p0) (0,0)) fun l4 =>
 .ret l4
noncomputable def H9 (p0:(Int×(Int×Unit))) (p1:(List Int)) (p2:Int):Option Int:=(Zf p0 p1 p2).run some
-- more
theorem atb {f:TF3} (hf:aN f=true) {P:List Nat} (hP:inL (FOf f hf) P) (hl:P.length≤1000) {x:Nat} (hx:x < (FOf f hf).q):H9 f (aS P) (x:Int)=some (((FOf f hf).lp P x:Nat):Int):=by
 unfold H9 Zf
 rw [ah (show aR (oM (aS P) (x:Int) f) (0,0)=some (((FOf f hf).lp P x:Nat):Int) from ?_),Tre.aL]
 refine cZ (fun i=>((((FOf f hf).lp (P.take i) x:Nat):Int),(i:Int))) P.length _ (fun i hi=>?_) ?_
 ·have hs:=(FOf f hf).Nh i hx
  have hti:(P.take i).length=i:=by rw [List.length_take];omega
  unfold oM
  dsimp only
  rw [eu (dG (eT hi)),ah (ai7 hf hx i),ah (ai4 hf (pq hP i) hs),Tre.aL,aX (by omega),Zl hf ((FOf f hf).aom _ _) ((FOf f hf).lt _ _),List.take_add_one,eT hi,Option.toList_some,aq5,hti]
 ·unfold oM
  dsimp only
  rw [aW,dF,Tre.aL,List.take_length]
noncomputable def BH:Env:=⟨tau,[(56,yJ),(68,vQ)],[]⟩
noncomputable def Ia:Code:=(Tryz.f42.body).getD .skip
noncomputable def Dt (z3_0:Bool) (h3_0_0:(List Int)) (h3_0_1:Int) (h3_0_4:(Int×(Int×Unit))):(Int×Int)→St:=fun x=>bR [(1,(.imm z3_0 (.sl (.int .i64)) h3_0_0)),(2,(.imm true (.int .i64) h3_0_1)),(3,(.ptr (5,0) [])),(7,(.imm true (.int .i64) x.1)),(8,(.imm true (.int .i64) x.2))] [((5,0),some ⟨true,aM,.own,h3_0_4⟩)]
noncomputable def BI (_z3_0:Bool) (_h3_0_0:(List Int)) (_h3_0_1:Int) (_h3_0_4:(Int×(Int×Unit))):Int→Ex×St:=fun x=>(.exit 0,bR [(7,(.imm true (.int .i64) x))] [])
noncomputable def RH (s:St):Tre (Ex×St) :=
 bH (.sl (.int .i64)) (s.tmps 1) fun z3 d2 =>
 aC true (.int .i64) (s.tmps 2) fun d5 =>
 dW (5,0) [] (s.tmps 3) <|
 aC true (.int .i64) (s.tmps 7) fun d8 =>
 aC true (.int .i64) (s.tmps 8) fun d10 =>
 bD true aM (s.roots (5,0)) fun m12 d13 =>
 asM .own m12 <|
 .mat (aR (oM d2 d5 d13) (d8,d10)) fun x=>.ret (BI z3 d2 d5 d13 x)
noncomputable def nI:bJ:=⟨([1,2,3,7,8],[(5,0)]),([7],[]),RH⟩
noncomputable def H8:List (Nat×bJ):=[(3,nI)]
theorem Zg:∀ (z3_0:Bool) (h3_0_0:(List Int)) (h3_0_1:Int) (h3_0_4:(Int×(Int×Unit))) (x:(Int×Int)) (c:St→Option (Ex×St)),den BH H8 (aY Ia 0) (Dt z3_0 h3_0_0 h3_0_1 h3_0_4 x) (bV nI.kp nI.kx c)=(oM h3_0_0 h3_0_1 h3_0_4 x).run (bW (Dt z3_0 h3_0_0 h3_0_1 h3_0_4) (BI z3_0 h3_0_0 h3_0_1 h3_0_4) c):=fun _ _ _ _ _ _=>by
 kernel_rfl
theorem adO:bS BH H8 (aY Ia 0) nI:=bA fun s e s' h=>by
 generalize hs:restrict nI.kp s=s1 at h
 have h:(RH s1).run some=some (e,s'):=h
 obtain ⟨z3,d2,e1,h_0⟩:=aF h
 obtain ⟨d5,e4,h_1⟩:=ak h_0
 obtain ⟨e6,h_2⟩:=bI h_1
 obtain ⟨d8,e7,h_3⟩:=ak h_2
 obtain ⟨d10,e9,h_4⟩:=ak h_3
 obtain ⟨m12,d13,e11,h_5⟩:=aH h_4
 obtain ⟨rfl,h_6⟩:=aQ h_5
 obtain ⟨y,hy,hz⟩:=bT h_6
 refine ⟨_,_,Dt z3 d2 d5 d13,BI z3 d2 d5 d13,oM d2 d5 d13,(d8,d10),y,?_,hy,?_,Zg z3 d2 d5 d13⟩
 ·subst hs;exact aT (T:=[(1,(.imm z3 (.sl (.int .i64)) d2)),(2,(.imm true (.int .i64) d5)),(3,(.ptr (5,0) [])),(7,(.imm true (.int .i64) d8)),(8,(.imm true (.int .i64) d10))]) (U:=[((5,0),some ⟨true,aM,.own,d13⟩)]) rfl rfl ⟨e1,e4,e6,e7,e9,trivial⟩ ⟨e11,trivial⟩
 ·exact Option.some.inj hz
noncomputable def abE:FnI:=⟨Ia,Tryz.f42.results.toList,Tryz.f42.resultTypes.toList,H8⟩
noncomputable def Vy (_zp0:Bool) (_p0:(Int×(Int×Unit))) (_p1:(List Int)) (_p2:Int):Int→aB:=fun r=>⟨(.imm true (.int .i64) r),[],[]⟩
theorem akc:∀ (zp0:Bool) (p0:(Int×(Int×Unit))) (p1:(List Int)) (p2:Int),bQ BH abE ⟨[(.imm true aM p0),(.imm zp0 (.sl (.int .i64)) p1),(.imm true (.int .i64) p2)],[]⟩=(Zf p0 p1 p2).run fun r=>some (Vy zp0 p0 p1 p2 r):=fun _ _ _ _=>by kernel_rfl
noncomputable def abD (av:List AV) (rs:List Root):Tre aB :=
 aJ av fun a0_ av0 =>
 aJ av0 fun a1_ av1 =>
 aJ av1 fun a2_ av2 =>
 aU av2 <|
 aU rs <|
 aC true aM a0_ fun d1 =>
 bH (.sl (.int .i64)) a1_ fun z3 d2 =>
 aC true (.int .i64) a2_ fun d4 =>
 .mat (H9 d1 d2 d4) fun r=>.ret (Vy z3 d1 d2 d4 r)
noncomputable def abF:Ctr:=⟨[],fun ci=>abD ci.args ci.roots,false⟩
theorem ai0:bP Tryz.prog .none BH:=(aA Bw aqQ (aA vR ag2 aP))
theorem akd:Contract Tryz.prog .none 42 abF:=by
 have hl:aZ BH H8 Ia:=(bC (n:=1) (by kernel_rfl) fun k hk=>by
   match k,hk with
   |0,_=>exact bq (id:=3) (L:=nI) (by kernel_rfl) (by kernel_rfl) adO)
 refine (aI (F:=abE) bn ai0 Tryz.func42 (by kernel_rfl) (by kernel_rfl) (by kernel_rfl) hl []).weaken ?_
 rintro ⟨av,rs⟩ co h
 have h:(abD av rs).run some=some co:=h
 obtain ⟨a0_,av0,rfl,h_0⟩:=au h
 obtain ⟨a1_,av1,rfl,h_1⟩:=au h_0
 obtain ⟨a2_,av2,rfl,h_2⟩:=au h_1
 obtain ⟨rfl,h_3⟩:=ay h_2
 obtain ⟨rfl,h_4⟩:=ay h_3
 obtain ⟨d1,rfl,h_5⟩:=ak h_4
 obtain ⟨z3,d2,rfl,h_6⟩:=aF h_5
 obtain ⟨d4,rfl,h_7⟩:=ak h_6
 exact bK (akc z3 d1 d2 d4) h_7
noncomputable def jv (h3_0_0:aK) (h3_0_1:(List Int)):(Int×(List Int))→Tre ((Int×(List Int)) ⊕ (List Int)):=fun s3 =>
 .cond (decide (s3.1 < (h3_0_0.2.1.length:Int)))
  (.ite (0≤s3.1∧s3.1 < (h3_0_0.2.1.length:Int)) <|
  .mat (h3_0_0.2.1[s3.1.toNat]?) fun x1 =>
  .mat (H9 h3_0_0.1 h3_0_1 x1) fun r2 =>
  .ite ((s3.2.length+1) * 8≤bM∧1≤8) <|
  .ret (.inl (aO .i64 (s3.1+1),s3.2++([r2]))))
  (.ret (.inr s3.2))
noncomputable def Ko (p0:aK) (p1:(List Int)):Tre (List Int) :=
 .mat (aR (jv p0 p1) (0,[])) fun l3 =>
 .ret l3
noncomputable def wY (p0:aK) (p1:(List Int)):Option (List Int):=(Ko p0 p1).run some
-- more
theorem avn {f:TF3} (hf:aN f=true) {P X:List Nat} (hP:inL (FOf f hf) P) (hl:P.length≤1000) (hX:inL (FOf f hf) X) (hXl:X.length≤1000) (k:Int):wY (f,aS X,k,()) (aS P)=some (aS (X.map ((FOf f hf).lp P))):=by
 unfold wY Ko
 rw [ah (show aR (jv (f,aS X,k,()) (aS P)) (0,[])=some (aS (X.map ((FOf f hf).lp P))) from ?_),Tre.aL]
 refine cZ (fun i=>((i:Int),aS ((X.take i).map ((FOf f hf).lp P)))) X.length _ (fun i hi=>?_) ?_
 ·unfold jv
  dsimp only
  rw [eu (dG (eT hi)),ah (atb hf hP hl (pq hX i)),Tre.run_ite,if_pos (by rw [aW,List.length_map,List.length_take];unfold bM;omega),Tre.aL,aX (by omega),List.take_add_one,eT hi,Option.toList_some,List.map_append,vE]
  rfl
 ·unfold jv
  dsimp only
  rw [aW,dF,Tre.aL,List.take_length]
noncomputable def qB:Env:=⟨tau,[(42,abF)],[]⟩
noncomputable def wZ:Code:=(Tryz.f39.body).getD .skip
noncomputable def wm (z3_0:Bool) (z3_1:Bool) (h3_0_0:aK) (h3_0_1:(List Int)):(Int×(List Int))→St:=fun x=>bR [(0,(.iptr z3_0 (.sl aV) ([h3_0_0]) [.idx 0])),(1,(.imm z3_1 (.sl (.int .i64)) h3_0_1)),(5,(.ref (7,0) [])),(6,(.imm true (.int .i64) x.1))] [((7,0),some ⟨false,(.sl (.int .i64)),.own,x.2⟩)]
noncomputable def uf (_z3_0:Bool) (_z3_1:Bool) (_h3_0_0:aK) (_h3_0_1:(List Int)):(List Int)→Ex×St:=fun x=>(.exit 0,bR [(5,(.ref (7,0) []))] [((7,0),some ⟨false,(.sl (.int .i64)),.own,x⟩)])
noncomputable def GQ (s:St):Tre (Ex×St) :=
 alD aV (s.tmps 0) fun z2 d3 =>
 bH (.sl (.int .i64)) (s.tmps 1) fun z6 d5 =>
 dz (7,0) [] (s.tmps 5) <|
 aC true (.int .i64) (s.tmps 6) fun d9 =>
 bD false (.sl (.int .i64)) (s.roots (7,0)) fun m11 d12 =>
 asM .own m11 <|
 .mat (aR (jv d3 d5) (d9,d12)) fun x=>.ret (uf z2 z6 d3 d5 x)
noncomputable def jD:bJ:=⟨([0,1,5,6],[(7,0)]),([5],[(7,0)]),GQ⟩
noncomputable def wX:List (Nat×bJ):=[(3,jD)]
theorem Qo:∀ (z3_0:Bool) (z3_1:Bool) (h3_0_0:aK) (h3_0_1:(List Int)) (x:(Int×(List Int))) (c:St→Option (Ex×St)),den qB wX (aY wZ 0) (wm z3_0 z3_1 h3_0_0 h3_0_1 x) (bV jD.kp jD.kx c)=(jv h3_0_0 h3_0_1 x).run (bW (wm z3_0 z3_1 h3_0_0 h3_0_1) (uf z3_0 z3_1 h3_0_0 h3_0_1) c):=fun _ _ _ _ _ _=>by
 kernel_rfl
theorem Vz:bS qB wX (aY wZ 0) jD:=bA fun s e s' h=>by
 generalize hs:restrict jD.kp s=s1 at h
 have h:(GQ s1).run some=some (e,s'):=h
 obtain ⟨z2,d3,e1,h_0⟩:=adW h
 obtain ⟨z6,d5,e4,h_1⟩:=aF h_0
 obtain ⟨e7,h_2⟩:=bf h_1
 obtain ⟨d9,e8,h_3⟩:=ak h_2
 obtain ⟨m11,d12,e10,h_4⟩:=aH h_3
 obtain ⟨rfl,h_5⟩:=aQ h_4
 obtain ⟨y,hy,hz⟩:=bT h_5
 refine ⟨_,_,wm z2 z6 d3 d5,uf z2 z6 d3 d5,jv d3 d5,(d9,d12),y,?_,hy,?_,Qo z2 z6 d3 d5⟩
 ·subst hs;exact aT (T:=[(0,(.iptr z2 (.sl aV) ([d3]) [.idx 0])),(1,(.imm z6 (.sl (.int .i64)) d5)),(5,(.ref (7,0) [])),(6,(.imm true (.int .i64) d9))]) (U:=[((7,0),some ⟨false,(.sl (.int .i64)),.own,d12⟩)]) rfl rfl ⟨e1,e4,e7,e8,trivial⟩ ⟨e10,trivial⟩
 ·exact Option.some.inj hz
noncomputable def OM:FnI:=⟨wZ,Tryz.f39.results.toList,Tryz.f39.resultTypes.toList,wX⟩
noncomputable def Kq (_zp0:Bool) (_zp1:Bool) (_p0:aK) (_p1:(List Int)):(List Int)→aB:=fun r=>⟨(.ref (1,0) []),[],[⟨false,(.sl (.int .i64)),.own,r⟩]⟩
theorem abG:∀ (zp0:Bool) (zp1:Bool) (p0:aK) (p1:(List Int)),bQ qB OM ⟨[(.iptr zp0 (.sl aV) ([p0]) [.idx 0]),(.imm zp1 (.sl (.int .i64)) p1)],[]⟩=(Ko p0 p1).run fun r=>some (Kq zp0 zp1 p0 p1 r):=fun _ _ _ _=>by kernel_rfl
noncomputable def OL (av:List AV) (rs:List Root):Tre aB :=
 aJ av fun a0_ av0 =>
 aJ av0 fun a1_ av1 =>
 aU av1 <|
 aU rs <|
 alD aV a0_ fun z1 d2 =>
 bH (.sl (.int .i64)) a1_ fun z4 d3 =>
 .mat (wY d2 d3) fun r=>.ret (Kq z1 z4 d2 d3 r)
noncomputable def OO:Ctr:=⟨[0],fun ci=>OL ci.args ci.roots,false⟩
theorem Zh:bP Tryz.prog .none qB:=(aA akd azt aP)
theorem abH:Contract Tryz.prog .none 39 OO:=by
 have hl:aZ qB wX wZ:=(bC (n:=1) (by kernel_rfl) fun k hk=>by
   match k,hk with
   |0,_=>exact bq (id:=3) (L:=jD) (by kernel_rfl) (by kernel_rfl) Vz)
 refine (aI (F:=OM) bn Zh Tryz.func39 (by kernel_rfl) (by kernel_rfl) (by kernel_rfl) hl [0]).weaken ?_
 rintro ⟨av,rs⟩ co h
 have h:(OL av rs).run some=some co:=h
 obtain ⟨a0_,av0,rfl,h_0⟩:=au h
 obtain ⟨a1_,av1,rfl,h_1⟩:=au h_0
 obtain ⟨rfl,h_2⟩:=ay h_1
 obtain ⟨rfl,h_3⟩:=ay h_2
 obtain ⟨z1,d2,rfl,h_4⟩:=adW h_3
 obtain ⟨z4,d3,rfl,h_5⟩:=aF h_4
 exact bK (abG z1 z4 d2 d3) h_5
noncomputable def vW (h3_0_0:(List Int)) (h3_0_1:(List Int)) (h3_0_2:Int) (h3_0_4:(Int×(Int×Unit))):(Int×(List Int))→Tre ((Int×(List Int)) ⊕ (List Int)):=fun s3 =>
 .cond (decide (s3.1 < (h3_0_0.length:Int)))
  (.ite (0≤s3.1∧s3.1 < (h3_0_0.length:Int)) <|
  .mat (h3_0_0[s3.1.toNat]?) fun x1 =>
  .ite (0≤s3.1∧s3.1 < (h3_0_1.length:Int)) <|
  .mat (h3_0_1[s3.1.toNat]?) fun x2 =>
  .mat (dH h3_0_4 x2 h3_0_2) fun r3 =>
  .ite ((s3.2.length+1) * 8≤bM∧1≤8) <|
  let v4:=s3.2++([jI .i64 x1 r3])
  .ret (.inl (aO .i64 (s3.1+1),v4)))
  (.ret (.inr s3.2))
noncomputable def aiS (p0:(Int×(Int×Unit))) (p1:(List Int)) (p2:(List Int)) (p3:Int):Tre (List Int) :=
 .mat (aR (vW p1 p2 p3 p0) (0,[])) fun l5 =>
 .ret l5
noncomputable def Qh (p0:(Int×(Int×Unit))) (p1:(List Int)) (p2:(List Int)) (p3:Int):Option (List Int):=(aiS p0 p1 p2 p3).run some
-- more
noncomputable def J9:Env:=⟨tau,[(68,vQ)],[]⟩
noncomputable def Qi:Code:=(Tryz.f38.body).getD .skip
noncomputable def Ka (z3_0:Bool) (z3_1:Bool) (h3_0_0:(List Int)) (h3_0_1:(List Int)) (h3_0_2:Int) (h3_0_4:(Int×(Int×Unit))):(Int×(List Int))→St:=fun x=>bR [(1,(.imm z3_0 (.sl (.int .i64)) h3_0_0)),(2,(.imm z3_1 (.sl (.int .i64)) h3_0_1)),(3,(.imm true (.int .i64) h3_0_2)),(4,(.ptr (6,0) [])),(9,(.ref (11,0) [])),(10,(.imm true (.int .i64) x.1))] [((6,0),some ⟨true,aM,.own,h3_0_4⟩),((11,0),some ⟨false,(.sl (.int .i64)),.own,x.2⟩)]
noncomputable def F4 (_z3_0:Bool) (_z3_1:Bool) (_h3_0_0:(List Int)) (_h3_0_1:(List Int)) (_h3_0_2:Int) (_h3_0_4:(Int×(Int×Unit))):(List Int)→Ex×St:=fun x=>(.exit 0,bR [(9,(.ref (11,0) []))] [((11,0),some ⟨false,(.sl (.int .i64)),.own,x⟩)])
noncomputable def X3 (s:St):Tre (Ex×St) :=
 bH (.sl (.int .i64)) (s.tmps 1) fun z3 d2 =>
 bH (.sl (.int .i64)) (s.tmps 2) fun z6 d5 =>
 aC true (.int .i64) (s.tmps 3) fun d8 =>
 dW (6,0) [] (s.tmps 4) <|
 dz (11,0) [] (s.tmps 9) <|
 aC true (.int .i64) (s.tmps 10) fun d12 =>
 bD true aM (s.roots (6,0)) fun m14 d15 =>
 asM .own m14 <|
 bD false (.sl (.int .i64)) (s.roots (11,0)) fun m17 d18 =>
 asM .own m17 <|
 .mat (aR (vW d2 d5 d8 d15) (d12,d18)) fun x=>.ret (F4 z3 z6 d2 d5 d8 d15 x)
noncomputable def sZ:bJ:=⟨([1,2,3,4,9,10],[(6,0),(11,0)]),([9],[(11,0)]),X3⟩
noncomputable def Qg:List (Nat×bJ):=[(3,sZ)]
theorem adD:∀ (z3_0:Bool) (z3_1:Bool) (h3_0_0:(List Int)) (h3_0_1:(List Int)) (h3_0_2:Int) (h3_0_4:(Int×(Int×Unit))) (x:(Int×(List Int))) (c:St→Option (Ex×St)),den J9 Qg (aY Qi 0) (Ka z3_0 z3_1 h3_0_0 h3_0_1 h3_0_2 h3_0_4 x) (bV sZ.kp sZ.kx c)=(vW h3_0_0 h3_0_1 h3_0_2 h3_0_4 x).run (bW (Ka z3_0 z3_1 h3_0_0 h3_0_1 h3_0_2 h3_0_4) (F4 z3_0 z3_1 h3_0_0 h3_0_1 h3_0_2 h3_0_4) c):=fun _ _ _ _ _ _ _ _=>by
 kernel_rfl
theorem aiW:bS J9 Qg (aY Qi 0) sZ:=bA fun s e s' h=>by
 generalize hs:restrict sZ.kp s=s1 at h
 have h:(X3 s1).run some=some (e,s'):=h
 obtain ⟨z3,d2,e1,h_0⟩:=aF h
 obtain ⟨z6,d5,e4,h_1⟩:=aF h_0
 obtain ⟨d8,e7,h_2⟩:=ak h_1
 obtain ⟨e9,h_3⟩:=bI h_2
 obtain ⟨e10,h_4⟩:=bf h_3
 obtain ⟨d12,e11,h_5⟩:=ak h_4
 obtain ⟨m14,d15,e13,h_6⟩:=aH h_5
 obtain ⟨rfl,h_7⟩:=aQ h_6
 obtain ⟨m17,d18,e16,h_8⟩:=aH h_7
 obtain ⟨rfl,h_9⟩:=aQ h_8
 obtain ⟨y,hy,hz⟩:=bT h_9
 refine ⟨_,_,Ka z3 z6 d2 d5 d8 d15,F4 z3 z6 d2 d5 d8 d15,vW d2 d5 d8 d15,(d12,d18),y,?_,hy,?_,adD z3 z6 d2 d5 d8 d15⟩
 ·subst hs;exact aT (T:=[(1,(.imm z3 (.sl (.int .i64)) d2)),(2,(.imm z6 (.sl (.int .i64)) d5)),(3,(.imm true (.int .i64) d8)),(4,(.ptr (6,0) [])),(9,(.ref (11,0) [])),(10,(.imm true (.int .i64) d12))]) (U:=[((6,0),some ⟨true,aM,.own,d15⟩),((11,0),some ⟨false,(.sl (.int .i64)),.own,d18⟩)]) rfl rfl ⟨e1,e4,e7,e9,e10,e11,trivial⟩ ⟨e13,e16,trivial⟩
 ·exact Option.some.inj hz
noncomputable def aiU:FnI:=⟨Qi,Tryz.f38.results.toList,Tryz.f38.resultTypes.toList,Qg⟩
noncomputable def abq (_zp0:Bool) (_zp1:Bool) (_p0:(Int×(Int×Unit))) (_p1:(List Int)) (_p2:(List Int)) (_p3:Int):(List Int)→aB:=fun r=>⟨(.ref (1,0) []),[],[⟨false,(.sl (.int .i64)),.own,r⟩]⟩
theorem ao3:∀ (zp0:Bool) (zp1:Bool) (p0:(Int×(Int×Unit))) (p1:(List Int)) (p2:(List Int)) (p3:Int),bQ J9 aiU ⟨[(.imm true aM p0),(.imm zp0 (.sl (.int .i64)) p1),(.imm zp1 (.sl (.int .i64)) p2),(.imm true (.int .i64) p3)],[]⟩=(aiS p0 p1 p2 p3).run fun r=>some (abq zp0 zp1 p0 p1 p2 p3 r):=fun _ _ _ _ _ _=>by kernel_rfl
noncomputable def aiT (av:List AV) (rs:List Root):Tre aB :=
 aJ av fun a0_ av0 =>
 aJ av0 fun a1_ av1 =>
 aJ av1 fun a2_ av2 =>
 aJ av2 fun a3_ av3 =>
 aU av3 <|
 aU rs <|
 aC true aM a0_ fun d1 =>
 bH (.sl (.int .i64)) a1_ fun z3 d2 =>
 bH (.sl (.int .i64)) a2_ fun z5 d4 =>
 aC true (.int .i64) a3_ fun d6 =>
 .mat (Qh d1 d2 d4 d6) fun r=>.ret (abq z3 z5 d1 d2 d4 d6 r)
noncomputable def aiV:Ctr:=⟨[],fun ci=>aiT ci.args ci.roots,false⟩
theorem amR:bP Tryz.prog .none J9:=(aA vR ag2 aP)
theorem ao4:Contract Tryz.prog .none 38 aiV:=by
 have hl:aZ J9 Qg Qi:=(bC (n:=1) (by kernel_rfl) fun k hk=>by
   match k,hk with
   |0,_=>exact bq (id:=3) (L:=sZ) (by kernel_rfl) (by kernel_rfl) aiW)
 refine (aI (F:=aiU) bn amR Tryz.func38 (by kernel_rfl) (by kernel_rfl) (by kernel_rfl) hl []).weaken ?_
 rintro ⟨av,rs⟩ co h
 have h:(aiT av rs).run some=some co:=h
 obtain ⟨a0_,av0,rfl,h_0⟩:=au h
 obtain ⟨a1_,av1,rfl,h_1⟩:=au h_0
 obtain ⟨a2_,av2,rfl,h_2⟩:=au h_1
 obtain ⟨a3_,av3,rfl,h_3⟩:=au h_2
 obtain ⟨rfl,h_4⟩:=ay h_3
 obtain ⟨rfl,h_5⟩:=ay h_4
 obtain ⟨d1,rfl,h_6⟩:=ak h_5
 obtain ⟨z3,d2,rfl,h_7⟩:=aF h_6
 obtain ⟨z5,d4,rfl,h_8⟩:=aF h_7
 obtain ⟨d6,rfl,h_9⟩:=ak h_8
 exact bK (ao3 z3 z5 d1 d2 d4 d6) h_9
noncomputable def Y9 (p0:(Int×(Int×Unit))) (p1:(List Int)) (p2:(List Int)):Tre Int :=
 .mat (Qh p0 p1 p2 1) fun r1 =>
 .mat (ak7 p0.1 r1) fun r2 =>
 .ret r2
noncomputable def H7 (p0:(Int×(Int×Unit))) (p1:(List Int)) (p2:(List Int)):Option Int:=(Y9 p0 p1 p2).run some
-- more
theorem ayY {f:TF3} (hf:aN f=true) {pts w m:List Nat} (hw:inL (FOf f hf) w) (hl:w.length=pts.length) (hwl:w.length≤1000):Qh f (aS (pts.map ((FOf f hf).lp m))) (aS w) 1=some (aS ((FOf f hf).Am pts w m)):=by
 have hel:=(FOf f hf).Nn (m:=m) hl
 unfold Qh aiS
 rw [ah (show aR (vW (aS (pts.map ((FOf f hf).lp m))) (aS w) 1 f) (0,[])=some (aS ((FOf f hf).Am pts w m)) from ?_),Tre.aL]
 refine cZ (fun i=>((i:Int),aS (((FOf f hf).Am pts w m).take i))) w.length _ (fun i hi=>?_) ?_
 ·have hwi:=eT hi
  have hpi:=eT (show i < pts.length by omega)
  have hei:((FOf f hf).Am pts w m)[i]?=some (cf w i ^^^ (FOf f hf).lp m (cf pts i)):=by
   unfold FO.Am
   rw [List.getElem?_map,List.getElem?_zip_eq_some.2 (show pts[i]?=some (cf pts i,cf w i).1∧w[i]?=some (cf pts i,cf w i).2 from ⟨hpi,hwi⟩)]
   rfl
  have hci:(pts.map ((FOf f hf).lp m))[i]?=some ((FOf f hf).lp m (cf pts i)):=by rw [List.getElem?_map,hpi];rfl
  have h1:dH f (cf w i:Int) 1=some (cf w i:Int):=by
   have:=ai4 hf (pq hw i) (FOf f hf).hq
   rw [FO.one _ _ (pq hw i)] at this
   exact this
  unfold vW
  dsimp only
  rw [eu (dG hci),dB (dG hwi),ah h1,Tre.run_ite,if_pos (by rw [aW,List.length_take];unfold bM;omega),Tre.aL,aX (by omega),Zl hf ((FOf f hf).aom _ _) (pq hw i),Nat.xor_comm,List.take_add_one,hei,Option.toList_some,vE]
  rfl
 ·unfold vW
  dsimp only
  rw [Tre.aG,decide_eq_false (by rw [aW,List.length_map];omega),cond_false,Tre.aL,List.take_of_length_le (by omega)]
theorem asY {f:TF3} (hf:aN f=true) {pts w m:List Nat} (hw:inL (FOf f hf) w) (hl:w.length=pts.length) (hwl:w.length≤1000):H7 f (aS (pts.map ((FOf f hf).lp m))) (aS w)=some (rkN ((FOf f hf).Am pts w m):Int):=by
 have hd:=nL hf
 have hel:=(FOf f hf).Nn (m:=m) hl
 unfold H7 Y9
 rw [ah (ayY hf hw hl hwl),ah (show ak7 f.1 (aS ((FOf f hf).Am pts w m))=some _ from o9 (by rw [Bool.and_eq_true];exact ⟨kP.2 (by omega),al4 hf ((FOf f hf).agn hw) (by omega) (Nat.le_refl _)⟩)),Tre.aL,au2]
noncomputable def Qj:Env:=⟨tau,[(38,aiV),(85,U5)],[]⟩
noncomputable def abu:Code:=(Tryz.f58.body).getD .skip
noncomputable def abt:FnI:=⟨abu,Tryz.f58.results.toList,Tryz.f58.resultTypes.toList,[]⟩
noncomputable def Vj (_zp0:Bool) (_zp1:Bool) (_p0:(Int×(Int×Unit))) (_p1:(List Int)) (_p2:(List Int)):Int→aB:=fun r=>⟨(.imm true (.int .i64) r),[],[]⟩
theorem aj5:∀ (zp0:Bool) (zp1:Bool) (p0:(Int×(Int×Unit))) (p1:(List Int)) (p2:(List Int)),bQ Qj abt ⟨[(.imm true aM p0),(.imm zp0 (.sl (.int .i64)) p1),(.imm zp1 (.sl (.int .i64)) p2)],[]⟩=(Y9 p0 p1 p2).run fun r=>some (Vj zp0 zp1 p0 p1 p2 r):=fun _ _ _ _ _=>by kernel_rfl
noncomputable def abr (av:List AV) (rs:List Root):Tre aB :=
 aJ av fun a0_ av0 =>
 aJ av0 fun a1_ av1 =>
 aJ av1 fun a2_ av2 =>
 aU av2 <|
 aU rs <|
 aC true aM a0_ fun d1 =>
 bH (.sl (.int .i64)) a1_ fun z3 d2 =>
 bH (.sl (.int .i64)) a2_ fun z5 d4 =>
 .mat (H7 d1 d2 d4) fun r=>.ret (Vj z3 z5 d1 d2 d4 r)
noncomputable def abv:Ctr:=⟨[],fun ci=>abr ci.args ci.roots,false⟩
theorem aiX:bP Tryz.prog .none Qj:=(aA ao4 axp (aA abh axw aP))
theorem aj6:Contract Tryz.prog .none 58 abv:=by
 have hl:aZ Qj [] abu:=bB (by kernel_rfl)
 refine (aI (F:=abt) bn aiX Tryz.func58 (by kernel_rfl) (by kernel_rfl) (by kernel_rfl) hl []).weaken ?_
 rintro ⟨av,rs⟩ co h
 have h:(abr av rs).run some=some co:=h
 obtain ⟨a0_,av0,rfl,h_0⟩:=au h
 obtain ⟨a1_,av1,rfl,h_1⟩:=au h_0
 obtain ⟨a2_,av2,rfl,h_2⟩:=au h_1
 obtain ⟨rfl,h_3⟩:=ay h_2
 obtain ⟨rfl,h_4⟩:=ay h_3
 obtain ⟨d1,rfl,h_5⟩:=ak h_4
 obtain ⟨z3,d2,rfl,h_6⟩:=aF h_5
 obtain ⟨z5,d4,rfl,h_7⟩:=aF h_6
 exact bK (aj5 z3 z5 d1 d2 d4) h_7
noncomputable def Z4 (p0:(List Int)):Tre Int :=
 .ret (p0.length:Int)
noncomputable def ahv (p0:(List Int)):Option Int:=(Z4 p0).run some
theorem Z6 (p0:(List Int)):ahv p0=some (p0.length:Int):=rfl
noncomputable def JC:Env:=⟨tau,[],[]⟩
noncomputable def TP:Code:=(Tryz.f45.body).getD .skip
noncomputable def TN:FnI:=⟨TP,Tryz.f45.results.toList,Tryz.f45.resultTypes.toList,[]⟩
noncomputable def NZ (_zp0:Bool) (_p0:(List Int)):Int→aB:=fun r=>⟨(.imm true (.int .i64) r),[],[]⟩
theorem afI:∀ (zp0:Bool) (p0:(List Int)),bQ JC TN ⟨[(.imm zp0 (.sl (.int .i64)) p0)],[]⟩=(Z4 p0).run fun r=>some (NZ zp0 p0 r):=fun _ _=>by kernel_rfl
noncomputable def TM (av:List AV) (rs:List Root):Tre aB :=
 aJ av fun a0_ av0 =>
 aU av0 <|
 aU rs <|
 bH (.sl (.int .i64)) a0_ fun z2 d1 =>
 .ret (NZ z2 d1 (d1.length:Int))
noncomputable def pW:Ctr:=⟨[],fun ci=>TM ci.args ci.roots,false⟩
theorem acF:bP Tryz.prog .none JC:=aP
theorem rW:Contract Tryz.prog .none 45 pW:=by
 have hl:aZ JC [] TP:=bB (by kernel_rfl)
 refine (aI (F:=TN) bn acF Tryz.func45 (by kernel_rfl) (by kernel_rfl) (by kernel_rfl) hl []).weaken ?_
 rintro ⟨av,rs⟩ co h
 have h:(TM av rs).run some=some co:=h
 obtain ⟨a0_,av0,rfl,h_0⟩:=au h
 obtain ⟨rfl,h_1⟩:=ay h_0
 obtain ⟨rfl,h_2⟩:=ay h_1
 obtain ⟨z2,d1,rfl,h_3⟩:=aF h_2
 exact wE (afI z2 d1) (Z6 d1) h_3
noncomputable def I8 (p0:aK):Tre Int :=
 let v1:=aO .i64 ((p0.2.1.length:Int) - p0.2.2.1)
 let v2:=aO .i64 (Int.tdiv v1 2)
 .ret v2
noncomputable def Tn (p0:aK):Option Int:=(I8 p0).run some
def dU (p0:aK):Int :=
 let v1:=aO .i64 ((p0.2.1.length:Int) - p0.2.2.1)
 let v2:=aO .i64 (Int.tdiv v1 2)
 v2
theorem NS (p0:aK):Tn p0=some (dU p0):=rfl
noncomputable def vg:Env:=⟨tau,[(45,pW)],[]⟩
noncomputable def Er:Code:=(Tryz.f61.body).getD .skip
noncomputable def Ep:FnI:=⟨Er,Tryz.f61.results.toList,Tryz.f61.resultTypes.toList,[]⟩
noncomputable def Az (_zp0:Bool) (_p0:aK):Int→aB:=fun r=>⟨(.imm true (.int .i64) r),[],[]⟩
theorem R4:∀ (zp0:Bool) (p0:aK),bQ vg Ep ⟨[(.imm zp0 aV p0)],[]⟩=(I8 p0).run fun r=>some (Az zp0 p0 r):=fun _ _=>by kernel_rfl
noncomputable def Eo (av:List AV) (rs:List Root):Tre aB :=
 aJ av fun a0_ av0 =>
 aU av0 <|
 aU rs <|
 bH aV a0_ fun z2 d1 =>
 .ret (Az z2 d1 (dU d1))
noncomputable def Es:Ctr:=⟨[],fun ci=>Eo ci.args ci.roots,false⟩
theorem Pm:bP Tryz.prog .none vg:=(aA rW anK aP)
theorem R5:Contract Tryz.prog .none 61 Es:=by
 have hl:aZ vg [] Er:=bB (by kernel_rfl)
 refine (aI (F:=Ep) bn Pm Tryz.func61 (by kernel_rfl) (by kernel_rfl) (by kernel_rfl) hl []).weaken ?_
 rintro ⟨av,rs⟩ co h
 have h:(Eo av rs).run some=some co:=h
 obtain ⟨a0_,av0,rfl,h_0⟩:=au h
 obtain ⟨rfl,h_1⟩:=ay h_0
 obtain ⟨rfl,h_2⟩:=ay h_1
 obtain ⟨z2,d1,rfl,h_3⟩:=aF h_2
 exact wE (R4 z2 d1) (NS d1) h_3
noncomputable def CP:(List Int)→Tre ((List Int) ⊕ (List Int)):=fun s1 =>
 .cond (decide ((s1.length:Int) > 0))
  (let v1:=aO .i64 ((s1.length:Int) - 1)
  .ite (0≤v1∧v1 < (s1.length:Int)) <|
  .mat (s1[v1.toNat]?) fun x2 =>
  .cond (decide (x2=0))
   (.ite (0≤(0:Int)∧(0:Int)≤v1∧v1≤(s1.length:Int)) <|
   let v3:=(s1.drop 0).take (v1 - 0).toNat
   .ret (.inl v3))
   (.ret (.inr s1)))
  (.ret (.inr s1))
noncomputable def ap8 (p0:(List Int)):Tre (List Int) :=
 .mat (aR CP p0) fun l4 =>
 .ret l4
noncomputable def TS (p0:(List Int)):Option (List Int):=(ap8 p0).run some
-- more
theorem ahJ {l:List Nat} {n:Nat} (hn:0 < n) (hl:n≤l.length) (hl2:l.length≤1000):(CP (aS (l.take n))).run some=some (if cf l (n - 1)=0 then .inl (aS (l.take (n - 1))) else .inr (aS (l.take n))):=by
 have hlen:(aS (l.take n)).length=n:=by rw [aW,List.length_take];omega
 have hx:(aS (l.take n))[n - 1]?=some (cf l (n - 1):Int):=by
  refine dG ?_
  rw [List.getElem?_take_of_lt (by omega)];exact eT (by omega)
 have hm:aO .i64 (((aS (l.take n)).length:Int) - 1)=((n - 1:Nat):Int):=by rw [hlen,gM (by omega) (by omega)]
 unfold CP
 dsimp only
 rw [Tre.aG,decide_eq_true (by omega),cond_true]
 rw [hm,dB hx,Tre.aG]
 by_cases h0:cf l (n - 1)=0
 ·rw [if_pos h0,decide_eq_true (by omega),cond_true,Tre.run_ite,if_pos (by omega),Tre.aL]
  have he:(((n - 1:Nat):Int) - 0).toNat=n - 1:=by omega
  rw [he,List.drop_zero,← VP,List.take_take,Nat.min_eq_left (by omega)]
 ·rw [if_neg h0,decide_eq_false (by omega),cond_false,Tre.aL]
theorem aoc {l:List Nat} (hl2:l.length≤1000):TS (aS l)=some (aS (bY l)):=by
 have htl:=lg l
 unfold TS ap8
 rw [ah (show aR CP (aS l)=some (aS (bY l)) from ?_),Tre.aL]
 have h0:aS l=aS (l.take (l.length - 0)):=by rw [Nat.sub_zero,List.take_length]
 rw [h0]
 refine cZ (fun i=>aS (l.take (l.length - i))) (l.length - (bY l).length) _ (fun i hi=>?_) ?_
 ·rw [ahJ (by omega) (by omega) hl2,if_pos (Ip (by omega)),Nat.sub_sub]
 ·rw [show l.length - (l.length - (bY l).length)=(bY l).length by omega]
  by_cases hz:(bY l).length=0
  ·have:bY l=[]:=List.length_eq_zero_iff.1 hz
   rw [hz,List.take_zero,this]
   rfl
  ·rw [ahJ (by omega) htl hl2,if_neg ((OT l).resolve_left hz),abQ]
noncomputable def TT:Env:=⟨tau,[],[]⟩
noncomputable def Z9:Code:=(Tryz.f48.body).getD .skip
noncomputable def Pz (z1_0:Bool):(List Int)→St:=fun x=>bR [(0,(.imm z1_0 (.sl (.int .i64)) x))] []
noncomputable def MU (z1_0:Bool):(List Int)→Ex×St:=fun x=>(.exit 0,bR [(0,(.imm z1_0 (.sl (.int .i64)) x))] [])
noncomputable def aeh (s:St):Tre (Ex×St) :=
 bH (.sl (.int .i64)) (s.tmps 0) fun z3 d2 =>
 .mat (aR CP d2) fun x=>.ret (MU z3 x)
noncomputable def zY:bJ:=⟨([0],[]),([0],[]),aeh⟩
noncomputable def Z8:List (Nat×bJ):=[(1,zY)]
theorem ahx:∀ (z1_0:Bool) (x:(List Int)) (c:St→Option (Ex×St)),den TT Z8 (aY Z9 0) (Pz z1_0 x) (bV zY.kp zY.kx c)=(CP x).run (bW (Pz z1_0) (MU z1_0) c):=fun _ _ _=>by
 kernel_rfl
theorem alX:bS TT Z8 (aY Z9 0) zY:=bA fun s e s' h=>by
 generalize hs:restrict zY.kp s=s1 at h
 have h:(aeh s1).run some=some (e,s'):=h
 obtain ⟨z3,d2,e1,h_0⟩:=aF h
 obtain ⟨y,hy,hz⟩:=bT h_0
 refine ⟨_,_,Pz z3,MU z3,CP,d2,y,?_,hy,?_,ahx z3⟩
 ·subst hs;exact aT (T:=[(0,(.imm z3 (.sl (.int .i64)) d2))]) (U:=[]) rfl rfl ⟨e1,trivial⟩ trivial
 ·exact Option.some.inj hz
noncomputable def an3:FnI:=⟨Z9,Tryz.f48.results.toList,Tryz.f48.resultTypes.toList,Z8⟩
noncomputable def ahy (zp0:Bool) (_p0:(List Int)):(List Int)→aB:=fun r=>⟨(.imm zp0 (.sl (.int .i64)) r),[],[]⟩
theorem asv:∀ (zp0:Bool) (p0:(List Int)),bQ TT an3 ⟨[(.imm zp0 (.sl (.int .i64)) p0)],[]⟩=(ap8 p0).run fun r=>some (ahy zp0 p0 r):=fun _ _=>by kernel_rfl
noncomputable def an2 (av:List AV) (rs:List Root):Tre aB :=
 aJ av fun a0_ av0 =>
 aU av0 <|
 aU rs <|
 bH (.sl (.int .i64)) a0_ fun z2 d1 =>
 .mat (TS d1) fun r=>.ret (ahy z2 d1 r)
noncomputable def an4:Ctr:=⟨[0],fun ci=>an2 ci.args ci.roots,false⟩
theorem ap9:bP Tryz.prog .none TT:=aP
theorem asw:Contract Tryz.prog .none 48 an4:=by
 have hl:aZ TT Z8 Z9:=(bC (n:=1) (by kernel_rfl) fun k hk=>by
   match k,hk with
   |0,_=>exact bq (id:=1) (L:=zY) (by kernel_rfl) (by kernel_rfl) alX)
 refine (aI (F:=an3) bn ap9 Tryz.func48 (by kernel_rfl) (by kernel_rfl) (by kernel_rfl) hl [0]).weaken ?_
 rintro ⟨av,rs⟩ co h
 have h:(an2 av rs).run some=some co:=h
 obtain ⟨a0_,av0,rfl,h_0⟩:=au h
 obtain ⟨rfl,h_1⟩:=ay h_0
 obtain ⟨rfl,h_2⟩:=ay h_1
 obtain ⟨z2,d1,rfl,h_3⟩:=aF h_2
 exact bK (asv z2 d1) h_3
noncomputable def jo (h3_0_0:(List Int)) (h3_0_1:(List Int)) (h3_0_2:Int) (h3_0_4:(Int×(Int×Unit))):(Int×(List Int))→Tre ((Int×(List Int)) ⊕ (List Int)):=fun s3 =>
 .cond (decide (s3.1 < h3_0_2))
  (.ite (0≤s3.1∧s3.1 < (h3_0_1.length:Int)) <|
  .mat (h3_0_1[s3.1.toNat]?) fun x1 =>
  .mat (yQ h3_0_4 h3_0_0 x1) fun r2 =>
  .ite ((s3.2.length+1) * 8≤bM∧1≤8) <|
  .ret (.inl (aO .i64 (s3.1+1),s3.2++([r2]))))
  (.ret (.inr s3.2))
noncomputable def IU (p0:(Int×(Int×Unit))) (p1:(List Int)) (p2:(List Int)):Tre (List Int) :=
 .mat (aR (jo p1 p2 (p2.length:Int) p0) (0,[])) fun l3 =>
 .ret l3
noncomputable def wN (p0:(Int×(Int×Unit))) (p1:(List Int)) (p2:(List Int)):Option (List Int):=(IU p0 p1 p2).run some
noncomputable def pJ:Env:=⟨tau,[(69,QL)],[]⟩
noncomputable def wO:Code:=(Tryz.f46.body).getD .skip
noncomputable def uZ (z3_0:Bool) (z3_1:Bool) (h3_0_0:(List Int)) (h3_0_1:(List Int)) (h3_0_2:Int) (h3_0_4:(Int×(Int×Unit))):(Int×(List Int))→St:=fun x=>bR [(1,(.imm z3_0 (.sl (.int .i64)) h3_0_0)),(3,(.ptr (5,0) [])),(7,(.ref (9,0) [])),(11,(.imm z3_1 (.sl (.int .i64)) h3_0_1)),(12,(.imm true (.int .i64) h3_0_2)),(13,(.imm true (.int .i64) x.1))] [((5,0),some ⟨true,aM,.own,h3_0_4⟩),((9,0),some ⟨false,(.sl (.int .i64)),.own,x.2⟩)]
noncomputable def tT (_z3_0:Bool) (_z3_1:Bool) (_h3_0_0:(List Int)) (_h3_0_1:(List Int)) (_h3_0_2:Int) (_h3_0_4:(Int×(Int×Unit))):(List Int)→Ex×St:=fun x=>(.exit 0,bR [(7,(.ref (9,0) []))] [((9,0),some ⟨false,(.sl (.int .i64)),.own,x⟩)])
noncomputable def Gt (s:St):Tre (Ex×St) :=
 bH (.sl (.int .i64)) (s.tmps 1) fun z3 d2 =>
 dW (5,0) [] (s.tmps 3) <|
 dz (9,0) [] (s.tmps 7) <|
 bH (.sl (.int .i64)) (s.tmps 11) fun z8 d7 =>
 aC true (.int .i64) (s.tmps 12) fun d10 =>
 aC true (.int .i64) (s.tmps 13) fun d12 =>
 bD true aM (s.roots (5,0)) fun m14 d15 =>
 asM .own m14 <|
 bD false (.sl (.int .i64)) (s.roots (9,0)) fun m17 d18 =>
 asM .own m17 <|
 .mat (aR (jo d2 d7 d10 d15) (d12,d18)) fun x=>.ret (tT z3 z8 d2 d7 d10 d15 x)
noncomputable def jC:bJ:=⟨([1,3,7,11,12,13],[(5,0),(9,0)]),([7],[(9,0)]),Gt⟩
noncomputable def wM:List (Nat×bJ):=[(3,jC)]
theorem Ph:∀ (z3_0:Bool) (z3_1:Bool) (h3_0_0:(List Int)) (h3_0_1:(List Int)) (h3_0_2:Int) (h3_0_4:(Int×(Int×Unit))) (x:(Int×(List Int))) (c:St→Option (Ex×St)),den pJ wM (aY wO 0) (uZ z3_0 z3_1 h3_0_0 h3_0_1 h3_0_2 h3_0_4 x) (bV jC.kp jC.kx c)=(jo h3_0_0 h3_0_1 h3_0_2 h3_0_4 x).run (bW (uZ z3_0 z3_1 h3_0_0 h3_0_1 h3_0_2 h3_0_4) (tT z3_0 z3_1 h3_0_0 h3_0_1 h3_0_2 h3_0_4) c):=fun _ _ _ _ _ _ _ _=>by
 kernel_rfl
theorem Tk:bS pJ wM (aY wO 0) jC:=bA fun s e s' h=>by
 generalize hs:restrict jC.kp s=s1 at h
 have h:(Gt s1).run some=some (e,s'):=h
 obtain ⟨z3,d2,e1,h_0⟩:=aF h
 obtain ⟨e4,h_1⟩:=bI h_0
 obtain ⟨e5,h_2⟩:=bf h_1
 obtain ⟨z8,d7,e6,h_3⟩:=aF h_2
 obtain ⟨d10,e9,h_4⟩:=ak h_3
 obtain ⟨d12,e11,h_5⟩:=ak h_4
 obtain ⟨m14,d15,e13,h_6⟩:=aH h_5
 obtain ⟨rfl,h_7⟩:=aQ h_6
 obtain ⟨m17,d18,e16,h_8⟩:=aH h_7
 obtain ⟨rfl,h_9⟩:=aQ h_8
 obtain ⟨y,hy,hz⟩:=bT h_9
 refine ⟨_,_,uZ z3 z8 d2 d7 d10 d15,tT z3 z8 d2 d7 d10 d15,jo d2 d7 d10 d15,(d12,d18),y,?_,hy,?_,Ph z3 z8 d2 d7 d10 d15⟩
 ·subst hs;exact aT (T:=[(1,(.imm z3 (.sl (.int .i64)) d2)),(3,(.ptr (5,0) [])),(7,(.ref (9,0) [])),(11,(.imm z8 (.sl (.int .i64)) d7)),(12,(.imm true (.int .i64) d10)),(13,(.imm true (.int .i64) d12))]) (U:=[((5,0),some ⟨true,aM,.own,d15⟩),((9,0),some ⟨false,(.sl (.int .i64)),.own,d18⟩)]) rfl rfl ⟨e1,e4,e5,e6,e9,e11,trivial⟩ ⟨e13,e16,trivial⟩
 ·exact Option.some.inj hz
noncomputable def NQ:FnI:=⟨wO,Tryz.f46.results.toList,Tryz.f46.resultTypes.toList,wM⟩
noncomputable def IV (_zp0:Bool) (_zp1:Bool) (_p0:(Int×(Int×Unit))) (_p1:(List Int)) (_p2:(List Int)):(List Int)→aB:=fun r=>⟨(.ref (1,0) []),[],[⟨false,(.sl (.int .i64)),.own,r⟩]⟩
theorem ZN:∀ (zp0:Bool) (zp1:Bool) (p0:(Int×(Int×Unit))) (p1:(List Int)) (p2:(List Int)),bQ pJ NQ ⟨[(.imm true aM p0),(.imm zp0 (.sl (.int .i64)) p1),(.imm zp1 (.sl (.int .i64)) p2)],[]⟩=(IU p0 p1 p2).run fun r=>some (IV zp0 zp1 p0 p1 p2 r):=fun _ _ _ _ _=>by kernel_rfl
noncomputable def NP (av:List AV) (rs:List Root):Tre aB :=
 aJ av fun a0_ av0 =>
 aJ av0 fun a1_ av1 =>
 aJ av1 fun a2_ av2 =>
 aU av2 <|
 aU rs <|
 aC true aM a0_ fun d1 =>
 bH (.sl (.int .i64)) a1_ fun z3 d2 =>
 bH (.sl (.int .i64)) a2_ fun z5 d4 =>
 .mat (wN d1 d2 d4) fun r=>.ret (IV z3 z5 d1 d2 d4 r)
noncomputable def NR:Ctr:=⟨[],fun ci=>NP ci.args ci.roots,false⟩
theorem YB:bP Tryz.prog .none pJ:=(aA acv azE aP)
theorem ZO:Contract Tryz.prog .none 46 NR:=by
 have hl:aZ pJ wM wO:=(bC (n:=1) (by kernel_rfl) fun k hk=>by
   match k,hk with
   |0,_=>exact bq (id:=3) (L:=jC) (by kernel_rfl) (by kernel_rfl) Tk)
 refine (aI (F:=NQ) bn YB Tryz.func46 (by kernel_rfl) (by kernel_rfl) (by kernel_rfl) hl []).weaken ?_
 rintro ⟨av,rs⟩ co h
 have h:(NP av rs).run some=some co:=h
 obtain ⟨a0_,av0,rfl,h_0⟩:=au h
 obtain ⟨a1_,av1,rfl,h_1⟩:=au h_0
 obtain ⟨a2_,av2,rfl,h_2⟩:=au h_1
 obtain ⟨rfl,h_3⟩:=ay h_2
 obtain ⟨rfl,h_4⟩:=ay h_3
 obtain ⟨d1,rfl,h_5⟩:=ak h_4
 obtain ⟨z3,d2,rfl,h_6⟩:=aF h_5
 obtain ⟨z5,d4,rfl,h_7⟩:=aF h_6
 exact bK (ZN z3 z5 d1 d2 d4) h_7
noncomputable def zf (p0:aK) (p1:(List Int)):Tre (List Int) :=
 .mat (wN p0.1 p1 p0.2.1) fun r1 =>
 .ret r1
noncomputable def kD (p0:aK) (p1:(List Int)):Option (List Int):=(zf p0 p1).run some
-- more
theorem aqh {f:TF3} (hf:aN f=true) {P X:List Nat} (hP:inL (FOf f hf) P) (hl:P.length≤1000) (hX:inL (FOf f hf) X) (hXl:X.length≤1000):wN f (aS P) (aS X)=some (aS (X.map ((FOf f hf).lp P))):=by
 unfold wN IU
 rw [ah (show aR (jo (aS P) (aS X) ((aS X).length:Int) f) (0,[])=some (aS (X.map ((FOf f hf).lp P))) from ?_),Tre.aL]
 refine cZ (fun i=>((i:Int),aS ((X.take i).map ((FOf f hf).lp P)))) X.length _ (fun i hi=>?_) ?_
 ·unfold jo
  dsimp only
  rw [eu (dG (eT hi)),ah (asB hf hP hl (pq hX i)),Tre.run_ite,if_pos (by rw [aW,List.length_map,List.length_take];unfold bM;omega),Tre.aL,aX (by omega),List.take_add_one,eT hi,Option.toList_some,List.map_append,vE]
  rfl
 ·unfold jo
  dsimp only
  rw [aW,dF,Tre.aL,List.take_length]
theorem ahE {f:TF3} (hf:aN f=true) {P X:List Nat} (hP:inL (FOf f hf) P) (hl:P.length≤1000) (hX:inL (FOf f hf) X) (hXl:X.length≤1000) (k:Int):kD (f,aS X,k,()) (aS P)=some (aS (X.map ((FOf f hf).lp P))):=by
 unfold kD zf
 dsimp only
 rw [ah (aqh hf hP hl hX hXl),Tre.aL]
noncomputable def u6:Env:=⟨tau,[(46,NR)],[]⟩
noncomputable def En:Code:=(Tryz.f35.body).getD .skip
noncomputable def Em:FnI:=⟨En,Tryz.f35.results.toList,Tryz.f35.resultTypes.toList,[]⟩
noncomputable def Ay (_zp0:Bool) (_zp1:Bool) (_p0:aK) (_p1:(List Int)):(List Int)→aB:=fun r=>⟨(.ref (1,0) []),[],[⟨false,(.sl (.int .i64)),.own,r⟩]⟩
theorem R3:∀ (zp0:Bool) (zp1:Bool) (p0:aK) (p1:(List Int)),bQ u6 Em ⟨[(.imm zp0 aV p0),(.imm zp1 (.sl (.int .i64)) p1)],[]⟩=(zf p0 p1).run fun r=>some (Ay zp0 zp1 p0 p1 r):=fun _ _ _ _=>by kernel_rfl
noncomputable def El (av:List AV) (rs:List Root):Tre aB :=
 aJ av fun a0_ av0 =>
 aJ av0 fun a1_ av1 =>
 aU av1 <|
 aU rs <|
 bH aV a0_ fun z2 d1 =>
 bH (.sl (.int .i64)) a1_ fun z4 d3 =>
 .mat (kD d1 d3) fun r=>.ret (Ay z2 z4 d1 d3 r)
noncomputable def u7:Ctr:=⟨[],fun ci=>El ci.args ci.roots,false⟩
theorem Pk:bP Tryz.prog .none u6:=(aA ZO azv aP)
theorem BP:Contract Tryz.prog .none 35 u7:=by
 have hl:aZ u6 [] En:=bB (by kernel_rfl)
 refine (aI (F:=Em) bn Pk Tryz.func35 (by kernel_rfl) (by kernel_rfl) (by kernel_rfl) hl []).weaken ?_
 rintro ⟨av,rs⟩ co h
 have h:(El av rs).run some=some co:=h
 obtain ⟨a0_,av0,rfl,h_0⟩:=au h
 obtain ⟨a1_,av1,rfl,h_1⟩:=au h_0
 obtain ⟨rfl,h_2⟩:=ay h_1
 obtain ⟨rfl,h_3⟩:=ay h_2
 obtain ⟨z2,d1,rfl,h_4⟩:=aF h_3
 obtain ⟨z4,d3,rfl,h_5⟩:=aF h_4
 exact bK (R3 z2 z4 d1 d3) h_5
noncomputable def zo (h3_0_0:(List Int)) (h3_0_1:Int):(Int×(List Int))→Tre ((Int×(List Int)) ⊕ (List Int)):=fun s3 =>
 .cond (decide (s3.1 < h3_0_1))
  (.ite (0≤s3.1∧s3.1 < (h3_0_0.length:Int)) <|
  .mat (h3_0_0[s3.1.toNat]?) fun x2 =>
  .ite (0≤s3.1∧s3.1 < (s3.2.length:Int)) <|
  .mat (s3.2[s3.1.toNat]?) fun x3 =>
  .ite (0≤s3.1∧s3.1 < (s3.2.length:Int)) <|
  .mat (s3.2[s3.1.toNat]?) fun _ =>
  let v5:=s3.2.set s3.1.toNat (jI .i64 x3 x2)
  .ret (.inl (aO .i64 (s3.1+1),v5)))
  (.ret (.inr s3.2))
noncomputable def alQ (p0:(List Int)) (p1:(List Int)):Tre (List Int) :=
 .mat (fD p0) fun r1 =>
 .mat (aR (zo p1 (p1.length:Int)) (0,r1)) fun l6 =>
 .ret l6
noncomputable def NW (p0:(List Int)) (p1:(List Int)):Option (List Int):=(alQ p0 p1).run some
-- more
theorem akL {f:TF3} (hf:aN f=true) {pts w m:List Nat} (hw:inL (FOf f hf) w) (hl:w.length=pts.length) (hwl:w.length≤1000):NW (aS w) (aS (pts.map ((FOf f hf).lp m)))=some (aS ((FOf f hf).Am pts w m)):=by
 have hel:=(FOf f hf).Nn (m:=m) hl
 have hst:∀ i,i < w.length→(((FOf f hf).Am pts w m).take i++w.drop i)[i]?=some (cf w i)∧(pts.map ((FOf f hf).lp m))[i]?=some ((FOf f hf).lp m (cf pts i))∧(((FOf f hf).Am pts w m).take i++w.drop i).set i (cf w i ^^^ (FOf f hf).lp m (cf pts i))=((FOf f hf).Am pts w m).take (i+1)++w.drop (i+1):=by
  intro i hi
  have hti:(((FOf f hf).Am pts w m).take i).length=i:=by rw [List.length_take];omega
  have hwi:=eT hi
  have hpi:=eT (show i < pts.length by omega)
  have hei:((FOf f hf).Am pts w m)[i]?=some (cf w i ^^^ (FOf f hf).lp m (cf pts i)):=by
   unfold FO.Am
   rw [List.getElem?_map,List.getElem?_zip_eq_some.2 (show pts[i]?=some (cf pts i,cf w i).1∧w[i]?=some (cf pts i,cf w i).2 from ⟨hpi,hwi⟩)]
   rfl
  have hd:w.drop i=cf w i::w.drop (i+1):=by
   obtain ⟨h1,h2⟩:=List.getElem?_eq_some_iff.1 hwi
   rw [List.drop_eq_getElem_cons h1,h2]
  refine ⟨by rw [List.getElem?_append_right (by omega),hti,Nat.sub_self,hd];rfl,by rw [List.getElem?_map,hpi];rfl,?_⟩
  rw [List.set_append_right _ _ (by omega),hti,Nat.sub_self,hd,List.set_cons_zero,List.take_add_one,hei,Option.toList_some,List.append_assoc]
  rfl
 unfold NW alQ
 rw [ah (show fD (aS w)=some (aS w) from JG (by rw [aW];omega))]
 rw [ah (show aR (zo (aS (pts.map ((FOf f hf).lp m))) ((aS (pts.map ((FOf f hf).lp m))).length:Int)) (0,aS w)=some (aS ((FOf f hf).Am pts w m)) from ?_),Tre.aL]
 refine cZ (fun i=>((i:Int),aS (((FOf f hf).Am pts w m).take i++w.drop i))) w.length _ (fun i hi=>?_) ?_
 ·obtain ⟨h1,h2,h3⟩:=hst i hi
  unfold zo
  dsimp only
  rw [eu (dG h2),dB (dG h1),dB (dG h1),Zl hf (pq hw i) ((FOf f hf).aom _ _),Int.toNat_natCast,← TU,h3,Tre.aL,aX (by omega)]
 ·unfold zo
  dsimp only
  rw [aW,List.length_map,← hl,dF,Tre.aL,List.drop_length,List.append_nil,List.take_of_length_le (by omega)]
noncomputable def NY:Env:=⟨tau,[(65,kH)],[]⟩
noncomputable def VO:Code:=(Tryz.f34.body).getD .skip
noncomputable def MP (z3_0:Bool) (h3_0_0:(List Int)) (h3_0_1:Int):(Int×(List Int))→St:=fun x=>bR [(5,(.ref (7,0) [])),(10,(.imm z3_0 (.sl (.int .i64)) h3_0_0)),(11,(.imm true (.int .i64) h3_0_1)),(12,(.imm true (.int .i64) x.1))] [((7,0),some ⟨false,(.sl (.int .i64)),.own,x.2⟩)]
noncomputable def Jl (_z3_0:Bool) (_h3_0_0:(List Int)) (_h3_0_1:Int):(List Int)→Ex×St:=fun x=>(.exit 0,bR [(5,(.ref (7,0) []))] [((7,0),some ⟨false,(.sl (.int .i64)),.own,x⟩)])
noncomputable def ZP (s:St):Tre (Ex×St) :=
 dz (7,0) [] (s.tmps 5) <|
 bH (.sl (.int .i64)) (s.tmps 10) fun z4 d3 =>
 aC true (.int .i64) (s.tmps 11) fun d6 =>
 aC true (.int .i64) (s.tmps 12) fun d8 =>
 bD false (.sl (.int .i64)) (s.roots (7,0)) fun m10 d11 =>
 asM .own m10 <|
 .mat (aR (zo d3 d6) (d8,d11)) fun x=>.ret (Jl z4 d3 d6 x)
noncomputable def wQ:bJ:=⟨([5,10,11,12],[(7,0)]),([5],[(7,0)]),ZP⟩
noncomputable def VN:List (Nat×bJ):=[(3,wQ)]
theorem afE:∀ (z3_0:Bool) (h3_0_0:(List Int)) (h3_0_1:Int) (x:(Int×(List Int))) (c:St→Option (Ex×St)),den NY VN (aY VO 0) (MP z3_0 h3_0_0 h3_0_1 x) (bV wQ.kp wQ.kx c)=(zo h3_0_0 h3_0_1 x).run (bW (MP z3_0 h3_0_0 h3_0_1) (Jl z3_0 h3_0_0 h3_0_1) c):=fun _ _ _ _ _=>by
 kernel_rfl
theorem ajx:bS NY VN (aY VO 0) wQ:=bA fun s e s' h=>by
 generalize hs:restrict wQ.kp s=s1 at h
 have h:(ZP s1).run some=some (e,s'):=h
 obtain ⟨e1,h_0⟩:=bf h
 obtain ⟨z4,d3,e2,h_1⟩:=aF h_0
 obtain ⟨d6,e5,h_2⟩:=ak h_1
 obtain ⟨d8,e7,h_3⟩:=ak h_2
 obtain ⟨m10,d11,e9,h_4⟩:=aH h_3
 obtain ⟨rfl,h_5⟩:=aQ h_4
 obtain ⟨y,hy,hz⟩:=bT h_5
 refine ⟨_,_,MP z4 d3 d6,Jl z4 d3 d6,zo d3 d6,(d8,d11),y,?_,hy,?_,afE z4 d3 d6⟩
 ·subst hs;exact aT (T:=[(5,(.ref (7,0) [])),(10,(.imm z4 (.sl (.int .i64)) d3)),(11,(.imm true (.int .i64) d6)),(12,(.imm true (.int .i64) d8))]) (U:=[((7,0),some ⟨false,(.sl (.int .i64)),.own,d11⟩)]) rfl rfl ⟨e1,e2,e5,e7,trivial⟩ ⟨e9,trivial⟩
 ·exact Option.some.inj hz
noncomputable def akJ:FnI:=⟨VO,Tryz.f34.results.toList,Tryz.f34.resultTypes.toList,VN⟩
noncomputable def ad6 (_zp0:Bool) (_zp1:Bool) (_p0:(List Int)) (_p1:(List Int)):(List Int)→aB:=fun r=>⟨(.ref (1,0) []),[],[⟨false,(.sl (.int .i64)),.own,r⟩]⟩
theorem ap5:∀ (zp0:Bool) (zp1:Bool) (p0:(List Int)) (p1:(List Int)),bQ NY akJ ⟨[(.imm zp0 (.sl (.int .i64)) p0),(.imm zp1 (.sl (.int .i64)) p1)],[]⟩=(alQ p0 p1).run fun r=>some (ad6 zp0 zp1 p0 p1 r):=fun _ _ _ _=>by kernel_rfl
noncomputable def akI (av:List AV) (rs:List Root):Tre aB :=
 aJ av fun a0_ av0 =>
 aJ av0 fun a1_ av1 =>
 aU av1 <|
 aU rs <|
 bH (.sl (.int .i64)) a0_ fun z2 d1 =>
 bH (.sl (.int .i64)) a1_ fun z4 d3 =>
 .mat (NW d1 d3) fun r=>.ret (ad6 z2 z4 d1 d3 r)
noncomputable def acy:Ctr:=⟨[],fun ci=>akI ci.args ci.roots,false⟩
theorem anV:bP Tryz.prog .none NY:=(aA mU aqR aP)
theorem ahg:Contract Tryz.prog .none 34 acy:=by
 have hl:aZ NY VN VO:=(bC (n:=1) (by kernel_rfl) fun k hk=>by
   match k,hk with
   |0,_=>exact bq (id:=3) (L:=wQ) (by kernel_rfl) (by kernel_rfl) ajx)
 refine (aI (F:=akJ) bn anV Tryz.func34 (by kernel_rfl) (by kernel_rfl) (by kernel_rfl) hl []).weaken ?_
 rintro ⟨av,rs⟩ co h
 have h:(akI av rs).run some=some co:=h
 obtain ⟨a0_,av0,rfl,h_0⟩:=au h
 obtain ⟨a1_,av1,rfl,h_1⟩:=au h_0
 obtain ⟨rfl,h_2⟩:=ay h_1
 obtain ⟨rfl,h_3⟩:=ay h_2
 obtain ⟨z2,d1,rfl,h_4⟩:=aF h_3
 obtain ⟨z4,d3,rfl,h_5⟩:=aF h_4
 exact bK (ap5 z2 z4 d1 d3) h_5
noncomputable def CJ (p0:Int) (p1:Int):Tre Bool :=
 .ite (0≤p1) <|
 let v1:=afK .i64 (YM .i64 p0 p1) 1
 .ret (decide (v1=1))
noncomputable def Js (p0:Int) (p1:Int):Option Bool:=(CJ p0 p1).run some
def avE (x j:Int):Option Bool:=ajl (decide (0≤j)) (BM x j)
theorem Sd (p0 p1:Int) (y:Bool) (h:avE p0 p1=some y):Js p0 p1=some y:=by
 obtain ⟨hl,rfl⟩:=zL h
 unfold Js CJ
 rw [Tre.run_ite,if_pos (of_decide_eq_true hl)]
 rfl
noncomputable def zu:Env:=⟨tau,[],[]⟩
noncomputable def Jv:Code:=(Tryz.f100.body).getD .skip
noncomputable def Ju:FnI:=⟨Jv,Tryz.f100.results.toList,Tryz.f100.resultTypes.toList,[]⟩
noncomputable def EI (_p0:Int) (p1:Int):Bool→aB:=fun r=>⟨(.imm true .bool r),[⟨true,(.int .i64),.own,p1⟩],[]⟩
theorem WB:∀ (p0:Int) (p1:Int),bQ zu Ju ⟨[(.imm true (.int .i64) p0),(.ptr (0,0) [])],[⟨true,(.int .i64),.own,p1⟩]⟩=(CJ p0 p1).run fun r=>some (EI p0 p1 r):=fun _ _=>by kernel_rfl
noncomputable def Jt (av:List AV) (rs:List Root):Tre aB :=
 aJ av fun a0_ av0 =>
 aJ av0 fun a1_ av1 =>
 aU av1 <|
 aJ rs fun r0_ rs0 =>
 aU rs0 <|
 aC true (.int .i64) a0_ fun d1 =>
 dW (0,0) [] a1_ <|
 Io true (.int .i64) r0_ fun m2 d3 =>
 asM .own m2 <|
 .mat (avE d1 d3) fun r=>.ret (EI d1 d3 r)
noncomputable def Jw:Ctr:=⟨[],fun ci=>Jt ci.args ci.roots,false⟩
theorem TJ:bP Tryz.prog .none zu:=aP
theorem WC:Contract Tryz.prog .none 100 Jw:=by
 have hl:aZ zu [] Jv:=bB (by kernel_rfl)
 refine (aI (F:=Ju) bn TJ Tryz.func100 (by kernel_rfl) (by kernel_rfl) (by kernel_rfl) hl []).weaken ?_
 rintro ⟨av,rs⟩ co h
 have h:(Jt av rs).run some=some co:=h
 obtain ⟨a0_,av0,rfl,h_0⟩:=au h
 obtain ⟨a1_,av1,rfl,h_1⟩:=au h_0
 obtain ⟨rfl,h_2⟩:=ay h_1
 obtain ⟨r0_,rs0,rfl,h_3⟩:=au h_2
 obtain ⟨rfl,h_4⟩:=ay h_3
 obtain ⟨d1,rfl,h_5⟩:=ak h_4
 obtain ⟨rfl,h_6⟩:=bI h_5
 obtain ⟨m2,d3,rfl,h_7⟩:=eX h_6
 obtain ⟨rfl,h_8⟩:=aQ h_7
 exact wD (WB d1 d3) (Sd d1 d3) h_8
noncomputable def ac2 (h2_0_0:(List Int)) (h2_0_1:Int) (h2_0_3:Int):Int→Tre (Int ⊕ (Int ⊕ Unit)):=fun s2 =>
 .cond (decide (s2 < h2_0_1))
  (.ite (0≤s2∧s2 < (h2_0_0.length:Int)) <|
  .mat (h2_0_0[s2.toNat]?) fun x1 =>
  .mat (avE x1 h2_0_3) fun r2 =>
  .cond r2
   (.ret (.inr (.inl s2)))
   (.ret (.inl (aO .i64 (s2+1)))))
  (.ret (.inr (.inr ())))
noncomputable def nm6 (p0:(List Int)) (p1:Int):Tre Int :=
 .mat (aR (ac2 p0 (p0.length:Int) p1) 0) fun l3 =>
 .alt l3
  (fun a4 =>
   .ret a4)
  (fun _ =>
   .ret (-1))
noncomputable def axU (p0:(List Int)) (p1:Int):Option Int:=(nm6 p0 p1).run some
def avO (xs:List Int) (j:Int):Option Int:=ajl (decide (0≤j)&&decide (xs.length≤1048576)) (nR (fun x=>BM x j) 0 xs)
theorem auL (p0:List Int) (p1:Int) (y:Int) (h:avO p0 p1=some y):axU p0 p1=some y:=by
 obtain ⟨hl,rfl⟩:=zL h
 rw [Bool.and_eq_true] at hl
 obtain ⟨hm,hl⟩:=hl
 have hl:=of_decide_eq_true hl
 unfold axU nm6
 rw [Tre.nX,Np (xs:=p0) (fun i x=>cond (BM x p1) (some (.inl (i:Int))) none) (.inr ())]
 ·rw [Option.bind_some,← VH (p:=fun x=>BM x p1)]
  generalize SK _ _ _ _=r
  cases r <;> rfl
 ·intro i x hx
  have hi:i < p0.length:=(List.getElem?_eq_some_iff.1 hx).1
  unfold ac2
  rw [eu hx,ah (show avE x p1=some _ from o9 hm),Tre.aG]
  cases BM x p1
  ·simp only [cond_false,Tre.aL,aX (show i < 4611686018427387904 by omega)]
  ·rfl
 ·unfold ac2
  exact dF
noncomputable def aoD:Env:=⟨tau,[(100,Jw)],[]⟩
noncomputable def arA:Code:=(Tryz.f99.body).getD .skip
noncomputable def ac3 (z2_0:Bool) (h2_0_0:(List Int)) (h2_0_1:Int) (h2_0_3:Int):Int→St:=fun x=>bR [(0,(.imm z2_0 (.sl (.int .i64)) h2_0_0)),(1,(.fn 100 [(0,0)])),(7,(.imm true (.int .i64) h2_0_1)),(8,(.imm true (.int .i64) x))] [((0,0),some ⟨true,(.int .i64),.own,h2_0_3⟩)]
noncomputable def PY (_z2_0:Bool) (_h2_0_0:(List Int)) (_h2_0_1:Int) (h2_0_3:Int):(Int ⊕ Unit)→Ex×St
 |.inl x=>(.ret,bR [(4,(.imm true (.int .i64) x))] [((0,0),some ⟨true,(.int .i64),.own,h2_0_3⟩)])
 |.inr _=>(.exit 0,bR [(4,.dead)] [((0,0),some ⟨true,(.int .i64),.own,h2_0_3⟩)])
noncomputable def aoE (s:St):Tre (Ex×St) :=
 bH (.sl (.int .i64)) (s.tmps 0) fun z3 d2 =>
 Zq 100 [(0,0)] (s.tmps 1) <|
 aC true (.int .i64) (s.tmps 7) fun d6 =>
 aC true (.int .i64) (s.tmps 8) fun d8 =>
 bD true (.int .i64) (s.roots (0,0)) fun m10 d11 =>
 asM .own m10 <|
 .mat (aR (ac2 d2 d6 d11) d8) fun x=>.alt x (fun a0=>.ret (PY z3 d2 d6 d11 (.inl a0))) (fun b0=>.ret (PY z3 d2 d6 d11 (.inr b0)))
noncomputable def Oi:bJ:=⟨([0,1,7,8],[(0,0)]),([4],[(0,0)]),aoE⟩
noncomputable def arz:List (Nat×bJ):=[(2,Oi)]
theorem aoF:∀ (z2_0:Bool) (h2_0_0:(List Int)) (h2_0_1:Int) (h2_0_3:Int) (x:Int) (c:St→Option (Ex×St)),den aoD arz (aY arA 0) (ac3 z2_0 h2_0_0 h2_0_1 h2_0_3 x) (bV Oi.kp Oi.kx c)=(ac2 h2_0_0 h2_0_1 h2_0_3 x).run (bW (ac3 z2_0 h2_0_0 h2_0_1 h2_0_3) (PY z2_0 h2_0_0 h2_0_1 h2_0_3) c):=fun _ _ _ _ _ _=>by
 kernel_rfl
theorem asK:bS aoD arz (aY arA 0) Oi:=bA fun s e s' h=>by
 generalize hs:restrict Oi.kp s=s1 at h
 have h:(aoE s1).run some=some (e,s'):=h
 obtain ⟨z3,d2,e1,h_0⟩:=aF h
 obtain ⟨e4,h_1⟩:=nk h_0
 obtain ⟨d6,e5,h_2⟩:=ak h_1
 obtain ⟨d8,e7,h_3⟩:=ak h_2
 obtain ⟨m10,d11,e9,h_4⟩:=aH h_3
 obtain ⟨rfl,h_5⟩:=aQ h_4
 obtain ⟨y,hy,hz⟩:=kE h_5
 refine ⟨_,_,ac3 z3 d2 d6 d11,PY z3 d2 d6 d11,ac2 d2 d6 d11,d8,y,?_,hy,?_,aoF z3 d2 d6 d11⟩
 ·subst hs;exact aT (T:=[(0,(.imm z3 (.sl (.int .i64)) d2)),(1,(.fn 100 [(0,0)])),(7,(.imm true (.int .i64) d6)),(8,(.imm true (.int .i64) d8))]) (U:=[((0,0),some ⟨true,(.int .i64),.own,d11⟩)]) rfl rfl ⟨e1,e4,e5,e7,trivial⟩ ⟨e9,trivial⟩
 ·rcases y with x | x <;> exact Option.some.inj hz
noncomputable def axW:FnI:=⟨arA,Tryz.f99.results.toList,Tryz.f99.resultTypes.toList,arz⟩
noncomputable def arB (_zp0:Bool) (_p0:(List Int)) (p1:Int):Int→aB:=fun r=>⟨(.imm true (.int .i64) r),[⟨true,(.int .i64),.own,p1⟩],[]⟩
theorem ayS:∀ (zp0:Bool) (p0:(List Int)) (p1:Int),bQ aoD axW ⟨[(.imm zp0 (.sl (.int .i64)) p0),(.fn 100 [(0,0)])],[⟨true,(.int .i64),.own,p1⟩]⟩=(nm6 p0 p1).run fun r=>some (arB zp0 p0 p1 r):=fun _ _ _=>by kernel_rfl
noncomputable def axV (av:List AV) (rs:List Root):Tre aB :=
 aJ av fun a0_ av0 =>
 aJ av0 fun a1_ av1 =>
 aU av1 <|
 aJ rs fun r0_ rs0 =>
 aU rs0 <|
 bH (.sl (.int .i64)) a0_ fun z2 d1 =>
 Zq 100 [(0,0)] a1_ <|
 Io true (.int .i64) r0_ fun m3 d4 =>
 asM .own m3 <|
 .mat (avO d1 d4) fun r=>.ret (arB z2 d1 d4 r)
noncomputable def axX:Ctr:=⟨[],fun ci=>axV ci.args ci.roots,false⟩
theorem awu:bP Tryz.prog .none aoD:=(aA WC ax8 aP)
theorem ayT:Contract Tryz.prog .none 99 axX:=by
 have hl:aZ aoD arz arA:=(bC (n:=1) (by kernel_rfl) fun k hk=>by
   match k,hk with
   |0,_=>exact bq (id:=2) (L:=Oi) (by kernel_rfl) (by kernel_rfl) asK)
 refine (aI (F:=axW) bn awu Tryz.func99 (by kernel_rfl) (by kernel_rfl) (by kernel_rfl) hl []).weaken ?_
 rintro ⟨av,rs⟩ co h
 have h:(axV av rs).run some=some co:=h
 obtain ⟨a0_,av0,rfl,h_0⟩:=au h
 obtain ⟨a1_,av1,rfl,h_1⟩:=au h_0
 obtain ⟨rfl,h_2⟩:=ay h_1
 obtain ⟨r0_,rs0,rfl,h_3⟩:=au h_2
 obtain ⟨rfl,h_4⟩:=ay h_3
 obtain ⟨z2,d1,rfl,h_5⟩:=aF h_4
 obtain ⟨rfl,h_6⟩:=nk h_5
 obtain ⟨m3,d4,rfl,h_7⟩:=eX h_6
 obtain ⟨rfl,h_8⟩:=aQ h_7
 exact wD (ayS z2 d1 d4) (auL d1 d4) h_8
noncomputable def lS (h10_0_0:Int) (h10_0_1:Int) (h10_0_4:Int):(Int×(List Int))→Tre ((Int×(List Int)) ⊕ (List Int)):=fun s10 =>
 .cond (decide (s10.1 < h10_0_1))
  (.cond (!decide (s10.1=h10_0_0))
   (.ite (0≤s10.1∧s10.1 < (s10.2.length:Int)) <|
   .mat (s10.2[s10.1.toNat]?) fun x9 =>
   .ite (0≤h10_0_4) <|
   let v10:=afK .i64 (YM .i64 x9 h10_0_4) 1
   .cond (decide (v10=1))
    (.ite (0≤s10.1∧s10.1 < (s10.2.length:Int)) <|
    .mat (s10.2[s10.1.toNat]?) fun x11 =>
    .ite (0≤h10_0_0∧h10_0_0 < (s10.2.length:Int)) <|
    .mat (s10.2[h10_0_0.toNat]?) fun x12 =>
    .ite (0≤s10.1∧s10.1 < (s10.2.length:Int)) <|
    .mat (s10.2[s10.1.toNat]?) fun _ =>
    let v14:=s10.2.set s10.1.toNat (jI .i64 x11 x12)
    .ret (.inl (aO .i64 (s10.1+1),v14)))
    (.ret (.inl (aO .i64 (s10.1+1),s10.2))))
   (.ret (.inl (aO .i64 (s10.1+1),s10.2))))
  (.ret (.inr s10.2))
noncomputable def iH:(Int×(List Int)×Int)→Tre ((Int×(List Int)×Int) ⊕ (Int×(List Int))):=fun s4 =>
 .cond (decide (s4.2.2 < 62))
  (.cond (decide (s4.1 < (s4.2.1.length:Int)))
   (.ite (0≤s4.1∧s4.1≤(s4.2.1.length:Int)∧(s4.2.1.length:Int)≤(s4.2.1.length:Int)) <|
   .mat (avO ((s4.2.1.drop s4.1.toNat).take (((s4.2.1.length:Int) - s4.1).toNat)) s4.2.2) fun r2 =>
   .cond (decide (r2 < 0))
    (.ret (.inl (s4.1,s4.2.1,aO .i64 (s4.2.2+1))))
    (.ite (0≤aO .i64 (s4.1+r2)∧aO .i64 (s4.1+r2) < (s4.2.1.length:Int)) <|
    .mat (s4.2.1[(aO .i64 (s4.1+r2)).toNat]?) fun x3 =>
    .ite (0≤s4.1∧s4.1 < (s4.2.1.length:Int)) <|
    .mat (s4.2.1[s4.1.toNat]?) fun x4 =>
    .ite (0≤s4.1∧s4.1 < (s4.2.1.length:Int)) <|
    .mat (s4.2.1[s4.1.toNat]?) fun _ =>
    let v6:=s4.2.1.set s4.1.toNat x3
    .ite (0≤aO .i64 (s4.1+r2)∧aO .i64 (s4.1+r2) < (v6.length:Int)) <|
    .mat (v6[(aO .i64 (s4.1+r2)).toNat]?) fun _ =>
    let v8:=v6.set ((aO .i64 (s4.1+r2)).toNat) x4
    .mat (aR (lS s4.1 (v8.length:Int) s4.2.2) (0,v8)) fun l15 =>
    .ret (.inl (aO .i64 (s4.1+1),l15,aO .i64 (s4.2.2+1)))))
   (.ret (.inr (s4.1,s4.2.1))))
  (.ret (.inr (s4.1,s4.2.1)))
noncomputable def acA (p0:(List Int)):Tre (List Int) :=
 .mat (fD p0) fun r1 =>
 .mat (aR iH (0,r1,0)) fun l16 =>
 .ite (0≤(0:Int)∧(0:Int)≤l16.1∧l16.1≤(l16.2.length:Int)) <|
 .ret ((l16.2.drop 0).take ((l16.1 - 0).toNat))
noncomputable def ad7 (p0:(List Int)):Option (List Int):=(acA p0).run some
noncomputable def asg (xs:List Int):Option (List Int):=ajl (JI 62 xs) (acd xs)
theorem ahj (k c r:Nat) (hc:c≤62) (hr:r < 2 ^ 62) (A B:List Nat) (hk:A.length=k) (hb:∀ n∈A++r::B,n < 2 ^ 62) (hl:(A++r::B).length≤1048576) :
  aR (lS (k:Int) ((A++r::B).length:Int) (c:Int)) (0,up (A++r::B))=some (up (A.map (iK c r)++r::B.map (iK c r))):=by
 have hkr:(A++r::B)[k]?=some r:=by rw [List.getElem?_append_right (by omega),hk];simp
 generalize hL:A++r::B=l at *
 have:=ak4 (step:=lS (k:Int) (l.length:Int) (c:Int)) (fun i x=>if i=k then x else iK c r x) l id (by
  intro i x hx
  have hi:i < l.length:=(List.getElem?_eq_some_iff.1 hx).1
  have hx2:=apm (agv (g:=fun i x=>if i=k then x else iK c r x) (i:=i) hx)
  rw [if_neg (Nat.lt_irrefl i)] at hx2
  have hr2:=apm (agv (g:=fun i x=>if i=k then x else iK c r x) (i:=i) hkr)
  simp only [if_true,ite_self] at hr2
  have hxb:=hb x (List.mem_of_getElem? hx)
  rw [← aoI hx]
  generalize hP:zZ (fun i x=>if i=k then x else iK c r x) i l=P at *
  have hset:(up P).set i (x:Int)=up P:=List.ext_getElem? fun j=>by
   rw [List.getElem?_set]
   by_cases hj:i=j
   ·subst hj;rw [if_pos rfl,hx2,if_pos (List.getElem?_eq_some_iff.1 hx2).1]
   ·rw [if_neg hj]
  unfold lS
  rw [Tre.aG]
  show cond (decide ((i:Int) < (l.length:Int))) _ _=_
  rw [show decide ((i:Int) < (l.length:Int))=true from by simpa using hi,cond_true,Tre.aG]
  show cond (!decide ((i:Int)=(k:Int))) _ _=_
  by_cases hik:i=k
  ·rw [show decide ((i:Int)=(k:Int))=true from decide_eq_true (by omega),Bool.not_true,cond_false,Tre.aL,aX (by omega),if_pos hik,← VE,hset]
  ·rw [show decide ((i:Int)=(k:Int))=false from decide_eq_false (by omega),Bool.not_false,cond_true,dB hx2,Tre.run_ite,if_pos (by omega),Tre.aG,if_neg hik]
   show cond (BM (x:Int) (c:Int)) _ _=_
   rw [Ig (by omega) (by omega)]
   have he:iK c r x=cond (x.testBit c) (x ^^^ r) x:=rfl
   rw [he]
   cases x.testBit c
   ·rw [cond_false,Tre.aL,aX (by omega),cond_false,← VE,hset]
   ·rw [cond_true,dB hx2,dB hr2,dB hx2,Tre.aL,aX (by omega),nS (by omega) (by omega),Int.toNat_natCast,cond_true,← VE])
  (by
  unfold lS
  exact dF)
 rw [this,← hL,amh (f:=iK c r) (g:=fun i x=>if i=k then x else iK c r x) (r:=r) (B:=B) hk (fun i x h=>if_neg h) (if_pos rfl)]
 rfl
theorem ahk (orig:List Nat):∀ (n c:Nat) (E:List (Nat×Nat)) (R:List Nat),c+n=62→Inv orig c E R→E.length+R.length≤1048576→(∀ x∈R,x < 2 ^ 62)→(∀ a∈E,a.2 < 2 ^ 62) →
  ∃ (E' L:List Nat),aR iH ((E.length:Int),up (E.map (·.2)++R),(c:Int))=some ((E'.length:Int),up (E'++L))∧uj orig E':=by
 intro n
 induction n with
 |zero =>
  intro c E R hc hI _ hR _
  have:c=62:=hc
  subst this
  refine ⟨E.map (·.2),R,fu ?_,hI.done fun x hx=>abS (hR x hx) (hI.low x hx)⟩
  unfold iH
  simp [Tre.aG,Tre.aL]
 |succ n ih =>
  intro c E R hc hI hl hR hEb
  have hcm:c < 62:=by omega
  have hlen:(up (E.map (·.2)++R)).length=E.length+R.length:=by rw [Gd];simp
  by_cases hR0:R=[]
  ·subst hR0
   refine ⟨E.map (·.2),[],fu ?_,hI.done fun x hx=>by cases hx⟩
   unfold iH
   simp [Tre.aG,Tre.aL]
  have hRl:0 < R.length:=List.length_pos_iff.2 hR0
  have hstep:∀ E2 R2,Inv orig (c+1) E2 R2→E2.length+R2.length≤1048576→(∀ x∈R2,x < 2 ^ 62)→(∀ a∈E2,a.2 < 2 ^ 62)→(iH ((E.length:Int),up (E.map (·.2)++R),(c:Int))).run some=some (.inl ((E2.length:Int),up (E2.map (·.2)++R2),((c+1:Nat):Int))) →
    ∃ (E' L:List Nat),aR iH ((E.length:Int),up (E.map (·.2)++R),(c:Int))=some ((E'.length:Int),up (E'++L))∧uj orig E':=by
   intro E2 R2 h1 h2 h3 h4 h5
   rw [mJ h5]
   exact ih (c+1) E2 R2 (by omega) h1 h2 h3 h4
  have hsub:((up (E.map (·.2)++R)).drop E.length).take (((E.length+R.length:Nat):Int) - (E.length:Int)).toNat=up R:=by
   rw [show (((E.length+R.length:Nat):Int) - (E.length:Int)).toNat=R.length from by omega]
   unfold up
   rw [List.map_append,List.drop_append_of_le_length (by simp),List.drop_of_length_le (by simp),List.nil_append,List.take_of_length_le (by simp)]
  have hfind:avO (up R) (c:Int)=some _:=o9 (by rw [Gd];simp;omega)
  have hw:aO .i64 ((c:Int)+1)=((c+1:Nat):Int):=aX (by omega)
  have hdec:decide ((c:Int) < 62)=true:=by simp;omega
  have hdec2:decide ((E.length:Int) < ((E.length+R.length:Nat):Int))=true:=by simp;omega
  rcases zw (fun x=>BM x (c:Int)) (up R) 0 with ⟨h1,h2⟩ | ⟨j,x,h1,h2,h3⟩
  ·refine hstep E R (hI.skip fun x hx=>?_) hl hR hEb ?_
   ·have:=h2 (x:Int) (List.mem_map.2 ⟨x,hx,rfl⟩)
    have hxb:=hR x hx
    rwa [Ig (by omega) (by omega)] at this
   ·unfold iH
    dsimp only
    rw [hlen,Tre.aG,hdec,cond_true,Tre.aG,hdec2,cond_true,Tre.run_ite,if_pos (by omega),Int.toNat_natCast,hsub,ah (hfind.trans (by rw [h1])),Tre.aG]
    simp only [show decide ((-1:Int) < 0)=true from rfl,cond_true,Tre.aL,hw]
  ·obtain ⟨r,hr1,rfl⟩:∃ r:Nat,R[j]?=some r∧(r:Int)=x:=by
    simp only [up,List.getElem?_map,Option.map_eq_some_iff] at h1
    exact h1
   have hrm:r∈R:=List.mem_of_getElem? hr1
   have hrb:=hR r hrm
   rw [Ig (by omega) (by omega)] at h2
   rw [Nat.zero_add] at h3
   have hj:j < R.length:=(List.getElem?_eq_some_iff.1 hr1).1
   obtain ⟨y,R',rfl⟩:∃ y R',R=y::R':=by
    cases R with
    |nil=>exact absurd rfl hR0
    |cons y R'=>exact ⟨y,R',rfl⟩
-- the rows behind the swap
   obtain ⟨B,hB,hB1,hB2,hBl⟩:∃ B,((y::R').set 0 r).set j y=r::B∧(∀ x∈B,x∈y::R')∧(∀ x∈y::R',x=r∨x∈B)∧B.length=R'.length:=by
    cases j with
    |zero =>
     have hyr:y=r:=by simpa using hr1
     subst hyr
     exact ⟨R',by simp,fun x hx=>.tail _ hx,fun x hx=>by
      cases hx with
      |head=>exact .inl rfl
      |tail _ hx=>exact .inr hx,rfl⟩
    |succ j =>
     have hr1:R'[j]?=some r:=by simpa using hr1
     have hj':j < R'.length:=(List.getElem?_eq_some_iff.1 hr1).1
     refine ⟨R'.set j y,by simp,fun x hx=>?_,fun x hx=>?_,by simp⟩
     ·rcases List.mem_or_eq_of_mem_set hx with hx | rfl
      ·exact .tail _ hx
      ·exact .head _
     ·cases hx with
      |head=>exact .inr (List.mem_set hj' _)
      |tail _ hx =>
       obtain ⟨i,hi⟩:=List.getElem?_of_mem hx
       by_cases hij:j=i
       ·subst hij;rw [hr1] at hi;exact .inl (Option.some.inj hi).symm
       ·exact .inr (List.mem_of_getElem? (i:=i) (by rw [List.getElem?_set,if_neg hij,hi]))
   have hE2:((E.map fun a=>(a.1,iK c r a.2))++[(c,r)]).map (·.2)=(E.map (·.2)).map (iK c r)++[r]:=by simp [List.map_map,Function.comp_def]
   have hRB:(E.map (·.2)++r::B).length=E.length+(y::R').length:=by simp [hBl]
   have hall:∀ x∈E.map (·.2)++r::B,x < 2 ^ 62:=by
    intro x hx
    rcases List.mem_append.1 hx with hx | hx
    ·obtain ⟨a,ha,rfl⟩:=List.mem_map.1 hx;exact hEb a ha
    ·cases hx with
     |head=>exact hrb
     |tail _ hx=>exact hR x (hB1 x hx)
   refine hstep (E.map (fun a=>(a.1,iK c r a.2))++[(c,r)]) (B.map (iK c r)) (hI.step hrm h2 ?_ ?_) (by simp [hBl] at hl ⊢;omega) ?_ ?_ ?_
   ·intro z hz
    obtain ⟨x,hx,rfl⟩:=List.mem_map.1 hz
    exact .inr ⟨x,hB1 x hx,rfl⟩
   ·intro x hx
    rcases hB2 x hx with h | h
    ·exact .inl h
    ·exact .inr (List.mem_map.2 ⟨x,h,rfl⟩)
   ·intro z hz
    obtain ⟨x,hx,rfl⟩:=List.mem_map.1 hz
    exact Zw hrb (hR x (hB1 x hx))
   ·intro a ha
    rcases List.mem_append.1 ha with ha | ha
    ·obtain ⟨b,hb,rfl⟩:=List.mem_map.1 ha
     exact Zw hrb (hEb b hb)
    ·simp only [List.mem_singleton] at ha;subst ha;exact hrb
   ·have e1:=ahj E.length c r (by omega) hrb (E.map (·.2)) B (by simp) hall (by rw [hRB];exact hl)
    have hkj:aO .i64 ((E.length:Int)+(j:Int))=((E.length+j:Nat):Int):=by rw [dN (by omega) (by omega)];omega
    have hat1:(up (E.map (·.2)++y::R'))[E.length+j]?=some (r:Int):=apm (by rw [List.getElem?_append_right (by simp)];simpa using hr1)
    have hat2:(up (E.map (·.2)++y::R'))[E.length]?=some (y:Int):=apm (by rw [List.getElem?_append_right (by simp)];simp)
    have hs1:(up (E.map (·.2)++y::R')).set E.length (r:Int)=up (E.map (·.2)++(y::R').set 0 r):=by
     rw [VE,List.set_append_right _ _ (by simp)]
     simp
    have hs2:(up (E.map (·.2)++(y::R').set 0 r)).set (E.length+j) (y:Int)=up (E.map (·.2)++r::B):=by
     rw [VE,List.set_append_right _ _ (by simp),← hB]
     simp
    have hat3:∃ z,(up (E.map (·.2)++(y::R').set 0 r))[E.length+j]?=some z:=⟨_,List.getElem?_eq_getElem (by rw [Gd];simp at hj ⊢;omega)⟩
    obtain ⟨z,hat3⟩:=hat3
    have hlen3:((up (E.map (·.2)++r::B)).length:Int)=((E.map (·.2)++r::B).length:Int):=by rw [Gd]
    unfold iH
    dsimp only
    rw [hlen,Tre.aG,hdec,cond_true,Tre.aG,hdec2,cond_true,Tre.run_ite,if_pos (by omega),Int.toNat_natCast,hsub,ah (hfind.trans (by rw [h3])),Tre.aG]
    rw [show decide ((j:Int) < 0)=false from by simp,cond_false,hkj,← hlen,dB hat1,amq hat2,amq hat2]
    rw [Int.toNat_natCast,hs1,amq hat3,hs2,hlen3,ah e1,Tre.aL,aX (by omega),hw,hE2]
    simp [List.append_assoc]
theorem ahl (p0:List Int) (y:List Int) (h:asg p0=some y):ad7 p0=some y:=by
 obtain ⟨hl,rfl⟩:=zL h
 obtain ⟨ns,rfl,hlen,hb,hn⟩:=ac5 hl
 obtain ⟨E,L,h1,h2⟩:=ahk ns 62 0 [] ns (by omega) (Inv.start ns) (by simpa using hlen) hb (fun a ha=>by cases ha)
 unfold ad7 acA
 have e1:fD (up ns)=some (up ns):=JG (by rw [Gd];exact hlen)
 have h1:aR iH (0,up ns,0)=some ((E.length:Int),up (E++L)):=h1
 rw [ah e1,ah h1,Tre.run_ite,if_pos (by rw [Gd];simp;omega),Tre.aL]
 unfold acd
 rw [hn,apT h2]
 simp [up]
noncomputable def vC:Env:=⟨tau,[(65,kH),(99,axX)],[]⟩
noncomputable def zW:Code:=(Tryz.f64.body).getD .skip
noncomputable def CF (h10_0_0:Int) (h10_0_1:Int) (h10_0_4:Int):(Int×(List Int))→St:=fun x=>bR [(0,(.ref (2,0) [])),(3,(.imm true (.int .i64) h10_0_0)),(4,(.ptr (6,0) [])),(45,(.imm true (.int .i64) h10_0_1)),(46,(.imm true (.int .i64) x.1))] [((2,0),some ⟨false,(.sl (.int .i64)),.own,x.2⟩),((6,0),some ⟨true,(.int .i64),.own,h10_0_4⟩)]
noncomputable def AO (h10_0_0:Int) (_h10_0_1:Int) (h10_0_4:Int):(List Int)→Ex×St:=fun x=>(.exit 2,bR [(0,(.ref (2,0) [])),(3,(.imm true (.int .i64) h10_0_0)),(4,(.ptr (6,0) []))] [((2,0),some ⟨false,(.sl (.int .i64)),.own,x⟩),((6,0),some ⟨true,(.int .i64),.own,h10_0_4⟩)])
noncomputable def QO (s:St):Tre (Ex×St) :=
 dz (2,0) [] (s.tmps 0) <|
 aC true (.int .i64) (s.tmps 3) fun d3 =>
 dW (6,0) [] (s.tmps 4) <|
 aC true (.int .i64) (s.tmps 45) fun d6 =>
 aC true (.int .i64) (s.tmps 46) fun d8 =>
 bD false (.sl (.int .i64)) (s.roots (2,0)) fun m10 d11 =>
 asM .own m10 <|
 bD true (.int .i64) (s.roots (6,0)) fun m13 d14 =>
 asM .own m13 <|
 .mat (aR (lS d3 d6 d14) (d8,d11)) fun x=>.ret (AO d3 d6 d14 x)
noncomputable def nA:bJ:=⟨([0,3,4,45,46],[(2,0),(6,0)]),([0,3,4],[(2,0),(6,0)]),QO⟩
noncomputable def Fx:(Int×(List Int)×Int)→St:=fun x=>bR [(0,(.ref (2,0) [])),(3,(.imm true (.int .i64) x.1)),(4,(.ptr (6,0) []))] [((2,0),some ⟨false,(.sl (.int .i64)),.own,x.2.1⟩),((6,0),some ⟨true,(.int .i64),.own,x.2.2⟩)]
noncomputable def CG:(Int×(List Int))→Ex×St:=fun x=>(.exit 0,bR [(0,(.ref (2,0) [])),(3,(.imm true (.int .i64) x.1))] [((2,0),some ⟨false,(.sl (.int .i64)),.own,x.2⟩)])
noncomputable def TH (s:St):Tre (Ex×St) :=
 dz (2,0) [] (s.tmps 0) <|
 aC true (.int .i64) (s.tmps 3) fun d3 =>
 dW (6,0) [] (s.tmps 4) <|
 bD false (.sl (.int .i64)) (s.roots (2,0)) fun m6 d7 =>
 asM .own m6 <|
 bD true (.int .i64) (s.roots (6,0)) fun m9 d10 =>
 asM .own m9 <|
 .mat (aR iH (d3,d7,d10)) fun x=>.ret (CG x)
noncomputable def pU:bJ:=⟨([0,3,4],[(2,0),(6,0)]),([0,3],[(2,0)]),TH⟩
noncomputable def zV:List (Nat×bJ):=[(10,nA),(4,pU)]
theorem YF:∀ (h10_0_0:Int) (h10_0_1:Int) (h10_0_4:Int) (x:(Int×(List Int))) (c:St→Option (Ex×St)),den vC zV (aY zW 1) (CF h10_0_0 h10_0_1 h10_0_4 x) (bV nA.kp nA.kx c)=(lS h10_0_0 h10_0_1 h10_0_4 x).run (bW (CF h10_0_0 h10_0_1 h10_0_4) (AO h10_0_0 h10_0_1 h10_0_4) c):=fun _ _ _ _ _=>by
 kernel_rfl
theorem acB:bS vC zV (aY zW 1) nA:=bA fun s e s' h=>by
 generalize hs:restrict nA.kp s=s1 at h
 have h:(QO s1).run some=some (e,s'):=h
 obtain ⟨e1,h_0⟩:=bf h
 obtain ⟨d3,e2,h_1⟩:=ak h_0
 obtain ⟨e4,h_2⟩:=bI h_1
 obtain ⟨d6,e5,h_3⟩:=ak h_2
 obtain ⟨d8,e7,h_4⟩:=ak h_3
 obtain ⟨m10,d11,e9,h_5⟩:=aH h_4
 obtain ⟨rfl,h_6⟩:=aQ h_5
 obtain ⟨m13,d14,e12,h_7⟩:=aH h_6
 obtain ⟨rfl,h_8⟩:=aQ h_7
 obtain ⟨y,hy,hz⟩:=bT h_8
 refine ⟨_,_,CF d3 d6 d14,AO d3 d6 d14,lS d3 d6 d14,(d8,d11),y,?_,hy,?_,YF d3 d6 d14⟩
 ·subst hs;exact aT (T:=[(0,(.ref (2,0) [])),(3,(.imm true (.int .i64) d3)),(4,(.ptr (6,0) [])),(45,(.imm true (.int .i64) d6)),(46,(.imm true (.int .i64) d8))]) (U:=[((2,0),some ⟨false,(.sl (.int .i64)),.own,d11⟩),((6,0),some ⟨true,(.int .i64),.own,d14⟩)]) rfl rfl ⟨e1,e2,e4,e5,e7,trivial⟩ ⟨e9,e12,trivial⟩
 ·exact Option.some.inj hz
theorem ZT:∀ (x:(Int×(List Int)×Int)) (c:St→Option (Ex×St)),den vC zV (aY zW 0) (Fx x) (bV pU.kp pU.kx c)=(iH x).run (bW (Fx) (CG) c):=fun _ _=>by
 kernel_rfl
theorem afF:bS vC zV (aY zW 0) pU:=bA fun s e s' h=>by
 generalize hs:restrict pU.kp s=s1 at h
 have h:(TH s1).run some=some (e,s'):=h
 obtain ⟨e1,h_0⟩:=bf h
 obtain ⟨d3,e2,h_1⟩:=ak h_0
 obtain ⟨e4,h_2⟩:=bI h_1
 obtain ⟨m6,d7,e5,h_3⟩:=aH h_2
 obtain ⟨rfl,h_4⟩:=aQ h_3
 obtain ⟨m9,d10,e8,h_5⟩:=aH h_4
 obtain ⟨rfl,h_6⟩:=aQ h_5
 obtain ⟨y,hy,hz⟩:=bT h_6
 refine ⟨_,_,Fx,CG,iH,(d3,d7,d10),y,?_,hy,?_,ZT⟩
 ·subst hs;exact aT (T:=[(0,(.ref (2,0) [])),(3,(.imm true (.int .i64) d3)),(4,(.ptr (6,0) []))]) (U:=[((2,0),some ⟨false,(.sl (.int .i64)),.own,d7⟩),((6,0),some ⟨true,(.int .i64),.own,d10⟩)]) rfl rfl ⟨e1,e2,e4,trivial⟩ ⟨e5,e8,trivial⟩
 ·exact Option.some.inj hz
noncomputable def ad9:FnI:=⟨zW,Tryz.f64.results.toList,Tryz.f64.resultTypes.toList,zV⟩
noncomputable def Xm (_zp0:Bool) (_p0:(List Int)):(List Int)→aB:=fun r=>⟨(.ref (1,0) []),[],[⟨false,(.sl (.int .i64)),.own,r⟩]⟩
theorem alR:∀ (zp0:Bool) (p0:(List Int)),bQ vC ad9 ⟨[(.imm zp0 (.sl (.int .i64)) p0)],[]⟩=(acA p0).run fun r=>some (Xm zp0 p0 r):=fun _ _=>by kernel_rfl
noncomputable def ad8 (av:List AV) (rs:List Root):Tre aB :=
 aJ av fun a0_ av0 =>
 aU av0 <|
 aU rs <|
 bH (.sl (.int .i64)) a0_ fun z2 d1 =>
 .mat (asg d1) fun r=>.ret (Xm z2 d1 r)
noncomputable def TG:Ctr:=⟨[],fun ci=>ad8 ci.args ci.roots,false⟩
theorem ajz:bP Tryz.prog .none vC:=(aA mU aqR (aA ayT at7 aP))
theorem ZU:Contract Tryz.prog .none 64 TG:=by
 have hl:aZ vC zV zW:=(bC (n:=2) (by kernel_rfl) fun k hk=>by
   match k,hk with
   |0,_=>exact bq (id:=4) (L:=pU) (by kernel_rfl) (by kernel_rfl) afF
   |1,_=>exact bq (id:=10) (L:=nA) (by kernel_rfl) (by kernel_rfl) acB)
 refine (aI (F:=ad9) bn ajz Tryz.func64 (by kernel_rfl) (by kernel_rfl) (by kernel_rfl) hl []).weaken ?_
 rintro ⟨av,rs⟩ co h
 have h:(ad8 av rs).run some=some co:=h
 obtain ⟨a0_,av0,rfl,h_0⟩:=au h
 obtain ⟨rfl,h_1⟩:=ay h_0
 obtain ⟨rfl,h_2⟩:=ay h_1
 obtain ⟨z2,d1,rfl,h_3⟩:=aF h_2
 exact wD (alR z2 d1) (ahl d1) h_3
noncomputable def aho (p0:(List Int)):Tre Int :=
 .mat (asg p0) fun r1 =>
 .ret (r1.length:Int)
noncomputable def Jz (p0:(List Int)):Option Int:=(aho p0).run some
-- more
theorem aq0 {f:TF3} (hf:aN f=true) {L:List Nat} (h:inL (FOf f hf) L) (hl:L.length≤1000):Jz (aS L)=some (rkN L:Int):=by
 have h5:=(VJ hf).2
 unfold Jz aho
 rw [ah (show asg (aS L)=some _ from o9 (al4 hf h hl (by omega))),Tre.aL,au2]
noncomputable def YG:Env:=⟨tau,[(64,TG),(45,pW)],[]⟩
noncomputable def ahr:Code:=(Tryz.f33.body).getD .skip
noncomputable def ahq:FnI:=⟨ahr,Tryz.f33.results.toList,Tryz.f33.resultTypes.toList,[]⟩
noncomputable def ZY (_zp0:Bool) (_p0:(List Int)):Int→aB:=fun r=>⟨(.imm true (.int .i64) r),[],[]⟩
theorem anZ:∀ (zp0:Bool) (p0:(List Int)),bQ YG ahq ⟨[(.imm zp0 (.sl (.int .i64)) p0)],[]⟩=(aho p0).run fun r=>some (ZY zp0 p0 r):=fun _ _=>by kernel_rfl
noncomputable def ahp (av:List AV) (rs:List Root):Tre aB :=
 aJ av fun a0_ av0 =>
 aU av0 <|
 aU rs <|
 bH (.sl (.int .i64)) a0_ fun z2 d1 =>
 .mat (Jz d1) fun r=>.ret (ZY z2 d1 r)
noncomputable def YH:Ctr:=⟨[],fun ci=>ahp ci.args ci.roots,false⟩
theorem alV:bP Tryz.prog .none YG:=(aA ZU axt (aA rW anK aP))
theorem aef:Contract Tryz.prog .none 33 YH:=by
 have hl:aZ YG [] ahr:=bB (by kernel_rfl)
 refine (aI (F:=ahq) bn alV Tryz.func33 (by kernel_rfl) (by kernel_rfl) (by kernel_rfl) hl []).weaken ?_
 rintro ⟨av,rs⟩ co h
 have h:(ahp av rs).run some=some co:=h
 obtain ⟨a0_,av0,rfl,h_0⟩:=au h
 obtain ⟨rfl,h_1⟩:=ay h_0
 obtain ⟨rfl,h_2⟩:=ay h_1
 obtain ⟨z2,d1,rfl,h_3⟩:=aF h_2
 exact bK (anZ z2 d1) h_3
noncomputable def fq (h7_0_3:Int) (h7_0_7:Int) (h7_0_10:(Int×(Int×Unit))):(Int×(List Int))→Tre ((Int×(List Int)) ⊕ (List Int)):=fun s7 =>
 .cond (decide (s7.1 < h7_0_7))
  (.mat (fV h7_0_10 h7_0_3 s7.1) fun r2 =>
  .ite ((s7.2.length+1) * 8≤bM∧1≤8) <|
  .ret (.inl (aO .i64 (s7.1+1),s7.2++([r2]))))
  (.ret (.inr s7.2))
noncomputable def eO (h12_0_2:Int) (h12_0_6:Int) (h12_0_8:aK) (h12_0_9:(Int×(Int×Unit))):(Int×(List Int))→Tre ((Int×(List Int)) ⊕ (List Int)):=fun s12 =>
 .cond (decide (s12.1 < h12_0_6))
  (.ite (0≤h12_0_2∧h12_0_2 < (h12_0_8.2.1.length:Int)) <|
  .mat (h12_0_8.2.1[h12_0_2.toNat]?) fun x5 =>
  .mat (fV h12_0_9 x5 s12.1) fun r6 =>
  .ite ((s12.2.length+1) * 8≤bM∧1≤8) <|
  .ret (.inl (aO .i64 (s12.1+1),s12.2++([r6]))))
  (.ret (.inr s12.2))
noncomputable def eZ (h3_0_1:Int) (h3_0_2:(List Int)) (h3_0_3:Int) (h3_0_5:aK) (h3_0_6:(Int×(Int×Unit))):(Int×(List (List Int)))→Tre ((Int×(List (List Int))) ⊕ (List (List Int))):=fun s3 =>
 .cond (decide (s3.1 < h3_0_3))
  (.ite (0≤s3.1∧s3.1 < (h3_0_2.length:Int)) <|
  .mat (h3_0_2[s3.1.toNat]?) fun x1 =>
  .mat (aR (fq x1 (aO .i64 (h3_0_1+1)) h3_0_6) (0,[])) fun l3 =>
  let v4:=aO .i64 (h3_0_1+h3_0_5.2.2.1)
  .mat (aR (eO s3.1 v4 h3_0_5 h3_0_6) (0,l3)) fun l7 =>
  .ite ((s3.2.length+1) * 24≤bM∧1≤24) <|
  .ret (.inl (aO .i64 (s3.1+1),s3.2++([l7]))))
  (.ret (.inr s3.2))
noncomputable def ze (p0:aK) (p1:(List Int)):Tre (Bool×(List Int)) :=
 .mat (aR (eZ (dU p0) p1 (p1.length:Int) p0 p0.1) (0,[])) fun l8 =>
 let v9:=aO .i64 (2 * (dU p0))
 let v10:=aO .i64 ((aO .i64 (v9+1))+p0.2.2.1)
 .mat (kM p0.1 v10 l8) fun r11 =>
 .alt r11
  (fun _ =>
   .ret (false,[]))
  (fun b13 =>
   .ite (0 < b13.length) <|
   let v14:=aO .i64 ((dU p0)+1)
   .ite (0≤(0:Int)∧(0:Int)≤v14∧v14≤(b13.length:Int)) <|
   let v15:=(b13.drop 0).take (v14 - 0).toNat
   .mat (TS v15) fun r16 =>
   .ite (0≤v14∧v14≤(b13.length:Int)∧(b13.length:Int)≤(b13.length:Int)) <|
   let v17:=(b13.drop v14.toNat).take ((b13.length:Int) - v14).toNat
   .mat (TS v17) fun r18 =>
   .cond (decide ((r16.length:Int)=0))
    (.ret (false,[]))
    (.mat (wG p0.1 r18 r16 false) fun r19 =>
    .cond (decide ((r19.2.length:Int) > 0))
     (.ret (false,[]))
     (.cond (decide ((r19.1.length:Int) > p0.2.2.1))
      (.ret (false,[]))
      (let v20:=aO .i64 (p0.2.2.1 - (r19.1.length:Int))
      .ite (0≤v20∧(r19.1.length+v20.toNat) * 8≤bM∧1≤8) <|
      let v21:=r19.1++List.replicate v20.toNat 0
      .mat (kD p0 v21) fun r22 =>
      .mat (NW p1 r22) fun r23 =>
      .mat (Jz r23) fun r24 =>
      .ret (decide (r24≤(dU p0)),v21)))))
noncomputable def kC (p0:aK) (p1:(List Int)):Option (Bool×(List Int)):=(ze p0 p1).run some
-- more
theorem V8 (F:FO) (n x:Nat):F.Ah (n+1) x=F.Ah n x++[F.sqn n x]:=by
 unfold FO.Ah
 rw [List.range_succ,List.map_append]
 rfl
theorem arE {F:FO} {k:Nat} {A:List Nat} (h:inL F A):inL F (tY k A):=aad h fun x hx=>by rw [(List.mem_replicate.1 hx).2];exact F.zlt
noncomputable def Wh {f:TF3} (hf:aN f=true) (P W:List Nat) (k t:Nat):Option (List Nat):=by
 classical
 exact if (DY f (2 * t+1+k) (Ol hf t k P W)).length=2 * t+1+k then none else if h:∃ m,Zp hf P W k t m then some (Classical.choose h) else none
theorem akw {f:TF3} {hf:aN f=true} {P W:List Nat} {k t:Nat} (h:(DY f (2 * t+1+k) (Ol hf t k P W)).length=2 * t+1+k):Wh hf P W k t=none:=by
 unfold Wh;rw [if_pos h]
theorem Co {f:TF3} {hf:aN f=true} {P W:List Nat} {k t:Nat} (h:∀ m,¬ Zp hf P W k t m):Wh hf P W k t=none:=by
 unfold Wh
 split
 ·rfl
 ·rw [dif_neg fun ⟨m,hm⟩=>h m hm]
theorem aky {f:TF3} {hf:aN f=true} {P W:List Nat} {k t:Nat} {m:List Nat} (h:(DY f (2 * t+1+k) (Ol hf t k P W)).length≠2 * t+1+k) (hm:Zp hf P W k t m) (hu:∀ m',Zp hf P W k t m'→m'=m):Wh hf P W k t=some m:=by
 unfold Wh
 rw [if_neg h,dif_pos ⟨m,hm⟩,hu _ (Classical.choose_spec (⟨m,hm⟩:∃ m,Zp hf P W k t m))]
theorem akx {f:TF3} {hf:aN f=true} {P W:List Nat} {k t:Nat} {m:List Nat} (h:Wh hf P W k t=some m):Zp hf P W k t m:=by
 unfold Wh at h
 split at h
 ·cases h
 ·split at h
  ·rename_i h1
   rw [← Option.some.inj h]
   exact Classical.choose_spec h1
  ·cases h
theorem aqf {f:TF3} {P:List Nat} {k:Nat} (hk:k≤P.length) (hn:P.length≤1000):dU (f,aS P,(k:Int),())=(((P.length - k) / 2:Nat):Int):=by
 unfold dU
 dsimp only
 rw [aW,show aO .i64 ((P.length:Int) - (k:Int))=((P.length - k:Nat):Int) by rw [dN (by omega) (by omega)];omega]
 rw [show Int.tdiv ((P.length - k:Nat):Int) 2=(((P.length - k) / 2:Nat):Int) from (Int.ofNat_tdiv (P.length - k) 2).symm]
 exact VT (by omega)
theorem V4 {f:TF3} (hf:aN f=true) {P W:List Nat} {t k:Nat} (hl:W.length=P.length):(Ol hf t k P W).length=P.length:=by
 unfold Ol
 rw [List.length_map,List.length_zip,hl,Nat.min_self]
theorem ak8 {f:TF3} (hf:aN f=true) {P W:List Nat} {t k i:Nat} (hl:W.length=P.length) (hi:i < P.length):(Ol hf t k P W)[i]?=some (aS (aoM hf t k (cf P i) (cf W i))):=by
 unfold Ol
 rw [List.getElem?_map,List.getElem?_zip_eq_some.2 (show P[i]?=some (cf P i,cf W i).1∧W[i]?=some (cf P i,cf W i).2 from ⟨eT hi,eT (by omega)⟩)]
 rfl
theorem asx {f:TF3} (hf:aN f=true) {P W:List Nat} {k t:Nat} (hP:inL (FOf f hf) P) (hW:inL (FOf f hf) W) (hl:W.length=P.length) (hn:P.length≤1000) (hk:k≤1000) (ht:t≤1000) :
  aR (eZ (t:Int) (aS W) ((aS W).length:Int) (f,aS P,(k:Int),()) f) (0,[])=some (Ol hf t k P W):=by
 have hrl:=V4 hf (t:=t) (k:=k) hl
 refine cZ (fun i=>((i:Int),(Ol hf t k P W).take i)) P.length _ (fun i hi=>?_) ?_
 ·have hwi:=eT (show i < W.length by omega)
  have hpi:=eT hi
  have ht1:aO .i64 ((t:Int)+1)=((t+1:Nat):Int):=aX (by omega)
  have htk:aO .i64 ((t:Int)+(k:Int))=((t+k:Nat):Int):=by rw [dN (by omega) (by omega)];omega
  have h1:aR (fq (cf W i:Int) ((t+1:Nat):Int) f) (0,[])=some (aS ((FOf f hf).Ah (t+1) (cf W i))):=by
   refine cZ (fun j=>((j:Int),aS ((FOf f hf).Ah j (cf W i)))) (t+1) _ (fun j hj=>?_) ?_
   ·unfold fq
    dsimp only
    rw [Tre.aG,decide_eq_true (by omega),cond_true,ah (ahI hf (pq hW i) j),Tre.run_ite,if_pos (by rw [aW,FO.BK];unfold bM;omega),Tre.aL,aX (by omega),V8,vE]
    rfl
   ·unfold fq
    dsimp only
    rw [dF,Tre.aL]
  have h2:aR (eO (i:Int) ((t+k:Nat):Int) (f,aS P,(k:Int),()) f) (0,aS ((FOf f hf).Ah (t+1) (cf W i)))=some (aS (aoM hf t k (cf P i) (cf W i))):=by
   have h0:aS ((FOf f hf).Ah (t+1) (cf W i))=aS ((FOf f hf).Ah (t+1) (cf W i)++(FOf f hf).Ah 0 (cf P i)):=by
    rw [show (FOf f hf).Ah 0 (cf P i)=[] from rfl,List.append_nil]
   rw [h0]
   refine cZ (fun j=>((j:Int),aS ((FOf f hf).Ah (t+1) (cf W i)++(FOf f hf).Ah j (cf P i)))) (t+k) _ (fun j hj=>?_) ?_
   ·unfold eO
    dsimp only
    rw [Tre.aG,decide_eq_true (by omega),cond_true,dB (dG hpi),ah (ahI hf (pq hP i) j),Tre.run_ite,if_pos (by rw [aW,List.length_append,FO.BK,FO.BK];unfold bM;omega),Tre.aL,aX (by omega),V8 _ j,← List.append_assoc,vE (_++_) [_]]
    rfl
   ·unfold eO
    dsimp only
    rw [dF,Tre.aL]
    rfl
  unfold eZ
  dsimp only
  rw [eu (dG hwi),ht1,ah h1,htk,ah h2,Tre.run_ite,if_pos (by rw [List.length_take];unfold bM;omega),Tre.aL,aX (by omega),List.take_add_one,ak8 hf hl hi]
  rfl
 ·unfold eZ
  dsimp only
  rw [aW,hl,dF,Tre.aL,List.take_of_length_le (by omega)]
theorem ahH {V N:List Nat} {t:Nat} (h:V.length=t+1):((aS (V++N)).drop 0).take (((t+1:Nat):Int) - 0).toNat=aS V∧((aS (V++N)).drop ((t+1:Nat):Int).toNat).take (((aS (V++N)).length:Int) - ((t+1:Nat):Int)).toNat=aS N:=by
 have hl:(aS V).length=t+1:=by rw [aW,h]
 rw [List.drop_zero,show (((t+1:Nat):Int) - 0).toNat=t+1 by omega,Int.toNat_natCast,aW,List.length_append,h,vE]
 refine ⟨by rw [List.take_append_of_le_length (by omega),List.take_of_length_le (by omega)],?_⟩
 rw [List.drop_append_of_le_length (by omega),List.drop_of_length_le (by omega),List.nil_append,List.take_of_length_le (by rw [aW];omega)]
theorem aqa {f:TF3} (hf:aN f=true) {P W:List Nat} {k:Nat} (hi:FO.yu P) (hP:inL (FOf f hf) P) (hW:inL (FOf f hf) W) (hl:W.length=P.length) (hn:P.length≤10) (hk:1≤k) (hkn:k≤P.length) :
  (∃ m,Wh hf P W k ((P.length - k) / 2)=some m∧kC (f,aS P,(k:Int),()) (aS W)=some (true,aS m))∨(Wh hf P W k ((P.length - k) / 2)=none∧∃ M,kC (f,aS P,(k:Int),()) (aS W)=some (false,M)):=by
 generalize ht:(P.length - k) / 2=t
 have hr:dU (f,aS P,(k:Int),())=(t:Int):=by rw [aqf hkn (by omega),ht]
 have h2t:2 * t+k≤P.length:=by omega
 have hrows:=asx hf hP hW hl (by omega) (show k≤1000 by omega) (show t≤1000 by omega)
 have hgr:=aoN hf (t:=t) (k:=k) hP hW
 have hrl:=V4 hf (t:=t) (k:=k) hl
 have h9:aO .i64 (2 * (t:Int))=((2 * t:Nat):Int):=by rw [dN (by omega) (by omega)];omega
 have h10:aO .i64 (((2 * t:Nat):Int)+1)=((2 * t+1:Nat):Int):=aX (by omega)
 have h11:aO .i64 (((2 * t+1:Nat):Int)+(k:Int))=((2 * t+1+k:Nat):Int):=by rw [dN (by omega) (by omega)];omega
 have ht1:aO .i64 ((t:Int)+1)=((t+1:Nat):Int):=aX (by omega)
 unfold kC ze
 dsimp only
 rw [hr,ah hrows,h9,h10,h11]
 rcases aqd hf (show 2 * t+1+k≤1000 by omega) hgr (by omega) with ⟨hfull,hke⟩ | ⟨hnf,x,hke,hker⟩
 ·exact .inr ⟨akw hfull,[],by rw [ah hke];rfl⟩
 obtain ⟨V,N,rfl,hV,hN,hVi,hNi,hx,ho⟩:=akT hf hP hW hker
 have hall:∀ m,Zp hf P W k t m→_:=fun m hm=>aqN hf hi hP hW hl (by omega) hk h2t hm hV hN hVi hNi hx ho
 obtain ⟨hp1,hp2⟩:=ahH (N:=N) hV
 have hxl:(aS (V++N)).length=2 * t+1+k:=by rw [aW,List.length_append];omega
 have hvt:=lg V
 have hnt:=lg N
 rw [ah hke,Tre.arJ,Tre.run_ite,if_pos (by omega),ht1,Tre.run_ite,if_pos (by omega),hp1,ah (aoc (by omega)),Tre.run_ite,if_pos (by omega),hp2,ah (aoc (by omega)),Tre.aG]
 by_cases hv0:bY V=[]
 ·refine .inr ⟨Co fun m hm=>(hall m hm).1 hv0,[],?_⟩
  rw [decide_eq_true (by rw [aW,hv0];rfl)];rfl
 have hvpos:=List.length_pos_iff.2 hv0
 obtain ⟨A,R,hd1,hd2,hd3,hd4⟩:=aqb hf (vD hNi) (vD hVi) hv0 (wu V) (wu N) (by omega) (by omega)
 rw [decide_eq_false (by rw [aW];omega),cond_false,ah hd1,Tre.aG]
 by_cases hR:R=[]
 ·rw [decide_eq_false (by rw [hR];show ¬ ((0:Nat):Int) > 0;decide),cond_false,Tre.aG]
  by_cases hA:A.length≤k
  ·have hw20:aO .i64 ((k:Int) - ((aS A).length:Int))=((k - A.length:Nat):Int):=by rw [aW,dN (by omega) (by omega)];omega
   have hpad:aS A++List.replicate (k - A.length) (0:Int)=aS (tY k A):=by unfold tY;rw [vE,CQ]
   have hMi:=arE (k:=k) hd2.ia
   have hMl:(tY k A).length=k:=aaJ hA
   have hel:=(FOf f hf).Nn (m:=tY k A) hl
   rw [decide_eq_false (by rw [aW];omega),cond_false,hw20,Int.toNat_natCast,Tre.run_ite,if_pos ⟨by omega,by rw [aW];unfold bM;omega,by omega⟩,hpad]
   rw [ah (ahE hf hMi (by omega) hP (by omega) _),ah (akL hf hW hl (by omega)),ah (aq0 hf ((FOf f hf).agn hW) (by omega)),Tre.aL]
   by_cases hrk:rkN ((FOf f hf).Am P W (tY k A))≤t
   ·refine .inl ⟨tY k A,aky hnf ⟨hMl,hMi,hrk⟩ fun m' hm'=>?_,by rw [decide_eq_true (by omega)]⟩
    obtain ⟨he,_⟩:=(hall m' hm').2 A R hd2 hd3
    rw [he,P5 hm'.1]
   ·refine .inr ⟨Co fun m hm=>hrk ?_,_,by rw [decide_eq_false (by omega)]⟩
    obtain ⟨he,_⟩:=(hall m hm).2 A R hd2 hd3
    rw [he,P5 hm.1]
    exact hm.2.2
  ·refine .inr ⟨Co fun m hm=>hA ?_,[],?_⟩
   ·obtain ⟨he,_⟩:=(hall m hm).2 A R hd2 hd3
    have:=lg m
    rw [he]
    have:=hm.1
    omega
   ·rw [decide_eq_true (by rw [aW];omega)];rfl
 ·have hRp:=List.length_pos_iff.2 hR
  refine .inr ⟨Co fun m hm=>hR ((hall m hm).2 A R hd2 hd3).2,[],?_⟩
  rw [decide_eq_true (by rw [aW];omega)];rfl
noncomputable def dS:Env:=⟨tau,[(61,Es),(62,lZ),(63,La),(48,an4),(47,Nv),(45,pW),(35,u7),(34,acy),(33,YH)],[(1000002,[((17,0),[],false)])]⟩
noncomputable def eD:Code:=(Tryz.f32.body).getD .skip
noncomputable def oC (z7_0:Bool) (z7_1:Bool) (z7_2:Bool) (h7_0_0:(List Int)) (h7_0_1:Int) (h7_0_2:Int) (h7_0_3:Int) (h7_0_4:(List Int)) (h7_0_5:Int) (h7_0_6:Int) (h7_0_7:Int) (h7_0_9:aK) (h7_0_10:(Int×(Int×Unit))) (h7_0_11:(List (List Int))):(Int×(List Int))→St:=fun x=>bR [(1,(.imm z7_0 (.sl (.int .i64)) h7_0_0)),(2,(.ptr (4,0) [])),(6,(.ptr (8,0) [])),(7,(.imm true (.int .i64) h7_0_1)),(8,(.ref (10,0) [])),(9,(.imm true (.int .i64) h7_0_2)),(10,(.imm true (.int .i64) h7_0_3)),(11,(.ref (13,0) [])),(24,(.imm z7_1 (.sl (.int .i64)) h7_0_4)),(25,(.imm true (.int .i64) h7_0_5)),(26,(.imm true (.int .i64) h7_0_6)),(33,(.imm true (.int .i64) h7_0_7)),(34,(.imm true (.int .i64) x.1))] [((4,0),some ⟨true,aV,(.imm z7_2),h7_0_9⟩),((8,0),some ⟨true,aM,.own,h7_0_10⟩),((10,0),some ⟨false,(.sl (.sl (.int .i64))),.own,h7_0_11⟩),((13,0),some ⟨false,(.sl (.int .i64)),.own,x.2⟩)]
noncomputable def mZ (z7_0:Bool) (z7_1:Bool) (z7_2:Bool) (h7_0_0:(List Int)) (h7_0_1:Int) (h7_0_2:Int) (_h7_0_3:Int) (h7_0_4:(List Int)) (h7_0_5:Int) (h7_0_6:Int) (_h7_0_7:Int) (h7_0_9:aK) (h7_0_10:(Int×(Int×Unit))) (h7_0_11:(List (List Int))):(List Int)→Ex×St:=fun x=>(.exit 2,bR [(1,(.imm z7_0 (.sl (.int .i64)) h7_0_0)),(2,(.ptr (4,0) [])),(6,(.ptr (8,0) [])),(7,(.imm true (.int .i64) h7_0_1)),(8,(.ref (10,0) [])),(9,(.imm true (.int .i64) h7_0_2)),(11,(.ref (13,0) [])),(24,(.imm z7_1 (.sl (.int .i64)) h7_0_4)),(25,(.imm true (.int .i64) h7_0_5)),(26,(.imm true (.int .i64) h7_0_6))] [((4,0),some ⟨true,aV,(.imm z7_2),h7_0_9⟩),((8,0),some ⟨true,aM,.own,h7_0_10⟩),((10,0),some ⟨false,(.sl (.sl (.int .i64))),.own,h7_0_11⟩),((13,0),some ⟨false,(.sl (.int .i64)),.own,x⟩)])
noncomputable def zU (s:St):Tre (Ex×St) :=
 bH (.sl (.int .i64)) (s.tmps 1) fun z3 d2 =>
 dW (4,0) [] (s.tmps 2) <|
 dW (8,0) [] (s.tmps 6) <|
 aC true (.int .i64) (s.tmps 7) fun d7 =>
 dz (10,0) [] (s.tmps 8) <|
 aC true (.int .i64) (s.tmps 9) fun d10 =>
 aC true (.int .i64) (s.tmps 10) fun d12 =>
 dz (13,0) [] (s.tmps 11) <|
 bH (.sl (.int .i64)) (s.tmps 24) fun z16 d15 =>
 aC true (.int .i64) (s.tmps 25) fun d18 =>
 aC true (.int .i64) (s.tmps 26) fun d20 =>
 aC true (.int .i64) (s.tmps 33) fun d22 =>
 aC true (.int .i64) (s.tmps 34) fun d24 =>
 bD true aV (s.roots (4,0)) fun m26 d27 =>
 uQ m26 fun z28 =>
 bD true aM (s.roots (8,0)) fun m30 d31 =>
 asM .own m30 <|
 bD false (.sl (.sl (.int .i64))) (s.roots (10,0)) fun m33 d34 =>
 asM .own m33 <|
 bD false (.sl (.int .i64)) (s.roots (13,0)) fun m36 d37 =>
 asM .own m36 <|
 .mat (aR (fq d12 d22 d31) (d24,d37)) fun x=>.ret (mZ z3 z16 z28 d2 d7 d10 d12 d15 d18 d20 d22 d27 d31 d34 x)
noncomputable def fF:bJ:=⟨([1,2,6,7,8,9,10,11,24,25,26,33,34],[(4,0),(8,0),(10,0),(13,0)]),([1,2,6,7,8,9,11,24,25,26],[(4,0),(8,0),(10,0),(13,0)]),zU⟩
noncomputable def mX (z12_0:Bool) (z12_1:Bool) (z12_2:Bool) (h12_0_0:(List Int)) (h12_0_1:Int) (h12_0_2:Int) (h12_0_3:(List Int)) (h12_0_4:Int) (h12_0_5:Int) (h12_0_6:Int) (h12_0_8:aK) (h12_0_9:(Int×(Int×Unit))) (h12_0_10:(List (List Int))):(Int×(List Int))→St:=fun x=>bR [(1,(.imm z12_0 (.sl (.int .i64)) h12_0_0)),(2,(.ptr (4,0) [])),(6,(.ptr (8,0) [])),(7,(.imm true (.int .i64) h12_0_1)),(8,(.ref (10,0) [])),(9,(.imm true (.int .i64) h12_0_2)),(11,(.ref (13,0) [])),(24,(.imm z12_1 (.sl (.int .i64)) h12_0_3)),(25,(.imm true (.int .i64) h12_0_4)),(26,(.imm true (.int .i64) h12_0_5)),(48,(.imm true (.int .i64) h12_0_6)),(49,(.imm true (.int .i64) x.1))] [((4,0),some ⟨true,aV,(.imm z12_2),h12_0_8⟩),((8,0),some ⟨true,aM,.own,h12_0_9⟩),((10,0),some ⟨false,(.sl (.sl (.int .i64))),.own,h12_0_10⟩),((13,0),some ⟨false,(.sl (.int .i64)),.own,x.2⟩)]
noncomputable def mF (z12_0:Bool) (z12_1:Bool) (z12_2:Bool) (h12_0_0:(List Int)) (h12_0_1:Int) (_h12_0_2:Int) (h12_0_3:(List Int)) (h12_0_4:Int) (h12_0_5:Int) (_h12_0_6:Int) (h12_0_8:aK) (h12_0_9:(Int×(Int×Unit))) (h12_0_10:(List (List Int))):(List Int)→Ex×St:=fun x=>(.exit 4,bR [(1,(.imm z12_0 (.sl (.int .i64)) h12_0_0)),(2,(.ptr (4,0) [])),(6,(.ptr (8,0) [])),(7,(.imm true (.int .i64) h12_0_1)),(8,(.ref (10,0) [])),(11,(.ref (13,0) [])),(24,(.imm z12_1 (.sl (.int .i64)) h12_0_3)),(25,(.imm true (.int .i64) h12_0_4)),(26,(.imm true (.int .i64) h12_0_5))] [((4,0),some ⟨true,aV,(.imm z12_2),h12_0_8⟩),((8,0),some ⟨true,aM,.own,h12_0_9⟩),((10,0),some ⟨false,(.sl (.sl (.int .i64))),.own,h12_0_10⟩),((13,0),some ⟨false,(.sl (.int .i64)),.own,x⟩)])
noncomputable def yB (s:St):Tre (Ex×St) :=
 bH (.sl (.int .i64)) (s.tmps 1) fun z3 d2 =>
 dW (4,0) [] (s.tmps 2) <|
 dW (8,0) [] (s.tmps 6) <|
 aC true (.int .i64) (s.tmps 7) fun d7 =>
 dz (10,0) [] (s.tmps 8) <|
 aC true (.int .i64) (s.tmps 9) fun d10 =>
 dz (13,0) [] (s.tmps 11) <|
 bH (.sl (.int .i64)) (s.tmps 24) fun z14 d13 =>
 aC true (.int .i64) (s.tmps 25) fun d16 =>
 aC true (.int .i64) (s.tmps 26) fun d18 =>
 aC true (.int .i64) (s.tmps 48) fun d20 =>
 aC true (.int .i64) (s.tmps 49) fun d22 =>
 bD true aV (s.roots (4,0)) fun m24 d25 =>
 uQ m24 fun z26 =>
 bD true aM (s.roots (8,0)) fun m28 d29 =>
 asM .own m28 <|
 bD false (.sl (.sl (.int .i64))) (s.roots (10,0)) fun m31 d32 =>
 asM .own m31 <|
 bD false (.sl (.int .i64)) (s.roots (13,0)) fun m34 d35 =>
 asM .own m34 <|
 .mat (aR (eO d10 d20 d25 d29) (d22,d35)) fun x=>.ret (mF z3 z14 z26 d2 d7 d10 d13 d16 d18 d20 d25 d29 d32 x)
noncomputable def eY:bJ:=⟨([1,2,6,7,8,9,11,24,25,26,48,49],[(4,0),(8,0),(10,0),(13,0)]),([1,2,6,7,8,11,24,25,26],[(4,0),(8,0),(10,0),(13,0)]),yB⟩
noncomputable def oz (z3_0:Bool) (z3_1:Bool) (z3_2:Bool) (h3_0_0:(List Int)) (h3_0_1:Int) (h3_0_2:(List Int)) (h3_0_3:Int) (h3_0_5:aK) (h3_0_6:(Int×(Int×Unit))):(Int×(List (List Int)))→St:=fun x=>bR [(1,(.imm z3_0 (.sl (.int .i64)) h3_0_0)),(2,(.ptr (4,0) [])),(6,(.ptr (8,0) [])),(7,(.imm true (.int .i64) h3_0_1)),(8,(.ref (10,0) [])),(24,(.imm z3_1 (.sl (.int .i64)) h3_0_2)),(25,(.imm true (.int .i64) h3_0_3)),(26,(.imm true (.int .i64) x.1))] [((4,0),some ⟨true,aV,(.imm z3_2),h3_0_5⟩),((8,0),some ⟨true,aM,.own,h3_0_6⟩),((10,0),some ⟨false,(.sl (.sl (.int .i64))),.own,x.2⟩)]
noncomputable def mY (z3_0:Bool) (_z3_1:Bool) (z3_2:Bool) (h3_0_0:(List Int)) (h3_0_1:Int) (_h3_0_2:(List Int)) (_h3_0_3:Int) (h3_0_5:aK) (h3_0_6:(Int×(Int×Unit))):(List (List Int))→Ex×St:=fun x=>(.exit 0,bR [(1,(.imm z3_0 (.sl (.int .i64)) h3_0_0)),(2,(.ptr (4,0) [])),(6,(.ptr (8,0) [])),(7,(.imm true (.int .i64) h3_0_1)),(8,(.ref (10,0) []))] [((4,0),some ⟨true,aV,(.imm z3_2),h3_0_5⟩),((8,0),some ⟨true,aM,.own,h3_0_6⟩),((10,0),some ⟨false,(.sl (.sl (.int .i64))),.own,x⟩)])
noncomputable def zT (s:St):Tre (Ex×St) :=
 bH (.sl (.int .i64)) (s.tmps 1) fun z3 d2 =>
 dW (4,0) [] (s.tmps 2) <|
 dW (8,0) [] (s.tmps 6) <|
 aC true (.int .i64) (s.tmps 7) fun d7 =>
 dz (10,0) [] (s.tmps 8) <|
 bH (.sl (.int .i64)) (s.tmps 24) fun z11 d10 =>
 aC true (.int .i64) (s.tmps 25) fun d13 =>
 aC true (.int .i64) (s.tmps 26) fun d15 =>
 bD true aV (s.roots (4,0)) fun m17 d18 =>
 uQ m17 fun z19 =>
 bD true aM (s.roots (8,0)) fun m21 d22 =>
 asM .own m21 <|
 bD false (.sl (.sl (.int .i64))) (s.roots (10,0)) fun m24 d25 =>
 asM .own m24 <|
 .mat (aR (eZ d7 d10 d13 d18 d22) (d15,d25)) fun x=>.ret (mY z3 z11 z19 d2 d7 d10 d13 d18 d22 x)
noncomputable def fE:bJ:=⟨([1,2,6,7,8,24,25,26],[(4,0),(8,0),(10,0)]),([1,2,6,7,8],[(4,0),(8,0),(10,0)]),zT⟩
noncomputable def eB:List (Nat×bJ):=[(7,fF),(12,eY),(3,fE)]
theorem I7:∀ (z7_0:Bool) (z7_1:Bool) (z7_2:Bool) (h7_0_0:(List Int)) (h7_0_1:Int) (h7_0_2:Int) (h7_0_3:Int) (h7_0_4:(List Int)) (h7_0_5:Int) (h7_0_6:Int) (h7_0_7:Int) (h7_0_9:aK) (h7_0_10:(Int×(Int×Unit))) (h7_0_11:(List (List Int))) (x:(Int×(List Int))) (c:St→Option (Ex×St)),den dS eB (aY eD 1) (oC z7_0 z7_1 z7_2 h7_0_0 h7_0_1 h7_0_2 h7_0_3 h7_0_4 h7_0_5 h7_0_6 h7_0_7 h7_0_9 h7_0_10 h7_0_11 x) (bV fF.kp fF.kx c)=(fq h7_0_3 h7_0_7 h7_0_10 x).run (bW (oC z7_0 z7_1 z7_2 h7_0_0 h7_0_1 h7_0_2 h7_0_3 h7_0_4 h7_0_5 h7_0_6 h7_0_7 h7_0_9 h7_0_10 h7_0_11) (mZ z7_0 z7_1 z7_2 h7_0_0 h7_0_1 h7_0_2 h7_0_3 h7_0_4 h7_0_5 h7_0_6 h7_0_7 h7_0_9 h7_0_10 h7_0_11) c):=fun _ _ _ _ _ _ _ _ _ _ _ _ _ _ _ _=>by
 kernel_rfl
theorem MK:bS dS eB (aY eD 1) fF:=bA fun s e s' h=>by
 generalize hs:restrict fF.kp s=s1 at h
 have h:(zU s1).run some=some (e,s'):=h
 obtain ⟨z3,d2,e1,h_0⟩:=aF h
 obtain ⟨e4,h_1⟩:=bI h_0
 obtain ⟨e5,h_2⟩:=bI h_1
 obtain ⟨d7,e6,h_3⟩:=ak h_2
 obtain ⟨e8,h_4⟩:=bf h_3
 obtain ⟨d10,e9,h_5⟩:=ak h_4
 obtain ⟨d12,e11,h_6⟩:=ak h_5
 obtain ⟨e13,h_7⟩:=bf h_6
 obtain ⟨z16,d15,e14,h_8⟩:=aF h_7
 obtain ⟨d18,e17,h_9⟩:=ak h_8
 obtain ⟨d20,e19,h_10⟩:=ak h_9
 obtain ⟨d22,e21,h_11⟩:=ak h_10
 obtain ⟨d24,e23,h_12⟩:=ak h_11
 obtain ⟨m26,d27,e25,h_13⟩:=aH h_12
 obtain ⟨z28,rfl,h_14⟩:=fG h_13
 obtain ⟨m30,d31,e29,h_15⟩:=aH h_14
 obtain ⟨rfl,h_16⟩:=aQ h_15
 obtain ⟨m33,d34,e32,h_17⟩:=aH h_16
 obtain ⟨rfl,h_18⟩:=aQ h_17
 obtain ⟨m36,d37,e35,h_19⟩:=aH h_18
 obtain ⟨rfl,h_20⟩:=aQ h_19
 obtain ⟨y,hy,hz⟩:=bT h_20
 refine ⟨_,_,oC z3 z16 z28 d2 d7 d10 d12 d15 d18 d20 d22 d27 d31 d34,mZ z3 z16 z28 d2 d7 d10 d12 d15 d18 d20 d22 d27 d31 d34,fq d12 d22 d31,(d24,d37),y,?_,hy,?_,I7 z3 z16 z28 d2 d7 d10 d12 d15 d18 d20 d22 d27 d31 d34⟩
 ·subst hs;exact aT (T:=[(1,(.imm z3 (.sl (.int .i64)) d2)),(2,(.ptr (4,0) [])),(6,(.ptr (8,0) [])),(7,(.imm true (.int .i64) d7)),(8,(.ref (10,0) [])),(9,(.imm true (.int .i64) d10)),(10,(.imm true (.int .i64) d12)),(11,(.ref (13,0) [])),(24,(.imm z16 (.sl (.int .i64)) d15)),(25,(.imm true (.int .i64) d18)),(26,(.imm true (.int .i64) d20)),(33,(.imm true (.int .i64) d22)),(34,(.imm true (.int .i64) d24))]) (U:=[((4,0),some ⟨true,aV,(.imm z28),d27⟩),((8,0),some ⟨true,aM,.own,d31⟩),((10,0),some ⟨false,(.sl (.sl (.int .i64))),.own,d34⟩),((13,0),some ⟨false,(.sl (.int .i64)),.own,d37⟩)]) rfl rfl ⟨e1,e4,e5,e6,e8,e9,e11,e13,e14,e17,e19,e21,e23,trivial⟩ ⟨e25,e29,e32,e35,trivial⟩
 ·exact Option.some.inj hz
theorem G8:∀ (z12_0:Bool) (z12_1:Bool) (z12_2:Bool) (h12_0_0:(List Int)) (h12_0_1:Int) (h12_0_2:Int) (h12_0_3:(List Int)) (h12_0_4:Int) (h12_0_5:Int) (h12_0_6:Int) (h12_0_8:aK) (h12_0_9:(Int×(Int×Unit))) (h12_0_10:(List (List Int))) (x:(Int×(List Int))) (c:St→Option (Ex×St)),den dS eB (aY eD 2) (mX z12_0 z12_1 z12_2 h12_0_0 h12_0_1 h12_0_2 h12_0_3 h12_0_4 h12_0_5 h12_0_6 h12_0_8 h12_0_9 h12_0_10 x) (bV eY.kp eY.kx c)=(eO h12_0_2 h12_0_6 h12_0_8 h12_0_9 x).run (bW (mX z12_0 z12_1 z12_2 h12_0_0 h12_0_1 h12_0_2 h12_0_3 h12_0_4 h12_0_5 h12_0_6 h12_0_8 h12_0_9 h12_0_10) (mF z12_0 z12_1 z12_2 h12_0_0 h12_0_1 h12_0_2 h12_0_3 h12_0_4 h12_0_5 h12_0_6 h12_0_8 h12_0_9 h12_0_10) c):=fun _ _ _ _ _ _ _ _ _ _ _ _ _ _ _=>by
 kernel_rfl
theorem KI:bS dS eB (aY eD 2) eY:=bA fun s e s' h=>by
 generalize hs:restrict eY.kp s=s1 at h
 have h:(yB s1).run some=some (e,s'):=h
 obtain ⟨z3,d2,e1,h_0⟩:=aF h
 obtain ⟨e4,h_1⟩:=bI h_0
 obtain ⟨e5,h_2⟩:=bI h_1
 obtain ⟨d7,e6,h_3⟩:=ak h_2
 obtain ⟨e8,h_4⟩:=bf h_3
 obtain ⟨d10,e9,h_5⟩:=ak h_4
 obtain ⟨e11,h_6⟩:=bf h_5
 obtain ⟨z14,d13,e12,h_7⟩:=aF h_6
 obtain ⟨d16,e15,h_8⟩:=ak h_7
 obtain ⟨d18,e17,h_9⟩:=ak h_8
 obtain ⟨d20,e19,h_10⟩:=ak h_9
 obtain ⟨d22,e21,h_11⟩:=ak h_10
 obtain ⟨m24,d25,e23,h_12⟩:=aH h_11
 obtain ⟨z26,rfl,h_13⟩:=fG h_12
 obtain ⟨m28,d29,e27,h_14⟩:=aH h_13
 obtain ⟨rfl,h_15⟩:=aQ h_14
 obtain ⟨m31,d32,e30,h_16⟩:=aH h_15
 obtain ⟨rfl,h_17⟩:=aQ h_16
 obtain ⟨m34,d35,e33,h_18⟩:=aH h_17
 obtain ⟨rfl,h_19⟩:=aQ h_18
 obtain ⟨y,hy,hz⟩:=bT h_19
 refine ⟨_,_,mX z3 z14 z26 d2 d7 d10 d13 d16 d18 d20 d25 d29 d32,mF z3 z14 z26 d2 d7 d10 d13 d16 d18 d20 d25 d29 d32,eO d10 d20 d25 d29,(d22,d35),y,?_,hy,?_,G8 z3 z14 z26 d2 d7 d10 d13 d16 d18 d20 d25 d29 d32⟩
 ·subst hs;exact aT (T:=[(1,(.imm z3 (.sl (.int .i64)) d2)),(2,(.ptr (4,0) [])),(6,(.ptr (8,0) [])),(7,(.imm true (.int .i64) d7)),(8,(.ref (10,0) [])),(9,(.imm true (.int .i64) d10)),(11,(.ref (13,0) [])),(24,(.imm z14 (.sl (.int .i64)) d13)),(25,(.imm true (.int .i64) d16)),(26,(.imm true (.int .i64) d18)),(48,(.imm true (.int .i64) d20)),(49,(.imm true (.int .i64) d22))]) (U:=[((4,0),some ⟨true,aV,(.imm z26),d25⟩),((8,0),some ⟨true,aM,.own,d29⟩),((10,0),some ⟨false,(.sl (.sl (.int .i64))),.own,d32⟩),((13,0),some ⟨false,(.sl (.int .i64)),.own,d35⟩)]) rfl rfl ⟨e1,e4,e5,e6,e8,e9,e11,e12,e15,e17,e19,e21,trivial⟩ ⟨e23,e27,e30,e33,trivial⟩
 ·exact Option.some.inj hz
theorem I6:∀ (z3_0:Bool) (z3_1:Bool) (z3_2:Bool) (h3_0_0:(List Int)) (h3_0_1:Int) (h3_0_2:(List Int)) (h3_0_3:Int) (h3_0_5:aK) (h3_0_6:(Int×(Int×Unit))) (x:(Int×(List (List Int)))) (c:St→Option (Ex×St)),den dS eB (aY eD 0) (oz z3_0 z3_1 z3_2 h3_0_0 h3_0_1 h3_0_2 h3_0_3 h3_0_5 h3_0_6 x) (bV fE.kp fE.kx c)=(eZ h3_0_1 h3_0_2 h3_0_3 h3_0_5 h3_0_6 x).run (bW (oz z3_0 z3_1 z3_2 h3_0_0 h3_0_1 h3_0_2 h3_0_3 h3_0_5 h3_0_6) (mY z3_0 z3_1 z3_2 h3_0_0 h3_0_1 h3_0_2 h3_0_3 h3_0_5 h3_0_6) c):=fun _ _ _ _ _ _ _ _ _ _ _=>by
 kernel_rfl
theorem MJ:bS dS eB (aY eD 0) fE:=bA fun s e s' h=>by
 generalize hs:restrict fE.kp s=s1 at h
 have h:(zT s1).run some=some (e,s'):=h
 obtain ⟨z3,d2,e1,h_0⟩:=aF h
 obtain ⟨e4,h_1⟩:=bI h_0
 obtain ⟨e5,h_2⟩:=bI h_1
 obtain ⟨d7,e6,h_3⟩:=ak h_2
 obtain ⟨e8,h_4⟩:=bf h_3
 obtain ⟨z11,d10,e9,h_5⟩:=aF h_4
 obtain ⟨d13,e12,h_6⟩:=ak h_5
 obtain ⟨d15,e14,h_7⟩:=ak h_6
 obtain ⟨m17,d18,e16,h_8⟩:=aH h_7
 obtain ⟨z19,rfl,h_9⟩:=fG h_8
 obtain ⟨m21,d22,e20,h_10⟩:=aH h_9
 obtain ⟨rfl,h_11⟩:=aQ h_10
 obtain ⟨m24,d25,e23,h_12⟩:=aH h_11
 obtain ⟨rfl,h_13⟩:=aQ h_12
 obtain ⟨y,hy,hz⟩:=bT h_13
 refine ⟨_,_,oz z3 z11 z19 d2 d7 d10 d13 d18 d22,mY z3 z11 z19 d2 d7 d10 d13 d18 d22,eZ d7 d10 d13 d18 d22,(d15,d25),y,?_,hy,?_,I6 z3 z11 z19 d2 d7 d10 d13 d18 d22⟩
 ·subst hs;exact aT (T:=[(1,(.imm z3 (.sl (.int .i64)) d2)),(2,(.ptr (4,0) [])),(6,(.ptr (8,0) [])),(7,(.imm true (.int .i64) d7)),(8,(.ref (10,0) [])),(24,(.imm z11 (.sl (.int .i64)) d10)),(25,(.imm true (.int .i64) d13)),(26,(.imm true (.int .i64) d15))]) (U:=[((4,0),some ⟨true,aV,(.imm z19),d18⟩),((8,0),some ⟨true,aM,.own,d22⟩),((10,0),some ⟨false,(.sl (.sl (.int .i64))),.own,d25⟩)]) rfl rfl ⟨e1,e4,e5,e6,e8,e9,e12,e14,trivial⟩ ⟨e16,e20,e23,trivial⟩
 ·exact Option.some.inj hz
noncomputable def Ei:FnI:=⟨eD,Tryz.f32.results.toList,Tryz.f32.resultTypes.toList,eB⟩
noncomputable def Aw (_zp0:Bool) (_zp1:Bool) (_p0:aK) (_p1:(List Int)):(Bool×(List Int))→aB:=fun r=>⟨(.tcons (.ref (1,0) []) (.tcons (.imm true .bool r.1) .tnil)),[],[⟨false,(.sl (.int .i64)),.own,r.2⟩]⟩
theorem RY:∀ (zp0:Bool) (zp1:Bool) (p0:aK) (p1:(List Int)),bQ dS Ei ⟨[(.imm zp0 aV p0),(.imm zp1 (.sl (.int .i64)) p1)],[]⟩=(ze p0 p1).run fun r=>some (Aw zp0 zp1 p0 p1 r):=fun _ _ _ _=>by kernel_rfl
noncomputable def Eh (av:List AV) (rs:List Root):Tre aB :=
 aJ av fun a0_ av0 =>
 aJ av0 fun a1_ av1 =>
 aU av1 <|
 aU rs <|
 bH aV a0_ fun z2 d1 =>
 bH (.sl (.int .i64)) a1_ fun z4 d3 =>
 .mat (kC d1 d3) fun r=>.ret (Aw z2 z4 d1 d3 r)
noncomputable def Ej:Ctr:=⟨[],fun ci=>Eh ci.args ci.roots,false⟩
theorem Pj:bP Tryz.prog .none dS:=(aA R5 azC (aA nO anL (aA Yy azD (aA asw at5 (aA ZG azw (aA rW anK (aA BP axo (aA ahg axn (aA aef axl aP)))))))))
theorem RZ:Contract Tryz.prog .none 32 Ej:=by
 have hl:aZ dS eB eD:=(bC (n:=3) (by kernel_rfl) fun k hk=>by
   match k,hk with
   |0,_=>exact bq (id:=3) (L:=fE) (by kernel_rfl) (by kernel_rfl) MJ
   |1,_=>exact bq (id:=7) (L:=fF) (by kernel_rfl) (by kernel_rfl) MK
   |2,_=>exact bq (id:=12) (L:=eY) (by kernel_rfl) (by kernel_rfl) KI)
 refine (aI (F:=Ei) bn Pj Tryz.func32 (by kernel_rfl) (by kernel_rfl) (by kernel_rfl) hl []).weaken ?_
 rintro ⟨av,rs⟩ co h
 have h:(Eh av rs).run some=some co:=h
 obtain ⟨a0_,av0,rfl,h_0⟩:=au h
 obtain ⟨a1_,av1,rfl,h_1⟩:=au h_0
 obtain ⟨rfl,h_2⟩:=ay h_1
 obtain ⟨rfl,h_3⟩:=ay h_2
 obtain ⟨z2,d1,rfl,h_4⟩:=aF h_3
 obtain ⟨z4,d3,rfl,h_5⟩:=aF h_4
 exact bK (RY z2 z4 d1 d3) h_5
noncomputable def gQ (h8_0_0:(List Int)) (h8_0_1:Int) (h8_0_2:Int) (h8_0_4:aK):(Int×(List Int))→Tre ((Int×(List Int)) ⊕ (List Int)):=fun s8 =>
 .cond (decide (s8.1≤h8_0_1))
  (.ite (0≤h8_0_2∧h8_0_2 < (h8_0_0.length:Int)) <|
  .mat (h8_0_0[h8_0_2.toNat]?) fun x2 =>
  .mat (lU h8_0_4.1 x2 s8.1) fun r3 =>
  .ite ((s8.2.length+1) * 8≤bM∧1≤8) <|
  .ret (.inl (aO .i64 (s8.1+1),s8.2++([r3]))))
  (.ret (.inr s8.2))
noncomputable def fT (h12_0_1:Int) (h12_0_2:Int) (h12_0_4:aK):(Int×(List Int))→Tre ((Int×(List Int)) ⊕ (List Int)):=fun s12 =>
 let v5:=aO .i64 (h12_0_1+h12_0_4.2.2.1)
 .cond (decide (s12.1 < v5))
  (.ite (0≤h12_0_2∧h12_0_2 < (h12_0_4.2.1.length:Int)) <|
  .mat (h12_0_4.2.1[h12_0_2.toNat]?) fun x6 =>
  .mat (lU h12_0_4.1 x6 s12.1) fun r7 =>
  .ite ((s12.2.length+1) * 8≤bM∧1≤8) <|
  .ret (.inl (aO .i64 (s12.1+1),s12.2++([r7]))))
  (.ret (.inr s12.2))
noncomputable def gP (h4_0_0:(List Int)) (h4_0_1:Int) (h4_0_3:aK):(Int×(List (List Int)))→Tre ((Int×(List (List Int))) ⊕ (List (List Int))):=fun s4 =>
 .cond (decide (s4.1 < (h4_0_0.length:Int)))
  (.mat (aR (gQ h4_0_0 h4_0_1 s4.1 h4_0_3) (0,[])) fun l4 =>
  .mat (aR (fT h4_0_1 s4.1 h4_0_3) (0,l4)) fun l8 =>
  .ite ((s4.2.length+1) * 24≤bM∧1≤24) <|
  .ret (.inl (aO .i64 (s4.1+1),s4.2++([l8]))))
  (.ret (.inr s4.2))
noncomputable def Dk (p0:(List Int)) (p1:aK):Tre ((Int×Bool×(List Int)) ⊕ ((List Int)×Int×Bool)) :=
 let v1:=yK (p1.2.1.length:Int) p1.2.2.1
 .mat (aR (gP p0 v1 p1) (0,[])) fun l9 =>
 let v10:=aO .i64 ((aO .i64 (2 * v1))+1)
 let v11:=aO .i64 (v10+p1.2.2.1)
 .mat (Ad p1.1 v11 l9) fun r12 =>
 .cond (!r12.1)
  (.ret (.inl (0,false,[])))
  (.ite (0≤aO .i64 (v1+1)∧aO .i64 (v1+1)≤(r12.2.length:Int)∧(r12.2.length:Int)≤(r12.2.length:Int)) <|
  .ite (0≤(0:Int)∧(0:Int)≤aO .i64 (v1+1)∧aO .i64 (v1+1)≤(r12.2.length:Int)) <|
  .mat (sG p1.1 ((r12.2.drop ((aO .i64 (v1+1)).toNat)).take (((r12.2.length:Int) - (aO .i64 (v1+1))).toNat)) ((r12.2.drop 0).take (((aO .i64 (v1+1)) - 0).toNat)) p1.2.2.1) fun r13 =>
  .cond (!r13.2)
   (.ret (.inl (0,false,[])))
   (.mat (wY p1 r13.1) fun r14 =>
   .mat (H7 p1.1 r14 p0) fun r15 =>
   .cond (decide (r15 > v1))
    (.ret (.inl (0,false,[])))
    (.ret (.inr (r13.1,r15,true)))))
noncomputable def mQ (p0:(List Int)) (p1:aK):Option ((Int×Bool×(List Int)) ⊕ ((List Int)×Int×Bool)):=(Dk p0 p1).run some
-- more
theorem aqB {P:List Nat} {k:Nat} (hk:k≤P.length) (hn:P.length≤1000):yK ((aS P).length:Int) (k:Int)=(((P.length - k) / 2:Nat):Int):=by
 unfold yK
 rw [aW,show aO .i64 ((P.length:Int) - (k:Int))=((P.length - k:Nat):Int) by rw [dN (by omega) (by omega)];omega]
 rw [show Int.tdiv ((P.length - k:Nat):Int) 2=(((P.length - k) / 2:Nat):Int) from (Int.ofNat_tdiv (P.length - k) 2).symm]
 exact VT (by omega)
theorem as0 {f:TF3} (hf:aN f=true) {P W:List Nat} {k t:Nat} (hP:inL (FOf f hf) P) (hW:inL (FOf f hf) W) (hl:W.length=P.length) (hn:P.length≤1000) (hk:k≤1000) (ht:t≤1000) :
  aR (gP (aS W) (t:Int) (f,aS P,(k:Int),())) (0,[])=some (Ol hf t k P W):=by
 have hrl:=V4 hf (t:=t) (k:=k) hl
 refine cZ (fun i=>((i:Int),(Ol hf t k P W).take i)) P.length _ (fun i hi=>?_) ?_
 ·have hwi:=eT (show i < W.length by omega)
  have hpi:=eT hi
  have htk:aO .i64 ((t:Int)+(k:Int))=((t+k:Nat):Int):=by rw [dN (by omega) (by omega)];omega
  have h1:aR (gQ (aS W) (t:Int) (i:Int) (f,aS P,(k:Int),())) (0,[])=some (aS ((FOf f hf).Ah (t+1) (cf W i))):=by
   refine cZ (fun j=>((j:Int),aS ((FOf f hf).Ah j (cf W i)))) (t+1) _ (fun j hj=>?_) ?_
   ·unfold gQ
    dsimp only
    rw [Tre.aG,decide_eq_true (by omega),cond_true,dB (dG hwi),ah (ai7 hf (pq hW i) j),Tre.run_ite,if_pos (by rw [aW,FO.BK];unfold bM;omega),Tre.aL,aX (by omega),V8,vE]
    rfl
   ·unfold gQ
    dsimp only
    rw [Tre.aG,decide_eq_false (by omega),cond_false,Tre.aL]
  have h2:aR (fT (t:Int) (i:Int) (f,aS P,(k:Int),())) (0,aS ((FOf f hf).Ah (t+1) (cf W i)))=some (aS (aoM hf t k (cf P i) (cf W i))):=by
   have h0:aS ((FOf f hf).Ah (t+1) (cf W i))=aS ((FOf f hf).Ah (t+1) (cf W i)++(FOf f hf).Ah 0 (cf P i)):=by
    rw [show (FOf f hf).Ah 0 (cf P i)=[] from rfl,List.append_nil]
   rw [h0]
   refine cZ (fun j=>((j:Int),aS ((FOf f hf).Ah (t+1) (cf W i)++(FOf f hf).Ah j (cf P i)))) (t+k) _ (fun j hj=>?_) ?_
   ·unfold fT
    dsimp only
    rw [htk,Tre.aG,decide_eq_true (by omega),cond_true,dB (dG hpi),ah (ai7 hf (pq hP i) j),Tre.run_ite,if_pos (by rw [aW,List.length_append,FO.BK,FO.BK];unfold bM;omega),Tre.aL,aX (by omega),V8 _ j,← List.append_assoc,vE (_++_) [_]]
    rfl
   ·unfold fT
    dsimp only
    rw [htk,dF,Tre.aL]
    rfl
  unfold gP
  dsimp only
  rw [Tre.aG,decide_eq_true (by rw [aW];omega),cond_true,ah h1,ah h2,Tre.run_ite,if_pos (by rw [List.length_take];unfold bM;omega),Tre.aL,aX (by omega),List.take_add_one,ak8 hf hl hi]
  rfl
 ·unfold gP
  dsimp only
  rw [aW,hl,dF,Tre.aL,List.take_of_length_le (by omega)]
theorem ao7 {f:TF3} (hf:aN f=true) {V N:List Nat} {k:Nat} (hVi:inL (FOf f hf) V) (hNi:inL (FOf f hf) N) (hVl:V.length≤12) (hNl:N.length≤12) (hk:k≤1000) :
  (bY V=[]∧sG f (aS N) (aS V) (k:Int)=some ([],false))∨(bY V≠[]∧∃ A R,RI (FOf f hf) (bY N) (bY V) A R∧R.length < (bY V).length ∧
   sG f (aS N) (aS V) (k:Int)=some (if R=[]∧A.length≤k then (aS (tY k A),true) else ([],false))):=by
 have hvt:=lg V
 have hnt:=lg N
 unfold sG Nc
 rw [ah (alq (by omega)),ah (alq (by omega))]
 by_cases hv0:bY V=[]
 ·refine .inl ⟨hv0,?_⟩
  rw [hv0,ah (as2 hf (vD hNi) (wu N) (by omega)),Tre.aG,decide_eq_false (by decide),Bool.not_false,cond_true,Tre.aL]
 ·obtain ⟨A,R,h1,h2,h3,h4⟩:=au6 hf (vD hNi) (vD hVi) hv0 (wu V) (wu N) (by omega) (by omega)
  refine .inr ⟨hv0,A,R,h2,h3,?_⟩
  rw [ah h1,Tre.aG,decide_eq_true rfl,Bool.not_true,cond_false,Tre.aG]
  by_cases hR:R=[]
  ·rw [decide_eq_false (by rw [hR];show ¬ ((0:Nat):Int) > 0;decide),cond_false,Tre.aG]
   by_cases hA:A.length≤k
   ·rw [decide_eq_false (by rw [aW];omega),cond_false,Tre.run_ite,if_pos ⟨rfl,by omega,rfl,by omega,by omega⟩,Int.toNat_natCast,ah (auT hA hk),Tre.aL,if_pos ⟨hR,hA⟩]
   ·rw [decide_eq_true (by rw [aW];omega),cond_true,Tre.aL,if_neg fun h=>hA h.2]
  ·have hRp:=List.length_pos_iff.2 hR
   rw [decide_eq_true (by rw [aW];omega),cond_true,Tre.aL,if_neg fun h=>hR h.1]
theorem aqx {f:TF3} (hf:aN f=true) {P W:List Nat} {k:Nat} (hi:FO.yu P) (hP:inL (FOf f hf) P) (hW:inL (FOf f hf) W) (hl:W.length=P.length) (hn:P.length≤10) (hk:1≤k) (hkn:k≤P.length) :
  (∃ m,Wh hf P W k ((P.length - k) / 2)=some m∧mQ (aS W) (f,aS P,(k:Int),())=some (.inr (aS m,(rkN ((FOf f hf).Am P W m):Int),true)))∨(Wh hf P W k ((P.length - k) / 2)=none∧mQ (aS W) (f,aS P,(k:Int),())=some (.inl (0,false,[]))):=by
 have hr:=aqB (P:=P) hkn (by omega)
 generalize ht:(P.length - k) / 2=t at hr ⊢
 have h2t:2 * t+k≤P.length:=by omega
 have hrows:=as0 hf hP hW hl (by omega) (show k≤1000 by omega) (show t≤1000 by omega)
 have hgr:=aoN hf (t:=t) (k:=k) hP hW
 have hrl:=V4 hf (t:=t) (k:=k) hl
 have h9:aO .i64 (2 * (t:Int))=((2 * t:Nat):Int):=by rw [dN (by omega) (by omega)];omega
 have h10:aO .i64 (((2 * t:Nat):Int)+1)=((2 * t+1:Nat):Int):=aX (by omega)
 have h11:aO .i64 (((2 * t+1:Nat):Int)+(k:Int))=((2 * t+1+k:Nat):Int):=by rw [dN (by omega) (by omega)];omega
 have ht1:aO .i64 ((t:Int)+1)=((t+1:Nat):Int):=aX (by omega)
 unfold mQ Dk
 dsimp only
 rw [hr,ah hrows,h9,h10,h11]
 rcases avd hf (show 2 * t+1+k≤1000 by omega) hgr (by omega) with ⟨hfull,hke⟩ | ⟨hnf,x,hke,hker⟩
 ·exact .inr ⟨akw hfull,by rw [ah hke];rfl⟩
 obtain ⟨V,N,rfl,hV,hN,hVi,hNi,hx,ho⟩:=akT hf hP hW hker
 have hall:∀ m,Zp hf P W k t m→_:=fun m hm=>aqN hf hi hP hW hl (by omega) hk h2t hm hV hN hVi hNi hx ho
 obtain ⟨hp1,hp2⟩:=ahH (N:=N) hV
 have hxl:(aS (V++N)).length=2 * t+1+k:=by rw [aW,List.length_append];omega
 rw [ah hke]
 dsimp only
 rw [Tre.aG,Bool.not_true,cond_false,ht1,Tre.run_ite,if_pos (by omega),Tre.run_ite,if_pos (by omega),hp1,hp2]
 rcases ao7 hf (k:=k) hVi hNi (by omega) (by omega) (by omega) with ⟨hv0,hd⟩ | ⟨hv0,A,R,hd2,hd3,hd⟩
 ·refine .inr ⟨Co fun m hm=>(hall m hm).1 hv0,?_⟩
  rw [ah hd];rfl
 ·rw [ah hd]
  by_cases hc:R=[]∧A.length≤k
  ·rw [if_pos hc]
   obtain ⟨hR,hA⟩:=hc
   have hMi:=arE (k:=k) hd2.ia
   have hMl:(tY k A).length=k:=aaJ hA
   rw [Tre.aG,Bool.not_true,cond_false,ah (avn hf hMi (by omega) hP (by omega) _),ah (asY hf hW hl (by omega)),Tre.aG]
   by_cases hrk:rkN ((FOf f hf).Am P W (tY k A))≤t
   ·refine .inl ⟨tY k A,aky hnf ⟨hMl,hMi,hrk⟩ fun m' hm'=>?_,by rw [decide_eq_false (by omega),cond_false,Tre.aL]⟩
    obtain ⟨he,_⟩:=(hall m' hm').2 A R hd2 hd3
    rw [he,P5 hm'.1]
   ·refine .inr ⟨Co fun m hm=>hrk ?_,by rw [decide_eq_true (by omega),cond_true,Tre.aL]⟩
    obtain ⟨he,_⟩:=(hall m hm).2 A R hd2 hd3
    rw [he,P5 hm.1]
    exact hm.2.2
  ·rw [if_neg hc]
   refine .inr ⟨Co fun m hm=>hc ?_,rfl⟩
   obtain ⟨he,hR⟩:=(hall m hm).2 A R hd2 hd3
   have:=lg m
   have:=hm.1
   exact ⟨hR,by rw [he];omega⟩
noncomputable def eP:Env:=⟨tau,[(55,X9),(56,yJ),(57,afh),(43,RA),(39,OO),(58,abv)],[]⟩
noncomputable def fQ:Code:=(Tryz.f29.body).getD .skip
noncomputable def rE (z8_0:Bool) (z8_1:Bool) (h8_0_0:(List Int)) (h8_0_1:Int) (h8_0_2:Int) (h8_0_4:aK) (h8_0_5:(List (List Int))):(Int×(List Int))→St:=fun x=>bR [(0,(.ptr (0,0) [])),(1,(.imm z8_0 (.sl (.int .i64)) h8_0_0)),(7,(.imm true (.int .i64) h8_0_1)),(8,(.ref (10,0) [])),(9,(.imm true (.int .i64) h8_0_2)),(10,(.ref (12,0) [])),(11,(.imm true (.int .i64) x.1))] [((0,0),some ⟨true,aV,(.imm z8_1),h8_0_4⟩),((10,0),some ⟨false,(.sl (.sl (.int .i64))),.own,h8_0_5⟩),((12,0),some ⟨false,(.sl (.int .i64)),.own,x.2⟩)]
noncomputable def qx (z8_0:Bool) (z8_1:Bool) (h8_0_0:(List Int)) (h8_0_1:Int) (h8_0_2:Int) (h8_0_4:aK) (h8_0_5:(List (List Int))):(List Int)→Ex×St:=fun x=>(.exit 2,bR [(0,(.ptr (0,0) [])),(1,(.imm z8_0 (.sl (.int .i64)) h8_0_0)),(7,(.imm true (.int .i64) h8_0_1)),(8,(.ref (10,0) [])),(9,(.imm true (.int .i64) h8_0_2)),(10,(.ref (12,0) []))] [((0,0),some ⟨true,aV,(.imm z8_1),h8_0_4⟩),((10,0),some ⟨false,(.sl (.sl (.int .i64))),.own,h8_0_5⟩),((12,0),some ⟨false,(.sl (.int .i64)),.own,x⟩)])
noncomputable def Ce (s:St):Tre (Ex×St) :=
 dW (0,0) [] (s.tmps 0) <|
 bH (.sl (.int .i64)) (s.tmps 1) fun z4 d3 =>
 aC true (.int .i64) (s.tmps 7) fun d6 =>
 dz (10,0) [] (s.tmps 8) <|
 aC true (.int .i64) (s.tmps 9) fun d9 =>
 dz (12,0) [] (s.tmps 10) <|
 aC true (.int .i64) (s.tmps 11) fun d12 =>
 bD true aV (s.roots (0,0)) fun m14 d15 =>
 uQ m14 fun z16 =>
 bD false (.sl (.sl (.int .i64))) (s.roots (10,0)) fun m18 d19 =>
 asM .own m18 <|
 bD false (.sl (.int .i64)) (s.roots (12,0)) fun m21 d22 =>
 asM .own m21 <|
 .mat (aR (gQ d3 d6 d9 d15) (d12,d22)) fun x=>.ret (qx z4 z16 d3 d6 d9 d15 d19 x)
noncomputable def iw:bJ:=⟨([0,1,7,8,9,10,11],[(0,0),(10,0),(12,0)]),([0,1,7,8,9,10],[(0,0),(10,0),(12,0)]),Ce⟩
noncomputable def qp (z12_0:Bool) (z12_1:Bool) (h12_0_0:(List Int)) (h12_0_1:Int) (h12_0_2:Int) (h12_0_4:aK) (h12_0_5:(List (List Int))):(Int×(List Int))→St:=fun x=>bR [(0,(.ptr (0,0) [])),(1,(.imm z12_0 (.sl (.int .i64)) h12_0_0)),(7,(.imm true (.int .i64) h12_0_1)),(8,(.ref (10,0) [])),(9,(.imm true (.int .i64) h12_0_2)),(10,(.ref (12,0) [])),(12,(.imm true (.int .i64) x.1))] [((0,0),some ⟨true,aV,(.imm z12_1),h12_0_4⟩),((10,0),some ⟨false,(.sl (.sl (.int .i64))),.own,h12_0_5⟩),((12,0),some ⟨false,(.sl (.int .i64)),.own,x.2⟩)]
noncomputable def oK (z12_0:Bool) (z12_1:Bool) (h12_0_0:(List Int)) (h12_0_1:Int) (h12_0_2:Int) (h12_0_4:aK) (h12_0_5:(List (List Int))):(List Int)→Ex×St:=fun x=>(.exit 4,bR [(0,(.ptr (0,0) [])),(1,(.imm z12_0 (.sl (.int .i64)) h12_0_0)),(7,(.imm true (.int .i64) h12_0_1)),(8,(.ref (10,0) [])),(9,(.imm true (.int .i64) h12_0_2)),(10,(.ref (12,0) []))] [((0,0),some ⟨true,aV,(.imm z12_1),h12_0_4⟩),((10,0),some ⟨false,(.sl (.sl (.int .i64))),.own,h12_0_5⟩),((12,0),some ⟨false,(.sl (.int .i64)),.own,x⟩)])
noncomputable def BD (s:St):Tre (Ex×St) :=
 dW (0,0) [] (s.tmps 0) <|
 bH (.sl (.int .i64)) (s.tmps 1) fun z4 d3 =>
 aC true (.int .i64) (s.tmps 7) fun d6 =>
 dz (10,0) [] (s.tmps 8) <|
 aC true (.int .i64) (s.tmps 9) fun d9 =>
 dz (12,0) [] (s.tmps 10) <|
 aC true (.int .i64) (s.tmps 12) fun d12 =>
 bD true aV (s.roots (0,0)) fun m14 d15 =>
 uQ m14 fun z16 =>
 bD false (.sl (.sl (.int .i64))) (s.roots (10,0)) fun m18 d19 =>
 asM .own m18 <|
 bD false (.sl (.int .i64)) (s.roots (12,0)) fun m21 d22 =>
 asM .own m21 <|
 .mat (aR (fT d6 d9 d15) (d12,d22)) fun x=>.ret (oK z4 z16 d3 d6 d9 d15 d19 x)
noncomputable def gB:bJ:=⟨([0,1,7,8,9,10,12],[(0,0),(10,0),(12,0)]),([0,1,7,8,9,10],[(0,0),(10,0),(12,0)]),BD⟩
noncomputable def rD (z4_0:Bool) (z4_1:Bool) (h4_0_0:(List Int)) (h4_0_1:Int) (h4_0_3:aK):(Int×(List (List Int)))→St:=fun x=>bR [(0,(.ptr (0,0) [])),(1,(.imm z4_0 (.sl (.int .i64)) h4_0_0)),(7,(.imm true (.int .i64) h4_0_1)),(8,(.ref (10,0) [])),(9,(.imm true (.int .i64) x.1))] [((0,0),some ⟨true,aV,(.imm z4_1),h4_0_3⟩),((10,0),some ⟨false,(.sl (.sl (.int .i64))),.own,x.2⟩)]
noncomputable def qw (z4_0:Bool) (z4_1:Bool) (h4_0_0:(List Int)) (h4_0_1:Int) (h4_0_3:aK):(List (List Int))→Ex×St:=fun x=>(.exit 0,bR [(0,(.ptr (0,0) [])),(1,(.imm z4_0 (.sl (.int .i64)) h4_0_0)),(7,(.imm true (.int .i64) h4_0_1)),(8,(.ref (10,0) []))] [((0,0),some ⟨true,aV,(.imm z4_1),h4_0_3⟩),((10,0),some ⟨false,(.sl (.sl (.int .i64))),.own,x⟩)])
noncomputable def Cb (s:St):Tre (Ex×St) :=
 dW (0,0) [] (s.tmps 0) <|
 bH (.sl (.int .i64)) (s.tmps 1) fun z4 d3 =>
 aC true (.int .i64) (s.tmps 7) fun d6 =>
 dz (10,0) [] (s.tmps 8) <|
 aC true (.int .i64) (s.tmps 9) fun d9 =>
 bD true aV (s.roots (0,0)) fun m11 d12 =>
 uQ m11 fun z13 =>
 bD false (.sl (.sl (.int .i64))) (s.roots (10,0)) fun m15 d16 =>
 asM .own m15 <|
 .mat (aR (gP d3 d6 d12) (d9,d16)) fun x=>.ret (qw z4 z13 d3 d6 d12 x)
noncomputable def iq:bJ:=⟨([0,1,7,8,9],[(0,0),(10,0)]),([0,1,7,8],[(0,0),(10,0)]),Cb⟩
noncomputable def fP:List (Nat×bJ):=[(8,iw),(12,gB),(4,iq)]
theorem Nb:∀ (z8_0:Bool) (z8_1:Bool) (h8_0_0:(List Int)) (h8_0_1:Int) (h8_0_2:Int) (h8_0_4:aK) (h8_0_5:(List (List Int))) (x:(Int×(List Int))) (c:St→Option (Ex×St)),den eP fP (aY fQ 1) (rE z8_0 z8_1 h8_0_0 h8_0_1 h8_0_2 h8_0_4 h8_0_5 x) (bV iw.kp iw.kx c)=(gQ h8_0_0 h8_0_1 h8_0_2 h8_0_4 x).run (bW (rE z8_0 z8_1 h8_0_0 h8_0_1 h8_0_2 h8_0_4 h8_0_5) (qx z8_0 z8_1 h8_0_0 h8_0_1 h8_0_2 h8_0_4 h8_0_5) c):=fun _ _ _ _ _ _ _ _ _=>by
 kernel_rfl
theorem Qm:bS eP fP (aY fQ 1) iw:=bA fun s e s' h=>by
 generalize hs:restrict iw.kp s=s1 at h
 have h:(Ce s1).run some=some (e,s'):=h
 obtain ⟨e1,h_0⟩:=bI h
 obtain ⟨z4,d3,e2,h_1⟩:=aF h_0
 obtain ⟨d6,e5,h_2⟩:=ak h_1
 obtain ⟨e7,h_3⟩:=bf h_2
 obtain ⟨d9,e8,h_4⟩:=ak h_3
 obtain ⟨e10,h_5⟩:=bf h_4
 obtain ⟨d12,e11,h_6⟩:=ak h_5
 obtain ⟨m14,d15,e13,h_7⟩:=aH h_6
 obtain ⟨z16,rfl,h_8⟩:=fG h_7
 obtain ⟨m18,d19,e17,h_9⟩:=aH h_8
 obtain ⟨rfl,h_10⟩:=aQ h_9
 obtain ⟨m21,d22,e20,h_11⟩:=aH h_10
 obtain ⟨rfl,h_12⟩:=aQ h_11
 obtain ⟨y,hy,hz⟩:=bT h_12
 refine ⟨_,_,rE z4 z16 d3 d6 d9 d15 d19,qx z4 z16 d3 d6 d9 d15 d19,gQ d3 d6 d9 d15,(d12,d22),y,?_,hy,?_,Nb z4 z16 d3 d6 d9 d15 d19⟩
 ·subst hs;exact aT (T:=[(0,(.ptr (0,0) [])),(1,(.imm z4 (.sl (.int .i64)) d3)),(7,(.imm true (.int .i64) d6)),(8,(.ref (10,0) [])),(9,(.imm true (.int .i64) d9)),(10,(.ref (12,0) [])),(11,(.imm true (.int .i64) d12))]) (U:=[((0,0),some ⟨true,aV,(.imm z16),d15⟩),((10,0),some ⟨false,(.sl (.sl (.int .i64))),.own,d19⟩),((12,0),some ⟨false,(.sl (.int .i64)),.own,d22⟩)]) rfl rfl ⟨e1,e2,e5,e7,e8,e10,e11,trivial⟩ ⟨e13,e17,e20,trivial⟩
 ·exact Option.some.inj hz
theorem KM:∀ (z12_0:Bool) (z12_1:Bool) (h12_0_0:(List Int)) (h12_0_1:Int) (h12_0_2:Int) (h12_0_4:aK) (h12_0_5:(List (List Int))) (x:(Int×(List Int))) (c:St→Option (Ex×St)),den eP fP (aY fQ 2) (qp z12_0 z12_1 h12_0_0 h12_0_1 h12_0_2 h12_0_4 h12_0_5 x) (bV gB.kp gB.kx c)=(fT h12_0_1 h12_0_2 h12_0_4 x).run (bW (qp z12_0 z12_1 h12_0_0 h12_0_1 h12_0_2 h12_0_4 h12_0_5) (oK z12_0 z12_1 h12_0_0 h12_0_1 h12_0_2 h12_0_4 h12_0_5) c):=fun _ _ _ _ _ _ _ _ _=>by
 kernel_rfl
theorem OD:bS eP fP (aY fQ 2) gB:=bA fun s e s' h=>by
 generalize hs:restrict gB.kp s=s1 at h
 have h:(BD s1).run some=some (e,s'):=h
 obtain ⟨e1,h_0⟩:=bI h
 obtain ⟨z4,d3,e2,h_1⟩:=aF h_0
 obtain ⟨d6,e5,h_2⟩:=ak h_1
 obtain ⟨e7,h_3⟩:=bf h_2
 obtain ⟨d9,e8,h_4⟩:=ak h_3
 obtain ⟨e10,h_5⟩:=bf h_4
 obtain ⟨d12,e11,h_6⟩:=ak h_5
 obtain ⟨m14,d15,e13,h_7⟩:=aH h_6
 obtain ⟨z16,rfl,h_8⟩:=fG h_7
 obtain ⟨m18,d19,e17,h_9⟩:=aH h_8
 obtain ⟨rfl,h_10⟩:=aQ h_9
 obtain ⟨m21,d22,e20,h_11⟩:=aH h_10
 obtain ⟨rfl,h_12⟩:=aQ h_11
 obtain ⟨y,hy,hz⟩:=bT h_12
 refine ⟨_,_,qp z4 z16 d3 d6 d9 d15 d19,oK z4 z16 d3 d6 d9 d15 d19,fT d6 d9 d15,(d12,d22),y,?_,hy,?_,KM z4 z16 d3 d6 d9 d15 d19⟩
 ·subst hs;exact aT (T:=[(0,(.ptr (0,0) [])),(1,(.imm z4 (.sl (.int .i64)) d3)),(7,(.imm true (.int .i64) d6)),(8,(.ref (10,0) [])),(9,(.imm true (.int .i64) d9)),(10,(.ref (12,0) [])),(12,(.imm true (.int .i64) d12))]) (U:=[((0,0),some ⟨true,aV,(.imm z16),d15⟩),((10,0),some ⟨false,(.sl (.sl (.int .i64))),.own,d19⟩),((12,0),some ⟨false,(.sl (.int .i64)),.own,d22⟩)]) rfl rfl ⟨e1,e2,e5,e7,e8,e10,e11,trivial⟩ ⟨e13,e17,e20,trivial⟩
 ·exact Option.some.inj hz
theorem Na:∀ (z4_0:Bool) (z4_1:Bool) (h4_0_0:(List Int)) (h4_0_1:Int) (h4_0_3:aK) (x:(Int×(List (List Int)))) (c:St→Option (Ex×St)),den eP fP (aY fQ 0) (rD z4_0 z4_1 h4_0_0 h4_0_1 h4_0_3 x) (bV iq.kp iq.kx c)=(gP h4_0_0 h4_0_1 h4_0_3 x).run (bW (rD z4_0 z4_1 h4_0_0 h4_0_1 h4_0_3) (qw z4_0 z4_1 h4_0_0 h4_0_1 h4_0_3) c):=fun _ _ _ _ _ _ _=>by
 kernel_rfl
theorem Ql:bS eP fP (aY fQ 0) iq:=bA fun s e s' h=>by
 generalize hs:restrict iq.kp s=s1 at h
 have h:(Cb s1).run some=some (e,s'):=h
 obtain ⟨e1,h_0⟩:=bI h
 obtain ⟨z4,d3,e2,h_1⟩:=aF h_0
 obtain ⟨d6,e5,h_2⟩:=ak h_1
 obtain ⟨e7,h_3⟩:=bf h_2
 obtain ⟨d9,e8,h_4⟩:=ak h_3
 obtain ⟨m11,d12,e10,h_5⟩:=aH h_4
 obtain ⟨z13,rfl,h_6⟩:=fG h_5
 obtain ⟨m15,d16,e14,h_7⟩:=aH h_6
 obtain ⟨rfl,h_8⟩:=aQ h_7
 obtain ⟨y,hy,hz⟩:=bT h_8
 refine ⟨_,_,rD z4 z13 d3 d6 d12,qw z4 z13 d3 d6 d12,gP d3 d6 d12,(d9,d16),y,?_,hy,?_,Na z4 z13 d3 d6 d12⟩
 ·subst hs;exact aT (T:=[(0,(.ptr (0,0) [])),(1,(.imm z4 (.sl (.int .i64)) d3)),(7,(.imm true (.int .i64) d6)),(8,(.ref (10,0) [])),(9,(.imm true (.int .i64) d9))]) (U:=[((0,0),some ⟨true,aV,(.imm z13),d12⟩),((10,0),some ⟨false,(.sl (.sl (.int .i64))),.own,d16⟩)]) rfl rfl ⟨e1,e2,e5,e7,e8,trivial⟩ ⟨e10,e14,trivial⟩
 ·exact Option.some.inj hz
noncomputable def Ki:FnI:=⟨fQ,Tryz.f29.results.toList,Tryz.f29.resultTypes.toList,fP⟩
noncomputable def vZ (_zp0:Bool) (zp1:Bool) (_p0:(List Int)) (p1:aK):((Int×Bool×(List Int)) ⊕ ((List Int)×Int×Bool))→aB
 |.inl r=>⟨(.tcons (.ref (1,0) []) (.tcons (.imm true (.int .i64) r.1) (.tcons (.imm true .bool r.2.1) .tnil))),[⟨true,aV,(.imm zp1),p1⟩],[⟨false,(.sl (.int .i64)),.own,r.2.2⟩]⟩
 |.inr r=>⟨(.tcons (.imm true (.sl (.int .i64)) r.1) (.tcons (.imm true (.int .i64) r.2.1) (.tcons (.imm true .bool r.2.2) .tnil))),[⟨true,aV,(.imm zp1),p1⟩],[]⟩
theorem WV:∀ (zp0:Bool) (zp1:Bool) (p0:(List Int)) (p1:aK),bQ eP Ki ⟨[(.ptr (0,0) []),(.imm zp0 (.sl (.int .i64)) p0)],[⟨true,aV,(.imm zp1),p1⟩]⟩=(Dk p0 p1).run fun r=>some (vZ zp0 zp1 p0 p1 r):=fun _ _ _ _=>by kernel_rfl
noncomputable def Kh (av:List AV) (rs:List Root):Tre aB :=
 aJ av fun a0_ av0 =>
 aJ av0 fun a1_ av1 =>
 aU av1 <|
 aJ rs fun r0_ rs0 =>
 aU rs0 <|
 dW (0,0) [] a0_ <|
 bH (.sl (.int .i64)) a1_ fun z2 d1 =>
 Io true aV r0_ fun m3 d4 =>
 uQ m3 fun z5 =>
 .mat (mQ d1 d4) fun r=>.alt r (fun a0=>.ret (vZ z2 z5 d1 d4 (.inl a0))) (fun b0=>.ret (vZ z2 z5 d1 d4 (.inr b0)))
noncomputable def Kj:Ctr:=⟨[],fun ci=>Kh ci.args ci.roots,false⟩
theorem Vq:bP Tryz.prog .none eP:=(aA aiZ azy (aA Bw aqQ (aA amV azz (aA adI azu (aA abH azs (aA aj6 azA aP))))))
theorem WW:Contract Tryz.prog .none 29 Kj:=by
 have hl:aZ eP fP fQ:=(bC (n:=3) (by kernel_rfl) fun k hk=>by
   match k,hk with
   |0,_=>exact bq (id:=4) (L:=iq) (by kernel_rfl) (by kernel_rfl) Ql
   |1,_=>exact bq (id:=8) (L:=iw) (by kernel_rfl) (by kernel_rfl) Qm
   |2,_=>exact bq (id:=12) (L:=gB) (by kernel_rfl) (by kernel_rfl) OD)
 refine (aI (F:=Ki) bn Vq Tryz.func29 (by kernel_rfl) (by kernel_rfl) (by kernel_rfl) hl []).weaken ?_
 rintro ⟨av,rs⟩ co h
 have h:(Kh av rs).run some=some co:=h
 obtain ⟨a0_,av0,rfl,h_0⟩:=au h
 obtain ⟨a1_,av1,rfl,h_1⟩:=au h_0
 obtain ⟨rfl,h_2⟩:=ay h_1
 obtain ⟨r0_,rs0,rfl,h_3⟩:=au h_2
 obtain ⟨rfl,h_4⟩:=ay h_3
 obtain ⟨rfl,h_5⟩:=bI h_4
 obtain ⟨z2,d1,rfl,h_6⟩:=aF h_5
 obtain ⟨m3,d4,rfl,h_7⟩:=eX h_6
 obtain ⟨z5,rfl,h_8⟩:=fG h_7
 exact Zy (WV z2 z5 d1 d4) h_8 (by rintro (x | x) <;> rfl)
noncomputable def ahz (p0:Int) (p1:Int) (p2:Int):Tre Bool :=
 .cond (decide (p0 ≥ p1))
  (.ret (decide (p0≤p2)))
  (.ret false)
noncomputable def ahA (p0:Int) (p1:Int) (p2:Int):Option Bool:=(ahz p0 p1 p2).run some
theorem ajB (n a b:Int):ahA n a b=some (inR n a b):=by
 unfold ahA ahz inR
 by_cases h:a≤n
 ·simp [Tre.aG,Tre.aL,h]
 ·simp [Tre.aG,Tre.aL,h]
noncomputable def YL:Env:=⟨tau,[],[]⟩
noncomputable def ahD:Code:=(Tryz.f92.body).getD .skip
noncomputable def ahC:FnI:=⟨ahD,Tryz.f92.results.toList,Tryz.f92.resultTypes.toList,[]⟩
noncomputable def aac (_p0:Int) (_p1:Int) (_p2:Int):Bool→aB:=fun r=>⟨(.imm true .bool r),[],[]⟩
theorem an5:∀ (p0:Int) (p1:Int) (p2:Int),bQ YL ahC ⟨[(.imm true (.int .i64) p0),(.imm true (.int .i64) p1),(.imm true (.int .i64) p2)],[]⟩=(ahz p0 p1 p2).run fun r=>some (aac p0 p1 p2 r):=fun _ _ _=>by kernel_rfl
noncomputable def ahB (av:List AV) (rs:List Root):Tre aB :=
 aJ av fun a0_ av0 =>
 aJ av0 fun a1_ av1 =>
 aJ av1 fun a2_ av2 =>
 aU av2 <|
 aU rs <|
 aC true (.int .i64) a0_ fun d1 =>
 aC true (.int .i64) a1_ fun d2 =>
 aC true (.int .i64) a2_ fun d3 =>
 .ret (aac d1 d2 d3 (inR d1 d2 d3))
noncomputable def JD:Ctr:=⟨[],fun ci=>ahB ci.args ci.roots,false⟩
theorem alY:bP Tryz.prog .none YL:=aP
theorem Lm:Contract Tryz.prog .none 92 JD:=by
 have hl:aZ YL [] ahD:=bB (by kernel_rfl)
 refine (aI (F:=ahC) bn alY Tryz.func92 (by kernel_rfl) (by kernel_rfl) (by kernel_rfl) hl []).weaken ?_
 rintro ⟨av,rs⟩ co h
 have h:(ahB av rs).run some=some co:=h
 obtain ⟨a0_,av0,rfl,h_0⟩:=au h
 obtain ⟨a1_,av1,rfl,h_1⟩:=au h_0
 obtain ⟨a2_,av2,rfl,h_2⟩:=au h_1
 obtain ⟨rfl,h_3⟩:=ay h_2
 obtain ⟨rfl,h_4⟩:=ay h_3
 obtain ⟨d1,rfl,h_5⟩:=ak h_4
 obtain ⟨d2,rfl,h_6⟩:=ak h_5
 obtain ⟨d3,rfl,h_7⟩:=ak h_6
 exact wE (an5 d1 d2 d3) (ajB d1 d2 d3) h_7
noncomputable def qP (h4_0_0:Int):Int→Tre (Int ⊕ (Bool ⊕ Unit)):=fun s4 =>
 .mat (q8 s4) fun r1 =>
 .mat (q8 h4_0_0) fun r2 =>
 .cond (decide (aO .i64 (2 * r1)≤r2))
  (.mat (YI h4_0_0 s4) fun r3 =>
  .cond (decide (r3=0))
   (.ret (.inr (.inl false)))
   (.ret (.inl (aO .i64 (s4+1)))))
  (.ret (.inr (.inr ())))
noncomputable def Fw (p0:Int):Tre Bool :=
 .cond (decide (p0 < 2))
  (.ret false)
  (.cond (decide (p0 ≥ 64))
   (.ret false)
   (.mat (aR (qP p0) 2) fun l4 =>
   .alt l4
    (fun a5 =>
     .ret a5)
    (fun _ =>
     .ret true)))
noncomputable def uy (p0:Int):Option Bool:=(Fw p0).run some
noncomputable def nQ:Env:=⟨tau,[(133,Hg),(111,YJ)],[]⟩
noncomputable def uz:Code:=(Tryz.f136.body).getD .skip
noncomputable def tV (h4_0_0:Int):Int→St:=fun x=>bR [(0,(.imm true (.int .i64) h4_0_0)),(3,(.imm true (.int .i64) x))] []
noncomputable def lM (_h4_0_0:Int):(Bool ⊕ Unit)→Ex×St
 |.inl x=>(.ret,bR [(2,(.imm true .bool x))] [])
 |.inr _=>(.exit 0,bR [(2,.dead)] [])
noncomputable def Ey (s:St):Tre (Ex×St) :=
 aC true (.int .i64) (s.tmps 0) fun d2 =>
 aC true (.int .i64) (s.tmps 3) fun d4 =>
 .mat (aR (qP d2) d4) fun x=>.alt x (fun a0=>.ret (lM d2 (.inl a0))) (fun b0=>.ret (lM d2 (.inr b0)))
noncomputable def iW:bJ:=⟨([0,3],[]),([2],[]),Ey⟩
noncomputable def uw:List (Nat×bJ):=[(4,iW)]
theorem NT:∀ (h4_0_0:Int) (x:Int) (c:St→Option (Ex×St)),den nQ uw (aY uz 0) (tV h4_0_0 x) (bV iW.kp iW.kx c)=(qP h4_0_0 x).run (bW (tV h4_0_0) (lM h4_0_0) c):=fun _ _ _=>by
 kernel_rfl
theorem R8:bS nQ uw (aY uz 0) iW:=bA fun s e s' h=>by
 generalize hs:restrict iW.kp s=s1 at h
 have h:(Ey s1).run some=some (e,s'):=h
 obtain ⟨d2,e1,h_0⟩:=ak h
 obtain ⟨d4,e3,h_1⟩:=ak h_0
 obtain ⟨y,hy,hz⟩:=kE h_1
 refine ⟨_,_,tV d2,lM d2,qP d2,d4,y,?_,hy,?_,NT d2⟩
 ·subst hs;exact aT (T:=[(0,(.imm true (.int .i64) d2)),(3,(.imm true (.int .i64) d4))]) (U:=[]) rfl rfl ⟨e1,e3,trivial⟩ trivial
 ·rcases y with x | x <;> exact Option.some.inj hz
noncomputable def Lf:FnI:=⟨uz,Tryz.f136.results.toList,Tryz.f136.resultTypes.toList,uw⟩
noncomputable def Gu (_p0:Int):Bool→aB:=fun r=>⟨(.imm true .bool r),[],[]⟩
theorem YC:∀ (p0:Int),bQ nQ Lf ⟨[(.imm true (.int .i64) p0)],[]⟩=(Fw p0).run fun r=>some (Gu p0 r):=fun _=>by kernel_rfl
noncomputable def Le (av:List AV) (rs:List Root):Tre aB :=
 aJ av fun a0_ av0 =>
 aU av0 <|
 aU rs <|
 aC true (.int .i64) a0_ fun d1 =>
 .mat (uy d1) fun r=>.ret (Gu d1 r)
noncomputable def Lg:Ctr:=⟨[],fun ci=>Le ci.args ci.roots,false⟩
theorem Ws:bP Tryz.prog .none nQ:=(aA MQ apW (aA aeg atY aP))
theorem YD:Contract Tryz.prog .none 136 Lg:=by
 have hl:aZ nQ uw uz:=(bC (n:=1) (by kernel_rfl) fun k hk=>by
   match k,hk with
   |0,_=>exact bq (id:=4) (L:=iW) (by kernel_rfl) (by kernel_rfl) R8)
 refine (aI (F:=Lf) bn Ws Tryz.func136 (by kernel_rfl) (by kernel_rfl) (by kernel_rfl) hl []).weaken ?_
 rintro ⟨av,rs⟩ co h
 have h:(Le av rs).run some=some co:=h
 obtain ⟨a0_,av0,rfl,h_0⟩:=au h
 obtain ⟨rfl,h_1⟩:=ay h_0
 obtain ⟨rfl,h_2⟩:=ay h_1
 obtain ⟨d1,rfl,h_3⟩:=ak h_2
 exact bK (YC d1) h_3
noncomputable def G9 (p0:(Int×(Int×Unit))):Tre Bool :=
 .cond (inR p0.1 1 5)
  (.mat (uy p0.2.1) fun r1 =>
  .cond r1
   (.mat (q8 p0.2.1) fun r2 =>
   .ret (decide (r2=p0.1)))
   (.ret false))
  (.ret false)
noncomputable def vB (p0:(Int×(Int×Unit))):Option Bool:=(G9 p0).run some
-- more
theorem QM (f:Int×Int×Unit):vB f=some (aN f):=by
 refine anN ?_ ?_ (by kernel_rfl) f
 ·intro f h
  unfold vB G9
  rw [Tre.aG,h];rfl
 ·intro f h
  unfold vB G9
  rw [Tre.aG]
  have:uy f.2.1=some false:=by
   unfold uy Fw
   rw [Tre.aG]
   by_cases h1:f.2.1 < 2
   ·rw [decide_eq_true h1];rfl
   ·rw [decide_eq_false h1,cond_false,Tre.aG,decide_eq_true (by omega)];rfl
  rw [ah this]
  cases inR f.1 1 5 <;> rfl
noncomputable def Jg:Env:=⟨tau,[(92,JD),(136,Lg),(133,Hg)],[]⟩
noncomputable def Tx:Code:=(Tryz.f118.body).getD .skip
noncomputable def Tw:FnI:=⟨Tx,Tryz.f118.results.toList,Tryz.f118.resultTypes.toList,[]⟩
noncomputable def NV (_p0:(Int×(Int×Unit))):Bool→aB:=fun r=>⟨(.imm true .bool r),[],[]⟩
theorem afC:∀ (p0:(Int×(Int×Unit))),bQ Jg Tw ⟨[(.imm true aM p0)],[]⟩=(G9 p0).run fun r=>some (NV p0 r):=fun _=>by kernel_rfl
noncomputable def Tv (av:List AV) (rs:List Root):Tre aB :=
 aJ av fun a0_ av0 =>
 aU av0 <|
 aU rs <|
 aC true aM a0_ fun d1 =>
 .mat (vB d1) fun r=>.ret (NV d1 r)
noncomputable def Tz:Ctr:=⟨[],fun ci=>Tv ci.args ci.roots,false⟩
theorem acw:bP Tryz.prog .none Jg:=(aA Lm aqS (aA YD ayt (aA MQ apW aP)))
theorem afD:Contract Tryz.prog .none 118 Tz:=by
 have hl:aZ Jg [] Tx:=bB (by kernel_rfl)
 refine (aI (F:=Tw) bn acw Tryz.func118 (by kernel_rfl) (by kernel_rfl) (by kernel_rfl) hl []).weaken ?_
 rintro ⟨av,rs⟩ co h
 have h:(Tv av rs).run some=some co:=h
 obtain ⟨a0_,av0,rfl,h_0⟩:=au h
 obtain ⟨rfl,h_1⟩:=ay h_0
 obtain ⟨rfl,h_2⟩:=ay h_1
 obtain ⟨d1,rfl,h_3⟩:=ak h_2
 exact bK (afC d1) h_3
noncomputable def y9 (p0:Int) (p1:(Int×(Int×Unit))):Tre Bool :=
 .mat (rT p1) fun r1 =>
 let v2:=inR p0 0 (aO .i64 (r1 - 1))
 .ret (!v2)
noncomputable def nN (p0:Int) (p1:(Int×(Int×Unit))):Option Bool:=(y9 p0 p1).run some
noncomputable def uT:Env:=⟨tau,[(95,Fv),(92,JD)],[]⟩
noncomputable def Ea:Code:=(Tryz.f94.body).getD .skip
noncomputable def D9:FnI:=⟨Ea,Tryz.f94.results.toList,Tryz.f94.resultTypes.toList,[]⟩
noncomputable def Ap (_p0:Int) (p1:(Int×(Int×Unit))):Bool→aB:=fun r=>⟨(.imm true .bool r),[⟨true,aM,.own,p1⟩],[]⟩
theorem RO:∀ (p0:Int) (p1:(Int×(Int×Unit))),bQ uT D9 ⟨[(.imm true (.int .i64) p0),(.ptr (0,0) [])],[⟨true,aM,.own,p1⟩]⟩=(y9 p0 p1).run fun r=>some (Ap p0 p1 r):=fun _ _=>by kernel_rfl
noncomputable def D8 (av:List AV) (rs:List Root):Tre aB :=
 aJ av fun a0_ av0 =>
 aJ av0 fun a1_ av1 =>
 aU av1 <|
 aJ rs fun r0_ rs0 =>
 aU rs0 <|
 aC true (.int .i64) a0_ fun d1 =>
 dW (0,0) [] a1_ <|
 Io true aM r0_ fun m2 d3 =>
 asM .own m2 <|
 .mat (nN d1 d3) fun r=>.ret (Ap d1 d3 r)
noncomputable def Eb:Ctr:=⟨[],fun ci=>D8 ci.args ci.roots,false⟩
theorem Pb:bP Tryz.prog .none uT:=(aA Ns axx (aA Lm aqS aP))
theorem RP:Contract Tryz.prog .none 94 Eb:=by
 have hl:aZ uT [] Ea:=bB (by kernel_rfl)
 refine (aI (F:=D9) bn Pb Tryz.func94 (by kernel_rfl) (by kernel_rfl) (by kernel_rfl) hl []).weaken ?_
 rintro ⟨av,rs⟩ co h
 have h:(D8 av rs).run some=some co:=h
 obtain ⟨a0_,av0,rfl,h_0⟩:=au h
 obtain ⟨a1_,av1,rfl,h_1⟩:=au h_0
 obtain ⟨rfl,h_2⟩:=ay h_1
 obtain ⟨r0_,rs0,rfl,h_3⟩:=au h_2
 obtain ⟨rfl,h_4⟩:=ay h_3
 obtain ⟨d1,rfl,h_5⟩:=ak h_4
 obtain ⟨rfl,h_6⟩:=bI h_5
 obtain ⟨m2,d3,rfl,h_7⟩:=eX h_6
 obtain ⟨rfl,h_8⟩:=aQ h_7
 exact bK (RO d1 d3) h_8
noncomputable def ac0 (h2_0_0:(List Int)) (h2_0_1:Int) (h2_0_3:(Int×(Int×Unit))):Int→Tre (Int ⊕ (Int ⊕ Unit)):=fun s2 =>
 .cond (decide (s2 < h2_0_1))
  (.ite (0≤s2∧s2 < (h2_0_0.length:Int)) <|
  .mat (h2_0_0[s2.toNat]?) fun x1 =>
  .mat (nN x1 h2_0_3) fun r2 =>
  .cond r2
   (.ret (.inr (.inl s2)))
   (.ret (.inl (aO .i64 (s2+1)))))
  (.ret (.inr (.inr ())))
noncomputable def nm5 (p0:(List Int)) (p1:(Int×(Int×Unit))):Tre Int :=
 .mat (aR (ac0 p0 (p0.length:Int) p1) 0) fun l3 =>
 .alt l3
  (fun a4 =>
   .ret a4)
  (fun _ =>
   .ret (-1))
noncomputable def arv (p0:(List Int)) (p1:(Int×(Int×Unit))):Option Int:=(nm5 p0 p1).run some
noncomputable def aoA:Env:=⟨tau,[(94,Eb)],[]⟩
noncomputable def arw:Code:=(Tryz.f99.body).getD .skip
noncomputable def ac1 (z2_0:Bool) (h2_0_0:(List Int)) (h2_0_1:Int) (h2_0_3:(Int×(Int×Unit))):Int→St:=fun x=>bR [(0,(.imm z2_0 (.sl (.int .i64)) h2_0_0)),(1,(.fn 94 [(0,0)])),(7,(.imm true (.int .i64) h2_0_1)),(8,(.imm true (.int .i64) x))] [((0,0),some ⟨true,aM,.own,h2_0_3⟩)]
noncomputable def PX (_z2_0:Bool) (_h2_0_0:(List Int)) (_h2_0_1:Int) (h2_0_3:(Int×(Int×Unit))):(Int ⊕ Unit)→Ex×St
 |.inl x=>(.ret,bR [(4,(.imm true (.int .i64) x))] [((0,0),some ⟨true,aM,.own,h2_0_3⟩)])
 |.inr _=>(.exit 0,bR [(4,.dead)] [((0,0),some ⟨true,aM,.own,h2_0_3⟩)])
noncomputable def aoB (s:St):Tre (Ex×St) :=
 bH (.sl (.int .i64)) (s.tmps 0) fun z3 d2 =>
 Zq 94 [(0,0)] (s.tmps 1) <|
 aC true (.int .i64) (s.tmps 7) fun d6 =>
 aC true (.int .i64) (s.tmps 8) fun d8 =>
 bD true aM (s.roots (0,0)) fun m10 d11 =>
 asM .own m10 <|
 .mat (aR (ac0 d2 d6 d11) d8) fun x=>.alt x (fun a0=>.ret (PX z3 d2 d6 d11 (.inl a0))) (fun b0=>.ret (PX z3 d2 d6 d11 (.inr b0)))
noncomputable def Oh:bJ:=⟨([0,1,7,8],[(0,0)]),([4],[(0,0)]),aoB⟩
noncomputable def aru:List (Nat×bJ):=[(2,Oh)]
theorem aoC:∀ (z2_0:Bool) (h2_0_0:(List Int)) (h2_0_1:Int) (h2_0_3:(Int×(Int×Unit))) (x:Int) (c:St→Option (Ex×St)),den aoA aru (aY arw 0) (ac1 z2_0 h2_0_0 h2_0_1 h2_0_3 x) (bV Oh.kp Oh.kx c)=(ac0 h2_0_0 h2_0_1 h2_0_3 x).run (bW (ac1 z2_0 h2_0_0 h2_0_1 h2_0_3) (PX z2_0 h2_0_0 h2_0_1 h2_0_3) c):=fun _ _ _ _ _ _=>by
 kernel_rfl
theorem asJ:bS aoA aru (aY arw 0) Oh:=bA fun s e s' h=>by
 generalize hs:restrict Oh.kp s=s1 at h
 have h:(aoB s1).run some=some (e,s'):=h
 obtain ⟨z3,d2,e1,h_0⟩:=aF h
 obtain ⟨e4,h_1⟩:=nk h_0
 obtain ⟨d6,e5,h_2⟩:=ak h_1
 obtain ⟨d8,e7,h_3⟩:=ak h_2
 obtain ⟨m10,d11,e9,h_4⟩:=aH h_3
 obtain ⟨rfl,h_5⟩:=aQ h_4
 obtain ⟨y,hy,hz⟩:=kE h_5
 refine ⟨_,_,ac1 z3 d2 d6 d11,PX z3 d2 d6 d11,ac0 d2 d6 d11,d8,y,?_,hy,?_,aoC z3 d2 d6 d11⟩
 ·subst hs;exact aT (T:=[(0,(.imm z3 (.sl (.int .i64)) d2)),(1,(.fn 94 [(0,0)])),(7,(.imm true (.int .i64) d6)),(8,(.imm true (.int .i64) d8))]) (U:=[((0,0),some ⟨true,aM,.own,d11⟩)]) rfl rfl ⟨e1,e4,e5,e7,trivial⟩ ⟨e9,trivial⟩
 ·rcases y with x | x <;> exact Option.some.inj hz
noncomputable def axS:FnI:=⟨arw,Tryz.f99.results.toList,Tryz.f99.resultTypes.toList,aru⟩
noncomputable def arx (_zp0:Bool) (_p0:(List Int)) (p1:(Int×(Int×Unit))):Int→aB:=fun r=>⟨(.imm true (.int .i64) r),[⟨true,aM,.own,p1⟩],[]⟩
theorem ayQ:∀ (zp0:Bool) (p0:(List Int)) (p1:(Int×(Int×Unit))),bQ aoA axS ⟨[(.imm zp0 (.sl (.int .i64)) p0),(.fn 94 [(0,0)])],[⟨true,aM,.own,p1⟩]⟩=(nm5 p0 p1).run fun r=>some (arx zp0 p0 p1 r):=fun _ _ _=>by kernel_rfl
noncomputable def axR (av:List AV) (rs:List Root):Tre aB :=
 aJ av fun a0_ av0 =>
 aJ av0 fun a1_ av1 =>
 aU av1 <|
 aJ rs fun r0_ rs0 =>
 aU rs0 <|
 bH (.sl (.int .i64)) a0_ fun z2 d1 =>
 Zq 94 [(0,0)] a1_ <|
 Io true aM r0_ fun m3 d4 =>
 asM .own m3 <|
 .mat (arv d1 d4) fun r=>.ret (arx z2 d1 d4 r)
noncomputable def axT:Ctr:=⟨[],fun ci=>axR ci.args ci.roots,false⟩
theorem awt:bP Tryz.prog .none aoA:=(aA RP azR aP)
theorem ayR:Contract Tryz.prog .none 99 axT:=by
 have hl:aZ aoA aru arw:=(bC (n:=1) (by kernel_rfl) fun k hk=>by
   match k,hk with
   |0,_=>exact bq (id:=2) (L:=Oh) (by kernel_rfl) (by kernel_rfl) asJ)
 refine (aI (F:=axS) bn awt Tryz.func99 (by kernel_rfl) (by kernel_rfl) (by kernel_rfl) hl []).weaken ?_
 rintro ⟨av,rs⟩ co h
 have h:(axR av rs).run some=some co:=h
 obtain ⟨a0_,av0,rfl,h_0⟩:=au h
 obtain ⟨a1_,av1,rfl,h_1⟩:=au h_0
 obtain ⟨rfl,h_2⟩:=ay h_1
 obtain ⟨r0_,rs0,rfl,h_3⟩:=au h_2
 obtain ⟨rfl,h_4⟩:=ay h_3
 obtain ⟨z2,d1,rfl,h_5⟩:=aF h_4
 obtain ⟨rfl,h_6⟩:=nk h_5
 obtain ⟨m3,d4,rfl,h_7⟩:=eX h_6
 obtain ⟨rfl,h_8⟩:=aQ h_7
 exact bK (ayQ z2 d1 d4) h_8
noncomputable def nm4 (p0:(List Int)) (p1:(Int×(Int×Unit))):Tre Bool :=
 .mat (arv p0 p1) fun r1 =>
 .ret (decide (r1 ≥ 0))
noncomputable def arq (p0:(List Int)) (p1:(Int×(Int×Unit))):Option Bool:=(nm4 p0 p1).run some
noncomputable def auK:Env:=⟨tau,[(99,axT)],[]⟩
noncomputable def axP:Code:=(Tryz.f93.body).getD .skip
noncomputable def axO:FnI:=⟨axP,Tryz.f93.results.toList,Tryz.f93.resultTypes.toList,[]⟩
noncomputable def ars (_zp0:Bool) (_p0:(List Int)) (p1:(Int×(Int×Unit))):Bool→aB:=fun r=>⟨(.imm true .bool r),[⟨true,aM,.own,p1⟩],[]⟩
theorem ayO:∀ (zp0:Bool) (p0:(List Int)) (p1:(Int×(Int×Unit))),bQ auK axO ⟨[(.imm zp0 (.sl (.int .i64)) p0),(.fn 94 [(0,0)])],[⟨true,aM,.own,p1⟩]⟩=(nm4 p0 p1).run fun r=>some (ars zp0 p0 p1 r):=fun _ _ _=>by kernel_rfl
noncomputable def axN (av:List AV) (rs:List Root):Tre aB :=
 aJ av fun a0_ av0 =>
 aJ av0 fun a1_ av1 =>
 aU av1 <|
 aJ rs fun r0_ rs0 =>
 aU rs0 <|
 bH (.sl (.int .i64)) a0_ fun z2 d1 =>
 Zq 94 [(0,0)] a1_ <|
 Io true aM r0_ fun m3 d4 =>
 asM .own m3 <|
 .mat (arq d1 d4) fun r=>.ret (ars z2 d1 d4 r)
noncomputable def axQ:Ctr:=⟨[],fun ci=>axN ci.args ci.roots,false⟩
theorem awr:bP Tryz.prog .none auK:=(aA ayR at7 aP)
theorem ayP:Contract Tryz.prog .none 93 axQ:=by
 have hl:aZ auK [] axP:=bB (by kernel_rfl)
 refine (aI (F:=axO) bn awr Tryz.func93 (by kernel_rfl) (by kernel_rfl) (by kernel_rfl) hl []).weaken ?_
 rintro ⟨av,rs⟩ co h
 have h:(axN av rs).run some=some co:=h
 obtain ⟨a0_,av0,rfl,h_0⟩:=au h
 obtain ⟨a1_,av1,rfl,h_1⟩:=au h_0
 obtain ⟨rfl,h_2⟩:=ay h_1
 obtain ⟨r0_,rs0,rfl,h_3⟩:=au h_2
 obtain ⟨rfl,h_4⟩:=ay h_3
 obtain ⟨z2,d1,rfl,h_5⟩:=aF h_4
 obtain ⟨rfl,h_6⟩:=nk h_5
 obtain ⟨m3,d4,rfl,h_7⟩:=eX h_6
 obtain ⟨rfl,h_8⟩:=aQ h_7
 exact bK (ayO z2 d1 d4) h_8
noncomputable def SY (p0:(Int×(Int×Unit))) (p1:(List Int)):Tre Bool :=
 .mat (arq p1 p0) fun r1 =>
 .ret (!r1)
noncomputable def yA (p0:(Int×(Int×Unit))) (p1:(List Int)):Option Bool:=(SY p0 p1).run some
-- more
theorem aco {f:TF3} (hf:aN f=true) (x:Int):nN x f=some (!inR x 0 (Xa f)):=by
 have:=nL hf
 have h1:rT f=some (acG .i64 1 f.1):=by
  unfold rT MB
  rw [Tre.run_ite,if_pos (by omega)]
  rfl
 unfold nN y9
 rw [ah h1,avp hf]
 rfl
theorem S9 {f:TF3} (hf:aN f=true) (c:List Int) (hc:c.length < 4611686018427387904):yA f c=some (oN f c):=by
 have h1:arv c f=some (nR (fun x=>!inR x 0 (Xa f)) 0 c):=by
  unfold arv nm5
  rw [Tre.nX,Np (xs:=c) (fun i x=>cond (!inR x 0 (Xa f)) (some (.inl (i:Int))) none) (.inr ())]
  ·rw [Option.bind_some,← VH (p:=fun x=>!inR x 0 (Xa f))]
   generalize SK _ _ _ _=r
   cases r <;> rfl
  ·intro i x hx
   have hi:i < c.length:=(List.getElem?_eq_some_iff.1 hx).1
   unfold ac0
   rw [eu hx,ah (aco hf x),Tre.aG]
   cases inR x 0 (Xa f)
   ·rfl
   ·simp only [Bool.not_true,cond_false,Tre.aL,aX (show i < 4611686018427387904 by omega)]
  ·unfold ac0
   exact dF
 have h2:arq c f=some (decide (nR (fun x=>!inR x 0 (Xa f)) 0 c ≥ 0)):=by
  unfold arq nm4
  rw [ah h1]
  rfl
 unfold yA SY oN
 rw [ah h2,← aur (p:=fun x=>inR x 0 (Xa f))]
 rfl
noncomputable def MC:Env:=⟨tau,[(93,axQ)],[]⟩
noncomputable def Xh:Code:=(Tryz.f60.body).getD .skip
noncomputable def Xg:FnI:=⟨Xh,Tryz.f60.results.toList,Tryz.f60.resultTypes.toList,[]⟩
noncomputable def QC (_zp0:Bool) (_p0:(Int×(Int×Unit))) (_p1:(List Int)):Bool→aB:=fun r=>⟨(.imm true .bool r),[],[]⟩
theorem ahe:∀ (zp0:Bool) (p0:(Int×(Int×Unit))) (p1:(List Int)),bQ MC Xg ⟨[(.imm true aM p0),(.imm zp0 (.sl (.int .i64)) p1)],[]⟩=(SY p0 p1).run fun r=>some (QC zp0 p0 p1 r):=fun _ _ _=>by kernel_rfl
noncomputable def Xf (av:List AV) (rs:List Root):Tre aB :=
 aJ av fun a0_ av0 =>
 aJ av0 fun a1_ av1 =>
 aU av1 <|
 aU rs <|
 aC true aM a0_ fun d1 =>
 bH (.sl (.int .i64)) a1_ fun z3 d2 =>
 .mat (yA d1 d2) fun r=>.ret (QC z3 d1 d2 r)
noncomputable def ME:Ctr:=⟨[],fun ci=>Xf ci.args ci.roots,false⟩
theorem afy:bP Tryz.prog .none MC:=(aA ayP azQ aP)
theorem Ta:Contract Tryz.prog .none 60 ME:=by
 have hl:aZ MC [] Xh:=bB (by kernel_rfl)
 refine (aI (F:=Xg) bn afy Tryz.func60 (by kernel_rfl) (by kernel_rfl) (by kernel_rfl) hl []).weaken ?_
 rintro ⟨av,rs⟩ co h
 have h:(Xf av rs).run some=some co:=h
 obtain ⟨a0_,av0,rfl,h_0⟩:=au h
 obtain ⟨a1_,av1,rfl,h_1⟩:=au h_0
 obtain ⟨rfl,h_2⟩:=ay h_1
 obtain ⟨rfl,h_3⟩:=ay h_2
 obtain ⟨d1,rfl,h_4⟩:=ak h_3
 obtain ⟨z3,d2,rfl,h_5⟩:=aF h_4
 exact bK (ahe z3 d1 d2) h_5
noncomputable def IB (p0:(Int×(Int×Unit))) (p1:(List Int)):Tre Bool :=
 let v1:=inR (p1.length:Int) 1 5
 .cond v1
  (.mat (yA p0 p1) fun r2 =>
  .ret r2)
  (.ret false)
noncomputable def wI (p0:(Int×(Int×Unit))) (p1:(List Int)):Option Bool:=(IB p0 p1).run some
noncomputable def Cu:Env:=⟨tau,[(45,pW),(92,JD),(60,ME)],[]⟩
noncomputable def Nz:Code:=(Tryz.f121.body).getD .skip
noncomputable def Ny:FnI:=⟨Nz,Tryz.f121.results.toList,Tryz.f121.resultTypes.toList,[]⟩
noncomputable def IC (_zp0:Bool) (_p0:(Int×(Int×Unit))) (_p1:(List Int)):Bool→aB:=fun r=>⟨(.imm true .bool r),[],[]⟩
theorem ZH:∀ (zp0:Bool) (p0:(Int×(Int×Unit))) (p1:(List Int)),bQ Cu Ny ⟨[(.imm true aM p0),(.imm zp0 (.sl (.int .i64)) p1)],[]⟩=(IB p0 p1).run fun r=>some (IC zp0 p0 p1 r):=fun _ _ _=>by kernel_rfl
noncomputable def Nw (av:List AV) (rs:List Root):Tre aB :=
 aJ av fun a0_ av0 =>
 aJ av0 fun a1_ av1 =>
 aU av1 <|
 aU rs <|
 aC true aM a0_ fun d1 =>
 bH (.sl (.int .i64)) a1_ fun z3 d2 =>
 .mat (wI d1 d2) fun r=>.ret (IC z3 d1 d2 r)
noncomputable def NA:Ctr:=⟨[],fun ci=>Nw ci.args ci.roots,false⟩
theorem Yw:bP Tryz.prog .none Cu:=(aA rW anK (aA Lm aqS (aA Ta axr aP)))
theorem ZI:Contract Tryz.prog .none 121 NA:=by
 have hl:aZ Cu [] Nz:=bB (by kernel_rfl)
 refine (aI (F:=Ny) bn Yw Tryz.func121 (by kernel_rfl) (by kernel_rfl) (by kernel_rfl) hl []).weaken ?_
 rintro ⟨av,rs⟩ co h
 have h:(Nw av rs).run some=some co:=h
 obtain ⟨a0_,av0,rfl,h_0⟩:=au h
 obtain ⟨a1_,av1,rfl,h_1⟩:=au h_0
 obtain ⟨rfl,h_2⟩:=ay h_1
 obtain ⟨rfl,h_3⟩:=ay h_2
 obtain ⟨d1,rfl,h_4⟩:=ak h_3
 obtain ⟨z3,d2,rfl,h_5⟩:=aF h_4
 exact bK (ZH z3 d1 d2) h_5
noncomputable def pK (p0:(List Int)) (p1:(Int×(Int×Unit))) (p2:(List (List Int))):Tre Bool :=
 .mat (wI p1 p0) fun r1 =>
 .cond (!r1)
  (.ret true)
  (.ite ((0:Int)≤0∧(0:Int) < (p2.length:Int)) <|
  .mat (p2[0]?) fun x2 =>
  .ret (!decide ((p0.length:Int)=(x2.length:Int))))
noncomputable def gF (p0:(List Int)) (p1:(Int×(Int×Unit))) (p2:(List (List Int))):Option Bool:=(pK p0 p1 p2).run some
noncomputable def mW:Env:=⟨tau,[(121,NA)],[]⟩
noncomputable def xu:Code:=(Tryz.f120.body).getD .skip
noncomputable def xq:FnI:=⟨xu,Tryz.f120.results.toList,Tryz.f120.resultTypes.toList,[]⟩
noncomputable def uq (_zp0:Bool) (zp1:Bool) (_p0:(List Int)) (p1:(Int×(Int×Unit))) (p2:(List (List Int))):Bool→aB:=fun r=>⟨(.imm true .bool r),[⟨true,aM,.own,p1⟩,⟨true,(.sl (.sl (.int .i64))),(.imm zp1),p2⟩],[]⟩
theorem I4:∀ (zp0:Bool) (zp1:Bool) (p0:(List Int)) (p1:(Int×(Int×Unit))) (p2:(List (List Int))),bQ mW xq ⟨[(.imm zp0 (.sl (.int .i64)) p0),(.ptr (0,0) []),(.ptr (0,1) [])],[⟨true,aM,.own,p1⟩,⟨true,(.sl (.sl (.int .i64))),(.imm zp1),p2⟩]⟩=(pK p0 p1 p2).run fun r=>some (uq zp0 zp1 p0 p1 p2 r):=fun _ _ _ _ _=>by kernel_rfl
noncomputable def xg (av:List AV) (rs:List Root):Tre aB :=
 aJ av fun a0_ av0 =>
 aJ av0 fun a1_ av1 =>
 aJ av1 fun a2_ av2 =>
 aU av2 <|
 aJ rs fun r0_ rs0 =>
 aJ rs0 fun r1_ rs1 =>
 aU rs1 <|
 bH (.sl (.int .i64)) a0_ fun z2 d1 =>
 dW (0,0) [] a1_ <|
 dW (0,1) [] a2_ <|
 Io true aM r0_ fun m3 d4 =>
 asM .own m3 <|
 Io true (.sl (.sl (.int .i64))) r1_ fun m5 d6 =>
 uQ m5 fun z7 =>
 .mat (gF d1 d4 d6) fun r=>.ret (uq z2 z7 d1 d4 d6 r)
noncomputable def xw:Ctr:=⟨[],fun ci=>xg ci.args ci.roots,false⟩
theorem G7:bP Tryz.prog .none mW:=(aA ZI ayj aP)
theorem I5:Contract Tryz.prog .none 120 xw:=by
 have hl:aZ mW [] xu:=bB (by kernel_rfl)
 refine (aI (F:=xq) bn G7 Tryz.func120 (by kernel_rfl) (by kernel_rfl) (by kernel_rfl) hl []).weaken ?_
 rintro ⟨av,rs⟩ co h
 have h:(xg av rs).run some=some co:=h
 obtain ⟨a0_,av0,rfl,h_0⟩:=au h
 obtain ⟨a1_,av1,rfl,h_1⟩:=au h_0
 obtain ⟨a2_,av2,rfl,h_2⟩:=au h_1
 obtain ⟨rfl,h_3⟩:=ay h_2
 obtain ⟨r0_,rs0,rfl,h_4⟩:=au h_3
 obtain ⟨r1_,rs1,rfl,h_5⟩:=au h_4
 obtain ⟨rfl,h_6⟩:=ay h_5
 obtain ⟨z2,d1,rfl,h_7⟩:=aF h_6
 obtain ⟨rfl,h_8⟩:=bI h_7
 obtain ⟨rfl,h_9⟩:=bI h_8
 obtain ⟨m3,d4,rfl,h_10⟩:=eX h_9
 obtain ⟨rfl,h_11⟩:=aQ h_10
 obtain ⟨m5,d6,rfl,h_12⟩:=eX h_11
 obtain ⟨z7,rfl,h_13⟩:=fG h_12
 exact bK (I4 z2 z7 d1 d4 d6) h_13
noncomputable def Ul (h2_0_0:(List (List Int))) (h2_0_1:Int) (h2_0_3:(Int×(Int×Unit))) (h2_0_4:(List (List Int))):Int→Tre (Int ⊕ (Int ⊕ Unit)):=fun s2 =>
 .cond (decide (s2 < h2_0_1))
  (.ite (0≤s2∧s2 < (h2_0_0.length:Int)) <|
  .mat (h2_0_0[s2.toNat]?) fun x1 =>
  .mat (gF x1 h2_0_3 h2_0_4) fun r2 =>
  .cond r2
   (.ret (.inr (.inl s2)))
   (.ret (.inl (aO .i64 (s2+1)))))
  (.ret (.inr (.inr ())))
noncomputable def nm2 (p0:(List (List Int))) (p1:(Int×(Int×Unit))) (p2:(List (List Int))):Tre Int :=
 .mat (aR (Ul p0 (p0.length:Int) p1 p2) 0) fun l3 =>
 .alt l3
  (fun a4 =>
   .ret a4)
  (fun _ =>
   .ret (-1))
noncomputable def ari (p0:(List (List Int))) (p1:(Int×(Int×Unit))) (p2:(List (List Int))):Option Int:=(nm2 p0 p1 p2).run some
noncomputable def aou:Env:=⟨tau,[(120,xw)],[]⟩
noncomputable def arj:Code:=(Tryz.f122.body).getD .skip
noncomputable def acX (z2_0:Bool) (z2_1:Bool) (h2_0_0:(List (List Int))) (h2_0_1:Int) (h2_0_3:(Int×(Int×Unit))) (h2_0_4:(List (List Int))):Int→St:=fun x=>bR [(0,(.imm z2_0 (.sl (.sl (.int .i64))) h2_0_0)),(1,(.fn 120 [(0,0),(0,1)])),(7,(.imm true (.int .i64) h2_0_1)),(8,(.imm true (.int .i64) x))] [((0,0),some ⟨true,aM,.own,h2_0_3⟩),((0,1),some ⟨true,(.sl (.sl (.int .i64))),(.imm z2_1),h2_0_4⟩)]
noncomputable def PV (_z2_0:Bool) (z2_1:Bool) (_h2_0_0:(List (List Int))) (_h2_0_1:Int) (h2_0_3:(Int×(Int×Unit))) (h2_0_4:(List (List Int))):(Int ⊕ Unit)→Ex×St
 |.inl x=>(.ret,bR [(4,(.imm true (.int .i64) x))] [((0,0),some ⟨true,aM,.own,h2_0_3⟩),((0,1),some ⟨true,(.sl (.sl (.int .i64))),(.imm z2_1),h2_0_4⟩)])
 |.inr _=>(.exit 0,bR [(4,.dead)] [((0,0),some ⟨true,aM,.own,h2_0_3⟩),((0,1),some ⟨true,(.sl (.sl (.int .i64))),(.imm z2_1),h2_0_4⟩)])
noncomputable def aov (s:St):Tre (Ex×St) :=
 bH (.sl (.sl (.int .i64))) (s.tmps 0) fun z3 d2 =>
 Zq 120 [(0,0),(0,1)] (s.tmps 1) <|
 aC true (.int .i64) (s.tmps 7) fun d6 =>
 aC true (.int .i64) (s.tmps 8) fun d8 =>
 bD true aM (s.roots (0,0)) fun m10 d11 =>
 asM .own m10 <|
 bD true (.sl (.sl (.int .i64))) (s.roots (0,1)) fun m13 d14 =>
 uQ m13 fun z15 =>
 .mat (aR (Ul d2 d6 d11 d14) d8) fun x=>.alt x (fun a0=>.ret (PV z3 z15 d2 d6 d11 d14 (.inl a0))) (fun b0=>.ret (PV z3 z15 d2 d6 d11 d14 (.inr b0)))
noncomputable def Oe:bJ:=⟨([0,1,7,8],[(0,0),(0,1)]),([4],[(0,0),(0,1)]),aov⟩
noncomputable def arh:List (Nat×bJ):=[(2,Oe)]
theorem aow:∀ (z2_0:Bool) (z2_1:Bool) (h2_0_0:(List (List Int))) (h2_0_1:Int) (h2_0_3:(Int×(Int×Unit))) (h2_0_4:(List (List Int))) (x:Int) (c:St→Option (Ex×St)),den aou arh (aY arj 0) (acX z2_0 z2_1 h2_0_0 h2_0_1 h2_0_3 h2_0_4 x) (bV Oe.kp Oe.kx c)=(Ul h2_0_0 h2_0_1 h2_0_3 h2_0_4 x).run (bW (acX z2_0 z2_1 h2_0_0 h2_0_1 h2_0_3 h2_0_4) (PV z2_0 z2_1 h2_0_0 h2_0_1 h2_0_3 h2_0_4) c):=fun _ _ _ _ _ _ _ _=>by
 kernel_rfl
theorem asH:bS aou arh (aY arj 0) Oe:=bA fun s e s' h=>by
 generalize hs:restrict Oe.kp s=s1 at h
 have h:(aov s1).run some=some (e,s'):=h
 obtain ⟨z3,d2,e1,h_0⟩:=aF h
 obtain ⟨e4,h_1⟩:=nk h_0
 obtain ⟨d6,e5,h_2⟩:=ak h_1
 obtain ⟨d8,e7,h_3⟩:=ak h_2
 obtain ⟨m10,d11,e9,h_4⟩:=aH h_3
 obtain ⟨rfl,h_5⟩:=aQ h_4
 obtain ⟨m13,d14,e12,h_6⟩:=aH h_5
 obtain ⟨z15,rfl,h_7⟩:=fG h_6
 obtain ⟨y,hy,hz⟩:=kE h_7
 refine ⟨_,_,acX z3 z15 d2 d6 d11 d14,PV z3 z15 d2 d6 d11 d14,Ul d2 d6 d11 d14,d8,y,?_,hy,?_,aow z3 z15 d2 d6 d11 d14⟩
 ·subst hs;exact aT (T:=[(0,(.imm z3 (.sl (.sl (.int .i64))) d2)),(1,(.fn 120 [(0,0),(0,1)])),(7,(.imm true (.int .i64) d6)),(8,(.imm true (.int .i64) d8))]) (U:=[((0,0),some ⟨true,aM,.own,d11⟩),((0,1),some ⟨true,(.sl (.sl (.int .i64))),(.imm z15),d14⟩)]) rfl rfl ⟨e1,e4,e5,e7,trivial⟩ ⟨e9,e12,trivial⟩
 ·rcases y with x | x <;> exact Option.some.inj hz
noncomputable def axI:FnI:=⟨arj,Tryz.f122.results.toList,Tryz.f122.resultTypes.toList,arh⟩
noncomputable def ark (_zp0:Bool) (zp1:Bool) (_p0:(List (List Int))) (p1:(Int×(Int×Unit))) (p2:(List (List Int))):Int→aB:=fun r=>⟨(.imm true (.int .i64) r),[⟨true,aM,.own,p1⟩,⟨true,(.sl (.sl (.int .i64))),(.imm zp1),p2⟩],[]⟩
theorem ayK:∀ (zp0:Bool) (zp1:Bool) (p0:(List (List Int))) (p1:(Int×(Int×Unit))) (p2:(List (List Int))),bQ aou axI ⟨[(.imm zp0 (.sl (.sl (.int .i64))) p0),(.fn 120 [(0,0),(0,1)])],[⟨true,aM,.own,p1⟩,⟨true,(.sl (.sl (.int .i64))),(.imm zp1),p2⟩]⟩=(nm2 p0 p1 p2).run fun r=>some (ark zp0 zp1 p0 p1 p2 r):=fun _ _ _ _ _=>by kernel_rfl
noncomputable def axH (av:List AV) (rs:List Root):Tre aB :=
 aJ av fun a0_ av0 =>
 aJ av0 fun a1_ av1 =>
 aU av1 <|
 aJ rs fun r0_ rs0 =>
 aJ rs0 fun r1_ rs1 =>
 aU rs1 <|
 bH (.sl (.sl (.int .i64))) a0_ fun z2 d1 =>
 Zq 120 [(0,0),(0,1)] a1_ <|
 Io true aM r0_ fun m3 d4 =>
 asM .own m3 <|
 Io true (.sl (.sl (.int .i64))) r1_ fun m5 d6 =>
 uQ m5 fun z7 =>
 .mat (ari d1 d4 d6) fun r=>.ret (ark z2 z7 d1 d4 d6 r)
noncomputable def axJ:Ctr:=⟨[],fun ci=>axH ci.args ci.roots,false⟩
theorem awp:bP Tryz.prog .none aou:=(aA I5 ayi aP)
theorem ayL:Contract Tryz.prog .none 122 axJ:=by
 have hl:aZ aou arh arj:=(bC (n:=1) (by kernel_rfl) fun k hk=>by
   match k,hk with
   |0,_=>exact bq (id:=2) (L:=Oe) (by kernel_rfl) (by kernel_rfl) asH)
 refine (aI (F:=axI) bn awp Tryz.func122 (by kernel_rfl) (by kernel_rfl) (by kernel_rfl) hl []).weaken ?_
 rintro ⟨av,rs⟩ co h
 have h:(axH av rs).run some=some co:=h
 obtain ⟨a0_,av0,rfl,h_0⟩:=au h
 obtain ⟨a1_,av1,rfl,h_1⟩:=au h_0
 obtain ⟨rfl,h_2⟩:=ay h_1
 obtain ⟨r0_,rs0,rfl,h_3⟩:=au h_2
 obtain ⟨r1_,rs1,rfl,h_4⟩:=au h_3
 obtain ⟨rfl,h_5⟩:=ay h_4
 obtain ⟨z2,d1,rfl,h_6⟩:=aF h_5
 obtain ⟨rfl,h_7⟩:=nk h_6
 obtain ⟨m3,d4,rfl,h_8⟩:=eX h_7
 obtain ⟨rfl,h_9⟩:=aQ h_8
 obtain ⟨m5,d6,rfl,h_10⟩:=eX h_9
 obtain ⟨z7,rfl,h_11⟩:=fG h_10
 exact bK (ayK z2 z7 d1 d4 d6) h_11
noncomputable def nm0 (p0:(List (List Int))) (p1:(Int×(Int×Unit))) (p2:(List (List Int))):Tre Bool :=
 .mat (ari p0 p1 p2) fun r1 =>
 .ret (decide (r1 ≥ 0))
noncomputable def aq8 (p0:(List (List Int))) (p1:(Int×(Int×Unit))) (p2:(List (List Int))):Option Bool:=(nm0 p0 p1 p2).run some
noncomputable def auJ:Env:=⟨tau,[(122,axJ)],[]⟩
noncomputable def axC:Code:=(Tryz.f119.body).getD .skip
noncomputable def axB:FnI:=⟨axC,Tryz.f119.results.toList,Tryz.f119.resultTypes.toList,[]⟩
noncomputable def aq9 (_zp0:Bool) (zp1:Bool) (_p0:(List (List Int))) (p1:(Int×(Int×Unit))) (p2:(List (List Int))):Bool→aB:=fun r=>⟨(.imm true .bool r),[⟨true,aM,.own,p1⟩,⟨true,(.sl (.sl (.int .i64))),(.imm zp1),p2⟩],[]⟩
theorem ayG:∀ (zp0:Bool) (zp1:Bool) (p0:(List (List Int))) (p1:(Int×(Int×Unit))) (p2:(List (List Int))),bQ auJ axB ⟨[(.imm zp0 (.sl (.sl (.int .i64))) p0),(.fn 120 [(0,0),(0,1)])],[⟨true,aM,.own,p1⟩,⟨true,(.sl (.sl (.int .i64))),(.imm zp1),p2⟩]⟩=(nm0 p0 p1 p2).run fun r=>some (aq9 zp0 zp1 p0 p1 p2 r):=fun _ _ _ _ _=>by kernel_rfl
noncomputable def axA (av:List AV) (rs:List Root):Tre aB :=
 aJ av fun a0_ av0 =>
 aJ av0 fun a1_ av1 =>
 aU av1 <|
 aJ rs fun r0_ rs0 =>
 aJ rs0 fun r1_ rs1 =>
 aU rs1 <|
 bH (.sl (.sl (.int .i64))) a0_ fun z2 d1 =>
 Zq 120 [(0,0),(0,1)] a1_ <|
 Io true aM r0_ fun m3 d4 =>
 asM .own m3 <|
 Io true (.sl (.sl (.int .i64))) r1_ fun m5 d6 =>
 uQ m5 fun z7 =>
 .mat (aq8 d1 d4 d6) fun r=>.ret (aq9 z2 z7 d1 d4 d6 r)
noncomputable def axD:Ctr:=⟨[],fun ci=>axA ci.args ci.roots,false⟩
theorem awn:bP Tryz.prog .none auJ:=(aA ayL at0 aP)
theorem ayH:Contract Tryz.prog .none 119 axD:=by
 have hl:aZ auJ [] axC:=bB (by kernel_rfl)
 refine (aI (F:=axB) bn awn Tryz.func119 (by kernel_rfl) (by kernel_rfl) (by kernel_rfl) hl []).weaken ?_
 rintro ⟨av,rs⟩ co h
 have h:(axA av rs).run some=some co:=h
 obtain ⟨a0_,av0,rfl,h_0⟩:=au h
 obtain ⟨a1_,av1,rfl,h_1⟩:=au h_0
 obtain ⟨rfl,h_2⟩:=ay h_1
 obtain ⟨r0_,rs0,rfl,h_3⟩:=au h_2
 obtain ⟨r1_,rs1,rfl,h_4⟩:=au h_3
 obtain ⟨rfl,h_5⟩:=ay h_4
 obtain ⟨z2,d1,rfl,h_6⟩:=aF h_5
 obtain ⟨rfl,h_7⟩:=nk h_6
 obtain ⟨m3,d4,rfl,h_8⟩:=eX h_7
 obtain ⟨rfl,h_9⟩:=aQ h_8
 obtain ⟨m5,d6,rfl,h_10⟩:=eX h_9
 obtain ⟨z7,rfl,h_11⟩:=fG h_10
 exact bK (ayG z2 z7 d1 d4 d6) h_11
noncomputable def wP (p0:(Int×(Int×Unit))) (p1:(List (List Int))):Tre Int :=
 .mat (vB p0) fun r1 =>
 .cond (!r1)
  (.ret 1)
  (.mat (aq8 p1 p0 p1) fun r2 =>
  .cond r2
   (.ret 2)
   (.ret 0))
noncomputable def jR (p0:(Int×(Int×Unit))) (p1:(List (List Int))):Option Int:=(wP p0 p1).run some
noncomputable def za:Env:=⟨tau,[(118,Tz),(119,axD)],[]⟩
noncomputable def IY:Code:=(Tryz.f90.body).getD .skip
noncomputable def IX:FnI:=⟨IY,Tryz.f90.results.toList,Tryz.f90.resultTypes.toList,[]⟩
noncomputable def Ef (_zp0:Bool) (_p0:(Int×(Int×Unit))) (_p1:(List (List Int))):Int→aB:=fun r=>⟨(.imm true (.int .i64) r),[],[]⟩
theorem Wp:∀ (zp0:Bool) (p0:(Int×(Int×Unit))) (p1:(List (List Int))),bQ za IX ⟨[(.imm true aM p0),(.imm zp0 (.sl (.sl (.int .i64))) p1)],[]⟩=(wP p0 p1).run fun r=>some (Ef zp0 p0 p1 r):=fun _ _ _=>by kernel_rfl
noncomputable def IW (av:List AV) (rs:List Root):Tre aB :=
 aJ av fun a0_ av0 =>
 aJ av0 fun a1_ av1 =>
 aU av1 <|
 aU rs <|
 aC true aM a0_ fun d1 =>
 bH (.sl (.sl (.int .i64))) a1_ fun z3 d2 =>
 .mat (jR d1 d2) fun r=>.ret (Ef z3 d1 d2 r)
noncomputable def IZ:Ctr:=⟨[],fun ci=>IW ci.args ci.roots,false⟩
theorem Tm:bP Tryz.prog .none za:=(aA afD ayg (aA ayH ayh aP))
theorem Wq:Contract Tryz.prog .none 90 IZ:=by
 have hl:aZ za [] IY:=bB (by kernel_rfl)
 refine (aI (F:=IX) bn Tm Tryz.func90 (by kernel_rfl) (by kernel_rfl) (by kernel_rfl) hl []).weaken ?_
 rintro ⟨av,rs⟩ co h
 have h:(IW av rs).run some=some co:=h
 obtain ⟨a0_,av0,rfl,h_0⟩:=au h
 obtain ⟨a1_,av1,rfl,h_1⟩:=au h_0
 obtain ⟨rfl,h_2⟩:=ay h_1
 obtain ⟨rfl,h_3⟩:=ay h_2
 obtain ⟨d1,rfl,h_4⟩:=ak h_3
 obtain ⟨z3,d2,rfl,h_5⟩:=aF h_4
 exact bK (Wp z3 d1 d2) h_5
noncomputable def Cz (p0:(List Int)):Tre Bool :=
 .mat (asg p0) fun r1 =>
 .ret (decide ((r1.length:Int)=(p0.length:Int)))
noncomputable def Jm (p0:(List Int)):Option Bool:=(Cz p0).run some
noncomputable def awj (xs:List Int):Option Bool:=ajl (JI 62 xs) (decide (((acd xs).length:Int)=(xs.length:Int)))
theorem Sc (p0:List Int) (y:Bool) (h:awj p0=some y):Jm p0=some y:=by
 obtain ⟨hok,rfl⟩:=zL h
 unfold Jm Cz
 rw [ah (show asg p0=some _ from o9 hok)]
 rfl
noncomputable def zq:Env:=⟨tau,[(64,TG)],[]⟩
noncomputable def Jq:Code:=(Tryz.f91.body).getD .skip
noncomputable def Jp:FnI:=⟨Jq,Tryz.f91.results.toList,Tryz.f91.resultTypes.toList,[]⟩
noncomputable def EH (_zp0:Bool) (_p0:(List Int)):Bool→aB:=fun r=>⟨(.imm true .bool r),[],[]⟩
theorem Wz:∀ (zp0:Bool) (p0:(List Int)),bQ zq Jp ⟨[(.imm zp0 (.sl (.int .i64)) p0)],[]⟩=(Cz p0).run fun r=>some (EH zp0 p0 r):=fun _ _=>by kernel_rfl
noncomputable def Jo (av:List AV) (rs:List Root):Tre aB :=
 aJ av fun a0_ av0 =>
 aU av0 <|
 aU rs <|
 bH (.sl (.int .i64)) a0_ fun z2 d1 =>
 .mat (awj d1) fun r=>.ret (EH z2 d1 r)
noncomputable def Jr:Ctr:=⟨[],fun ci=>Jo ci.args ci.roots,false⟩
theorem TB:bP Tryz.prog .none zq:=(aA ZU axt aP)
theorem WA:Contract Tryz.prog .none 91 Jr:=by
 have hl:aZ zq [] Jq:=bB (by kernel_rfl)
 refine (aI (F:=Jp) bn TB Tryz.func91 (by kernel_rfl) (by kernel_rfl) (by kernel_rfl) hl []).weaken ?_
 rintro ⟨av,rs⟩ co h
 have h:(Jo av rs).run some=some co:=h
 obtain ⟨a0_,av0,rfl,h_0⟩:=au h
 obtain ⟨rfl,h_1⟩:=ay h_0
 obtain ⟨rfl,h_2⟩:=ay h_1
 obtain ⟨z2,d1,rfl,h_3⟩:=aF h_2
 exact wD (Wz z2 d1) (Sc d1) h_3
noncomputable def Cy (p0:aK):Tre Bool :=
 .mat (jR p0.1 ([p0.2.1])) fun r1 =>
 .cond (decide (r1=0))
  (.mat (awj p0.2.1) fun r2 =>
  .cond r2
   (let v3:=inR p0.2.2.1 1 (p0.2.1.length:Int)
   .ret v3)
   (.ret false))
  (.ret false)
noncomputable def qZ (p0:aK):Option Bool:=(Cy p0).run some
noncomputable def zk:Env:=⟨tau,[(90,IZ),(91,Jr),(45,pW),(92,JD)],[]⟩
noncomputable def Jj:Code:=(Tryz.f59.body).getD .skip
noncomputable def Ji:FnI:=⟨Jj,Tryz.f59.results.toList,Tryz.f59.resultTypes.toList,[]⟩
noncomputable def EG (_zp0:Bool) (_p0:aK):Bool→aB:=fun r=>⟨(.imm true .bool r),[],[]⟩
theorem Wx:∀ (zp0:Bool) (p0:aK),bQ zk Ji ⟨[(.imm zp0 aV p0)],[]⟩=(Cy p0).run fun r=>some (EG zp0 p0 r):=fun _ _=>by kernel_rfl
noncomputable def Jh (av:List AV) (rs:List Root):Tre aB :=
 aJ av fun a0_ av0 =>
 aU av0 <|
 aU rs <|
 bH aV a0_ fun z2 d1 =>
 .mat (qZ d1) fun r=>.ret (EG z2 d1 r)
noncomputable def Jk:Ctr:=⟨[],fun ci=>Jh ci.args ci.roots,false⟩
theorem TA:bP Tryz.prog .none zk:=(aA Wq azO (aA WA azP (aA rW anK (aA Lm aqS aP))))
theorem Wy:Contract Tryz.prog .none 59 Jk:=by
 have hl:aZ zk [] Jj:=bB (by kernel_rfl)
 refine (aI (F:=Ji) bn TA Tryz.func59 (by kernel_rfl) (by kernel_rfl) (by kernel_rfl) hl []).weaken ?_
 rintro ⟨av,rs⟩ co h
 have h:(Jh av rs).run some=some co:=h
 obtain ⟨a0_,av0,rfl,h_0⟩:=au h
 obtain ⟨rfl,h_1⟩:=ay h_0
 obtain ⟨rfl,h_2⟩:=ay h_1
 obtain ⟨z2,d1,rfl,h_3⟩:=aF h_2
 exact bK (Wx z2 d1) h_3
noncomputable def zi (p0:aK) (p1:(List Int)):Tre Int :=
 .mat (qZ p0) fun r1 =>
 .cond (!r1)
  (.ret 1)
  (.cond (!decide ((p1.length:Int)=(p0.2.1.length:Int)))
   (.ret 2)
   (.mat (yA p0.1 p1) fun r2 =>
   .cond (!r2)
    (.ret 2)
    (.ret 0)))
noncomputable def nP (p0:aK) (p1:(List Int)):Option Int:=(zi p0 p1).run some
-- more
theorem aqc {f:TF3} (hf:aN f=true) (c:List Int):wI f c=some (inR (c.length:Int) 1 5&&oN f c):=by
 unfold wI IB
 dsimp only
 rw [Tre.aG]
 cases hi:inR (c.length:Int) 1 5
 ·rfl
 ·have:=kP.1 hi
  rw [cond_true,ah (S9 hf c (by omega)),Tre.aL,Bool.true_and]
theorem al7 {f:TF3} (hf:aN f=true) (c:List Int):jR f [c]=some (if inR (c.length:Int) 1 5=true∧oN f c=true then 0 else 2):=by
 have h1:gF c f [c]=some (!(inR (c.length:Int) 1 5&&oN f c)):=by
  unfold gF pK
  rw [ah (aqc hf c),Tre.aG]
  cases inR (c.length:Int) 1 5&&oN f c
  ·rfl
  ·rw [Bool.not_true,cond_false,Tre.run_ite,if_pos ⟨by omega,by simp⟩,ah (show [c][0]?=some c from rfl),Tre.aL,decide_eq_true rfl]
   rfl
 have h2:ari [c] f [c]=some (if inR (c.length:Int) 1 5=true∧oN f c=true then -1 else 0):=by
  unfold ari nm2
  by_cases hc:inR (c.length:Int) 1 5=true∧oN f c=true
  ·rw [hc.1,hc.2] at h1
   rw [ah (show aR (Ul [c] (([c]:List (List Int)).length:Int) f [c]) 0=some (.inr ()) from ?_),if_pos hc]
   ·rfl
   refine cZ (fun i=>(i:Int)) 1 _ (fun i hi=>?_) ?_
   ·obtain rfl:i=0:=by omega
    unfold Ul
    rw [eu (i:=0) (show [c][0]?=some c from rfl),ah h1]
    rfl
   ·rfl
  ·have h3:(inR (c.length:Int) 1 5&&oN f c)=false:=by
    cases h:(inR (c.length:Int) 1 5&&oN f c)
    ·rfl
    ·rw [Bool.and_eq_true] at h;exact absurd h hc
   rw [h3] at h1
   rw [ah (show aR (Ul [c] (([c]:List (List Int)).length:Int) f [c]) 0=some (.inl 0) from ?_),if_neg hc]
   ·rfl
   refine fu ?_
   unfold Ul
   have:=eu (i:=0) (xs:=[c]) (x:=c) (show [c][0]?=some c from rfl) (k:=fun x1=>Tre.mat (gF x1 f [c]) fun r2=>Tre.cond r2 (Tre.ret (Sum.inr (Sum.inl (0:Int)))) (Tre.ret (Sum.inl (aO .i64 ((0:Int)+1))))) (e:=Tre.ret (Sum.inr (Sum.inr ()))) (c:=some)
   refine Eq.trans this ?_
   rw [ah h1]
   rfl
 have h4:aq8 [c] f [c]=some (!decide (inR (c.length:Int) 1 5=true∧oN f c=true)):=by
  unfold aq8 nm0
  rw [ah h2,Tre.aL]
  by_cases hc:inR (c.length:Int) 1 5=true∧oN f c=true
  ·rw [if_pos hc,decide_eq_true hc];rfl
  ·rw [if_neg hc,decide_eq_false hc];rfl
 unfold jR wP
 rw [ah (QM f),hf,Tre.aG,Bool.not_true,cond_false,ah h4,Tre.aG]
 by_cases hc:inR (c.length:Int) 1 5=true∧oN f c=true
 ·rw [decide_eq_true hc,if_pos hc];rfl
 ·rw [decide_eq_false hc,if_neg hc];rfl
theorem al6 (g:TF3×List Int×Int×Unit):qZ g=some (afw g):=by
 unfold qZ Cy afw
 cases hf:aN g.1
 ·have:jR g.1 [g.2.1]=some 1:=by
   unfold jR wP
   rw [ah (QM g.1),hf]
   rfl
  rw [ah this]
  rfl
 rw [ah (al7 hf g.2.1),Tre.aG,Bool.true_and]
 by_cases hc:inR (g.2.1.length:Int) 1 5=true∧oN g.1 g.2.1=true
 ·have hl:=kP.1 hc.1
  have h5:=(VJ hf).2
  rw [if_pos hc,decide_eq_true rfl,cond_true,ah (show awj g.2.1=some _ from o9 (anJ hf hc.2 (by omega) (by omega))),Tre.aG,hc.1,hc.2,Bool.true_and,Bool.true_and]
  cases decide (((acd g.2.1).length:Int)=(g.2.1.length:Int))
  ·rfl
  ·rfl
 ·have h3:(inR (g.2.1.length:Int) 1 5&&(oN g.1 g.2.1&&(decide (((acd g.2.1).length:Int)=(g.2.1.length:Int))&&inR g.2.2.1 1 (g.2.1.length:Int))))=false:=by
   cases h:inR (g.2.1.length:Int) 1 5
   ·rfl
   ·cases h2:oN g.1 g.2.1
    ·rfl
    ·exact absurd ⟨h,h2⟩ hc
  rw [if_neg hc,decide_eq_false (by decide),cond_false,h3]
  rfl
theorem aqi (g:TF3×List Int×Int×Unit) (w:List Int) (hw:w.length≤1048576):nP g w=some (Gg g w):=by
 unfold nP zi Gg
 rw [ah (al6 g),Tre.aG]
 cases hg:afw g
 ·rfl
 ·have hf:aN g.1=true:=by unfold afw at hg;simp only [Bool.and_eq_true] at hg;exact hg.1
  rw [Bool.not_true,cond_false,if_pos rfl,Tre.aG]
  by_cases h1:w.length=g.2.1.length
  ·rw [decide_eq_true (by omega),Bool.not_true,cond_false,ah (S9 hf w (by omega)),Tre.aG]
   cases he:oN g.1 w
   ·rw [if_neg (by simp)];rfl
   ·rw [if_pos ⟨h1,rfl⟩];rfl
  ·rw [decide_eq_false (by omega),Bool.not_false,cond_true,if_neg fun h=>h1 h.1];rfl
noncomputable def vk:Env:=⟨tau,[(59,Jk),(60,ME)],[]⟩
noncomputable def Ev:Code:=(Tryz.f31.body).getD .skip
noncomputable def Eu:FnI:=⟨Ev,Tryz.f31.results.toList,Tryz.f31.resultTypes.toList,[]⟩
noncomputable def AA (_zp0:Bool) (_zp1:Bool) (_p0:aK) (_p1:(List Int)):Int→aB:=fun r=>⟨(.imm true (.int .i64) r),[],[]⟩
theorem R6:∀ (zp0:Bool) (zp1:Bool) (p0:aK) (p1:(List Int)),bQ vk Eu ⟨[(.imm zp0 aV p0),(.imm zp1 (.sl (.int .i64)) p1)],[]⟩=(zi p0 p1).run fun r=>some (AA zp0 zp1 p0 p1 r):=fun _ _ _ _=>by kernel_rfl
noncomputable def Et (av:List AV) (rs:List Root):Tre aB :=
 aJ av fun a0_ av0 =>
 aJ av0 fun a1_ av1 =>
 aU av1 <|
 aU rs <|
 bH aV a0_ fun z2 d1 =>
 bH (.sl (.int .i64)) a1_ fun z4 d3 =>
 .mat (nP d1 d3) fun r=>.ret (AA z2 z4 d1 d3 r)
noncomputable def Ew:Ctr:=⟨[],fun ci=>Et ci.args ci.roots,false⟩
theorem Pn:bP Tryz.prog .none vk:=(aA Wy azB (aA Ta axr aP))
theorem R7:Contract Tryz.prog .none 31 Ew:=by
 have hl:aZ vk [] Ev:=bB (by kernel_rfl)
 refine (aI (F:=Eu) bn Pn Tryz.func31 (by kernel_rfl) (by kernel_rfl) (by kernel_rfl) hl []).weaken ?_
 rintro ⟨av,rs⟩ co h
 have h:(Et av rs).run some=some co:=h
 obtain ⟨a0_,av0,rfl,h_0⟩:=au h
 obtain ⟨a1_,av1,rfl,h_1⟩:=au h_0
 obtain ⟨rfl,h_2⟩:=ay h_1
 obtain ⟨rfl,h_3⟩:=ay h_2
 obtain ⟨z2,d1,rfl,h_4⟩:=aF h_3
 obtain ⟨z4,d3,rfl,h_5⟩:=aF h_4
 exact bK (R6 z2 z4 d1 d3) h_5
noncomputable def Ao (p0:aK) (p1:(List Int)):Tre (Int×Int×(List Int)) :=
 .mat (nP p0 p1) fun r1 =>
 .cond (!decide (r1=0))
  (.ret (0,r1,[]))
  (.mat (kC p0 p1) fun r2 =>
  .cond (!r2.1)
   (.ret (0,6,[]))
   (.mat (kD p0 r2.2) fun r3 =>
   .mat (NW p1 r3) fun r4 =>
   .mat (Jz r4) fun r5 =>
   .ret (r5,0,r2.2)))
noncomputable def gI (p0:aK) (p1:(List Int)):Option (Int×Int×(List Int)):=(Ao p0 p1).run some
-- more
noncomputable def Zv (g:TF3×List Int×Int×Unit) (w:List Int):Int×Int×List Int:=by
 classical
 exact if Gg g w=0 then (if h:∃ m:List Int×Int,m.1.length≤5∧∃ (hf:aN g.1=true) (P W M:List Nat) (k:Nat),g=(g.1,aS P,(k:Int),())∧w=aS W∧Wh hf P W k ((P.length - k) / 2)=some M∧m=(aS M,(rkN ((FOf g.1 hf).Am P W M):Int)) then ((Classical.choose h).2,0,(Classical.choose h).1) else (0,6,[])) else (0,Gg g w,[])
theorem aaf {a b:List Nat} (h:aS a=aS b):a=b:=by
 have:=congrArg (List.map Int.toNat) h
 rwa [aag,aag] at this
theorem akz {g:TF3×List Int×Int×Unit} {w:List Int} (h:Gg g w≠0):Zv g w=(0,Gg g w,[]):=by
 unfold Zv;rw [if_neg h]
theorem akA {f:TF3} {hf:aN f=true} {P W:List Nat} {k:Nat} (h0:Gg (f,aS P,(k:Int),()) (aS W)=0) (h:Wh hf P W k ((P.length - k) / 2)=none):Zv (f,aS P,(k:Int),()) (aS W)=(0,6,[]):=by
 unfold Zv
 rw [if_pos h0,dif_neg]
 rintro ⟨m,_,hf',P',W',M,k',h1,h2,h3,_⟩
 simp only [Prod.mk.injEq,true_and,and_true] at h1
 have hP:=aaf h1.1
 have hW:=aaf h2
 have hk:k=k':=by omega
 subst hP hW hk
 rw [h] at h3
 cases h3
theorem akB {f:TF3} {hf:aN f=true} {P W M:List Nat} {k:Nat} (h0:Gg (f,aS P,(k:Int),()) (aS W)=0) (hM:M.length≤5) (h:Wh hf P W k ((P.length - k) / 2)=some M):Zv (f,aS P,(k:Int),()) (aS W)=((rkN ((FOf f hf).Am P W M):Int),0,aS M):=by
 have hex:∃ m:List Int×Int,m.1.length≤5∧∃ (hf:aN (f,aS P,(k:Int),()).1=true) (P' W' M:List Nat) (k':Nat),(f,aS P,(k:Int),())=((f,aS P,(k:Int),()).1,aS P',(k':Int),())∧aS W=aS W'∧Wh hf P' W' k' ((P'.length - k') / 2)=some M∧m=(aS M,(rkN ((FOf (f,aS P,(k:Int),()).1 hf).Am P' W' M):Int)) :=
  ⟨(aS M,(rkN ((FOf f hf).Am P W M):Int)),by rw [aW];exact hM,hf,P,W,M,k,rfl,rfl,h,rfl⟩
 unfold Zv
 rw [if_pos h0,dif_pos hex]
 obtain ⟨_,hf',P',W',M',k',h1,h2,h3,h4⟩:=Classical.choose_spec hex
 simp only [Prod.mk.injEq,true_and,and_true] at h1
 have hP:=aaf h1.1
 have hW:=aaf h2
 have hk:k=k':=by omega
 subst hP hW hk
 rw [h] at h3
 obtain rfl:=Option.some.inj h3
 rw [h4]
theorem agS (g:TF3×List Int×Int×Unit) (w:List Int):Gg g w≠0∨∃ (hf:aN g.1=true) (P W:List Nat) (k:Nat),g=(g.1,aS P,(k:Int),())∧w=aS W∧FO.yu P∧inL (FOf g.1 hf) P∧inL (FOf g.1 hf) W∧W.length=P.length∧P.length≤5∧1≤k∧k≤P.length∧Gg (g.1,aS P,(k:Int),()) (aS W)=0:=by
 by_cases h:Gg g w=0
 ·right
  obtain ⟨h1,h2,h3⟩:=aul h
  obtain ⟨hf,P,k,hg,hP,hi,hl,hk1,hk2⟩:=ap0 h1
  obtain ⟨W,hw,hW⟩:=agt hf (ace h3)
  refine ⟨hf,P,W,k,hg,hw,hi,hP,hW,?_,hl,hk1,hk2,by rw [← hg,← hw];exact h⟩
  rw [hg,hw] at h2
  simpa only [aW] using h2
 ·exact .inl h
theorem atG (g:TF3×List Int×Int×Unit) (w:List Int):(Zv g w).2.2.length≤5:=by
 unfold Zv
 split
 ·split
  ·rename_i h
   exact (Classical.choose_spec h).1
  ·simp
 ·simp
theorem auq (g:TF3×List Int×Int×Unit) (w:List Int) (hw:w.length≤1048576):gI g w=some (Zv g w):=by
 unfold gI Ao
 rw [ah (aqi g w hw),Tre.aG]
 rcases agS g w with h | ⟨hf,P,W,k,hg,rfl,hi,hP,hW,hl,hn,hk1,hk2,h0⟩
 ·rw [decide_eq_false h,akz h];rfl
 ·obtain ⟨f,g2⟩:=g
  dsimp only at hf hg hP hW h0
  simp only [Prod.mk.injEq,true_and] at hg
  subst hg
  rw [h0,decide_eq_true rfl,Bool.not_true,cond_false]
  rcases aqa hf hi hP hW hl (by omega) hk1 hk2 with ⟨m,h1,h2⟩ | ⟨h1,M,h2⟩
  ·have hnear:=akx h1
   have hml:=hnear.1
   have hel:=(FOf f hf).Nn (m:=m) hl
   rw [ah h2,Tre.aG,Bool.not_true,cond_false,ah (ahE hf hnear.2.1 (by omega) hP (by omega) _),ah (akL hf hW hl (by omega)),ah (aq0 hf ((FOf f hf).agn hW) (by omega)),Tre.aL,akB h0 (by omega) h1]
  ·rw [ah h2,Tre.aG,Bool.not_false,cond_true,Tre.aL,akA h0 h1]
noncomputable def xK:Env:=⟨tau,[(31,Ew),(32,Ej),(35,u7),(34,acy),(33,YH)],[]⟩
noncomputable def Gj:Code:=(Tryz.f11.body).getD .skip
noncomputable def Gi:FnI:=⟨Gj,Tryz.f11.results.toList,Tryz.f11.resultTypes.toList,[]⟩
noncomputable def BO (_zp0:Bool) (_zp1:Bool) (_p0:aK) (_p1:(List Int)):(Int×Int×(List Int))→aB:=fun r=>⟨(.tcons (.ref (1,0) []) (.tcons (.imm true (.int .i64) r.1) (.tcons (.imm true (.int .i64) r.2.1) .tnil))),[],[⟨false,(.sl (.int .i64)),.own,r.2.2⟩]⟩
theorem SS:∀ (zp0:Bool) (zp1:Bool) (p0:aK) (p1:(List Int)),bQ xK Gi ⟨[(.imm zp0 aV p0),(.imm zp1 (.sl (.int .i64)) p1)],[]⟩=(Ao p0 p1).run fun r=>some (BO zp0 zp1 p0 p1 r):=fun _ _ _ _=>by kernel_rfl
noncomputable def Gh (av:List AV) (rs:List Root):Tre aB :=
 aJ av fun a0_ av0 =>
 aJ av0 fun a1_ av1 =>
 aU av1 <|
 aU rs <|
 bH aV a0_ fun z2 d1 =>
 bH (.sl (.int .i64)) a1_ fun z4 d3 =>
 .mat (gI d1 d3) fun r=>.ret (BO z2 z4 d1 d3 r)
noncomputable def Gl:Ctr:=⟨[],fun ci=>Gh ci.args ci.roots,false⟩
theorem RJ:bP Tryz.prog .none xK:=(aA R7 azp (aA RZ azq (aA BP axo (aA ahg axn (aA aef axl aP)))))
theorem SV:Contract Tryz.prog .none 11 Gl:=by
 have hl:aZ xK [] Gj:=bB (by kernel_rfl)
 refine (aI (F:=Gi) bn RJ Tryz.func11 (by kernel_rfl) (by kernel_rfl) (by kernel_rfl) hl []).weaken ?_
 rintro ⟨av,rs⟩ co h
 have h:(Gh av rs).run some=some co:=h
 obtain ⟨a0_,av0,rfl,h_0⟩:=au h
 obtain ⟨a1_,av1,rfl,h_1⟩:=au h_0
 obtain ⟨rfl,h_2⟩:=ay h_1
 obtain ⟨rfl,h_3⟩:=ay h_2
 obtain ⟨z2,d1,rfl,h_4⟩:=aF h_3
 obtain ⟨z4,d3,rfl,h_5⟩:=aF h_4
 exact bK (SS z2 z4 d1 d3) h_5
noncomputable def Bo (p0:aK) (p1:(List Int)):Tre ((Int×Int×(List Int)) ⊕ ((List Int)×Int×Int)) :=
 .mat (wW p1 p0) fun r1 =>
 .cond (!decide (r1=0))
  (.ret (.inl (0,r1,[])))
  (.mat (mQ p1 p0) fun r2 =>
  .alt r2
   (fun a3 =>
    .cond (!a3.2.1)
     (.ret (.inl (0,6,[])))
     (.ret (.inl (a3.1,0,a3.2.2))))
   (fun b4 =>
    .cond (!b4.2.2)
     (.ret (.inl (0,6,[])))
     (.ret (.inr (b4.1,b4.2.1,0)))))
noncomputable def o7 (p0:aK) (p1:(List Int)):Option ((Int×Int×(List Int)) ⊕ ((List Int)×Int×Int)):=(Bo p0 p1).run some
-- more
theorem au5 (g:TF3×List Int×Int×Unit) (w:List Int) (hw:w.length≤1048576):∃ y,o7 g w=some y∧((∃ a,y=.inl a∧a=Zv g w)∨∃ b,y=.inr b∧(b.2.1,b.2.2,b.1)=Zv g w):=by
 unfold o7 Bo
 rw [ah (ava g w hw),Tre.aG]
 rcases agS g w with h | ⟨hf,P,W,k,hg,rfl,hi,hP,hW,hl,hn,hk1,hk2,h0⟩
 ·exact ⟨.inl (0,Gg g w,[]),by rw [decide_eq_false h];rfl,.inl ⟨_,rfl,(akz h).symm⟩⟩
 ·obtain ⟨f,g2⟩:=g
  dsimp only at hf hg hP hW h0
  simp only [Prod.mk.injEq,true_and] at hg
  subst hg
  rw [h0,decide_eq_true rfl,Bool.not_true,cond_false]
  rcases aqx hf hi hP hW hl (by omega) hk1 hk2 with ⟨m,h1,h2⟩ | ⟨h1,h2⟩
  ·have hml:=(akx h1).1
   exact ⟨.inr (aS m,(rkN ((FOf f hf).Am P W m):Int),0),by rw [ah h2];rfl,.inr ⟨_,rfl,(akB h0 (by omega) h1).symm⟩⟩
  ·exact ⟨.inl (0,6,[]),by rw [ah h2];rfl,.inl ⟨_,rfl,(akA h0 h1).symm⟩⟩
noncomputable def xP:Env:=⟨tau,[(28,OI),(29,Kj)],[]⟩
noncomputable def GK:Code:=(Tryz.f8.body).getD .skip
noncomputable def GJ:FnI:=⟨GK,Tryz.f8.results.toList,Tryz.f8.resultTypes.toList,[]⟩
noncomputable def tZ (_zp0:Bool) (_zp1:Bool) (_p0:aK) (_p1:(List Int)):((Int×Int×(List Int)) ⊕ ((List Int)×Int×Int))→aB
 |.inl r=>⟨(.tcons (.ref (1,0) []) (.tcons (.imm true (.int .i64) r.1) (.tcons (.imm true (.int .i64) r.2.1) .tnil))),[],[⟨false,(.sl (.int .i64)),.own,r.2.2⟩]⟩
 |.inr r=>⟨(.tcons (.imm true (.sl (.int .i64)) r.1) (.tcons (.imm true (.int .i64) r.2.1) (.tcons (.imm true (.int .i64) r.2.2) .tnil))),[],[]⟩
theorem UA:∀ (zp0:Bool) (zp1:Bool) (p0:aK) (p1:(List Int)),bQ xP GJ ⟨[(.imm zp0 aV p0),(.imm zp1 (.sl (.int .i64)) p1)],[]⟩=(Bo p0 p1).run fun r=>some (tZ zp0 zp1 p0 p1 r):=fun _ _ _ _=>by kernel_rfl
noncomputable def GI (av:List AV) (rs:List Root):Tre aB :=
 aJ av fun a0_ av0 =>
 aJ av0 fun a1_ av1 =>
 aU av1 <|
 aU rs <|
 bH aV a0_ fun z2 d1 =>
 bH (.sl (.int .i64)) a1_ fun z4 d3 =>
 .mat (o7 d1 d3) fun r=>.alt r (fun a0=>.ret (tZ z2 z4 d1 d3 (.inl a0))) (fun b0=>.ret (tZ z2 z4 d1 d3 (.inr b0)))
noncomputable def GL:Ctr:=⟨[],fun ci=>GI ci.args ci.roots,false⟩
theorem Sk:bP Tryz.prog .none xP:=(aA abz azm (aA WW azn aP))
theorem UC:Contract Tryz.prog .none 8 GL:=by
 have hl:aZ xP [] GK:=bB (by kernel_rfl)
 refine (aI (F:=GJ) bn Sk Tryz.func8 (by kernel_rfl) (by kernel_rfl) (by kernel_rfl) hl []).weaken ?_
 rintro ⟨av,rs⟩ co h
 have h:(GI av rs).run some=some co:=h
 obtain ⟨a0_,av0,rfl,h_0⟩:=au h
 obtain ⟨a1_,av1,rfl,h_1⟩:=au h_0
 obtain ⟨rfl,h_2⟩:=ay h_1
 obtain ⟨rfl,h_3⟩:=ay h_2
 obtain ⟨z2,d1,rfl,h_4⟩:=aF h_3
 obtain ⟨z4,d3,rfl,h_5⟩:=aF h_4
 exact Zy (UA z2 z4 d1 d3) h_5 (by rintro (x | x) <;> rfl)
noncomputable def sO (h4_0_0:(List Int)) (h4_0_1:(List Int)):Int→Tre (Int ⊕ (Bool ⊕ Unit)):=fun s4 =>
 .cond (decide (s4 < (h4_0_0.length:Int)))
  (.ite (0≤s4∧s4 < (h4_0_0.length:Int)) <|
  .mat (h4_0_0[s4.toNat]?) fun x1 =>
  .ite (0≤s4∧s4 < (h4_0_1.length:Int)) <|
  .mat (h4_0_1[s4.toNat]?) fun x2 =>
  .cond (!decide (x1=x2))
   (.ret (.inr (.inl false)))
   (.ret (.inl (aO .i64 (s4+1)))))
  (.ret (.inr (.inr ())))
noncomputable def YN (p0:(List Int)) (p1:(List Int)):Tre Bool :=
 .cond (!decide ((p0.length:Int)=(p1.length:Int)))
  (.ret false)
  (.mat (aR (sO p0 p1) 0) fun l3 =>
  .alt l3
   (fun a4 =>
    .ret a4)
   (fun _ =>
    .ret true))
noncomputable def aak (p0:(List Int)) (p1:(List Int)):Option Bool:=(YN p0 p1).run some
abbrev eqS (p0 p1:List Int):Option Bool:=eqR p0.length p0 p1
theorem afL (p0 p1:List Int) (y:Bool) (h:eqR p0.length p0 p1=some y):aak p0 p1=some y:=by
 obtain ⟨hl,rfl,rfl⟩:=aub h
 unfold aak YN
 rw [Tre.aG,show (!decide ((p0.length:Int)=(p0.length:Int)))=false from by simp,cond_false,Tre.nX,Np (xs:=p0) (fun _ _=>none) (.inr ())]
 ·have:∀ (l:List Int) (i:Nat),SK (β:=Bool ⊕ Unit) (fun _ _=>none) (.inr ()) i l=.inr ():=by
   intro l
   induction l with
   |nil=>intro i;rfl
   |cons x l ih=>intro i;exact ih _
  rw [this]
  rfl
 ·intro i x hx
  have hi:i < p0.length:=(List.getElem?_eq_some_iff.1 hx).1
  unfold sO
  rw [eu hx,dB hx,Tre.aG]
  simp only [decide_true,Bool.not_true,cond_false,Tre.aL,aX (show i < 4611686018427387904 by omega)]
 ·unfold sO
  exact dF
noncomputable def AQ:Env:=⟨tau,[],[]⟩
noncomputable def Ht:Code:=(Tryz.f12.body).getD .skip
noncomputable def CS (z4_0:Bool) (z4_1:Bool) (h4_0_0:(List Int)) (h4_0_1:(List Int)):Int→St:=fun x=>bR [(0,(.imm z4_0 (.sl (.int .i64)) h4_0_0)),(1,(.imm z4_1 (.sl (.int .i64)) h4_0_1)),(5,(.imm true (.int .i64) x))] []
noncomputable def uE (_z4_0:Bool) (_z4_1:Bool) (_h4_0_0:(List Int)) (_h4_0_1:(List Int)):(Bool ⊕ Unit)→Ex×St
 |.inl x=>(.ret,bR [(4,(.imm true .bool x))] [])
 |.inr _=>(.exit 0,bR [(4,.dead)] [])
noncomputable def Q0 (s:St):Tre (Ex×St) :=
 bH (.sl (.int .i64)) (s.tmps 0) fun z3 d2 =>
 bH (.sl (.int .i64)) (s.tmps 1) fun z6 d5 =>
 aC true (.int .i64) (s.tmps 5) fun d8 =>
 .mat (aR (sO d2 d5) d8) fun x=>.alt x (fun a0=>.ret (uE z3 z6 d2 d5 (.inl a0))) (fun b0=>.ret (uE z3 z6 d2 d5 (.inr b0)))
noncomputable def nC:bJ:=⟨([0,1,5],[]),([4],[]),Q0⟩
noncomputable def Hr:List (Nat×bJ):=[(4,nC)]
theorem YO:∀ (z4_0:Bool) (z4_1:Bool) (h4_0_0:(List Int)) (h4_0_1:(List Int)) (x:Int) (c:St→Option (Ex×St)),den AQ Hr (aY Ht 0) (CS z4_0 z4_1 h4_0_0 h4_0_1 x) (bV nC.kp nC.kx c)=(sO h4_0_0 h4_0_1 x).run (bW (CS z4_0 z4_1 h4_0_0 h4_0_1) (uE z4_0 z4_1 h4_0_0 h4_0_1) c):=fun _ _ _ _ _ _=>by
 kernel_rfl
theorem acK:bS AQ Hr (aY Ht 0) nC:=bA fun s e s' h=>by
 generalize hs:restrict nC.kp s=s1 at h
 have h:(Q0 s1).run some=some (e,s'):=h
 obtain ⟨z3,d2,e1,h_0⟩:=aF h
 obtain ⟨z6,d5,e4,h_1⟩:=aF h_0
 obtain ⟨d8,e7,h_2⟩:=ak h_1
 obtain ⟨y,hy,hz⟩:=kE h_2
 refine ⟨_,_,CS z3 z6 d2 d5,uE z3 z6 d2 d5,sO d2 d5,d8,y,?_,hy,?_,YO z3 z6 d2 d5⟩
 ·subst hs;exact aT (T:=[(0,(.imm z3 (.sl (.int .i64)) d2)),(1,(.imm z6 (.sl (.int .i64)) d5)),(5,(.imm true (.int .i64) d8))]) (U:=[]) rfl rfl ⟨e1,e4,e7,trivial⟩ trivial
 ·rcases y with x | x <;> exact Option.some.inj hz
noncomputable def aam:FnI:=⟨Ht,Tryz.f12.results.toList,Tryz.f12.resultTypes.toList,Hr⟩
noncomputable def TY (_zp0:Bool) (_zp1:Bool) (_p0:(List Int)) (_p1:(List Int)):Bool→aB:=fun r=>⟨(.imm true .bool r),[],[]⟩
theorem ajG:∀ (zp0:Bool) (zp1:Bool) (p0:(List Int)) (p1:(List Int)),bQ AQ aam ⟨[(.imm zp0 (.sl (.int .i64)) p0),(.imm zp1 (.sl (.int .i64)) p1)],[]⟩=(YN p0 p1).run fun r=>some (TY zp0 zp1 p0 p1 r):=fun _ _ _ _=>by kernel_rfl
noncomputable def aal (av:List AV) (rs:List Root):Tre aB :=
 aJ av fun a0_ av0 =>
 aJ av0 fun a1_ av1 =>
 aU av1 <|
 aU rs <|
 bH (.sl (.int .i64)) a0_ fun z2 d1 =>
 bH (.sl (.int .i64)) a1_ fun z4 d3 =>
 .mat (eqS d1 d3) fun r=>.ret (TY z2 z4 d1 d3 r)
noncomputable def PE:Ctr:=⟨[],fun ci=>aal ci.args ci.roots,false⟩
theorem ahN:bP Tryz.prog .none AQ:=aP
theorem Xw:Contract Tryz.prog .none 12 PE:=by
 have hl:aZ AQ Hr Ht:=(bC (n:=1) (by kernel_rfl) fun k hk=>by
   match k,hk with
   |0,_=>exact bq (id:=4) (L:=nC) (by kernel_rfl) (by kernel_rfl) acK)
 refine (aI (F:=aam) bn ahN Tryz.func12 (by kernel_rfl) (by kernel_rfl) (by kernel_rfl) hl []).weaken ?_
 rintro ⟨av,rs⟩ co h
 have h:(aal av rs).run some=some co:=h
 obtain ⟨a0_,av0,rfl,h_0⟩:=au h
 obtain ⟨a1_,av1,rfl,h_1⟩:=au h_0
 obtain ⟨rfl,h_2⟩:=ay h_1
 obtain ⟨rfl,h_3⟩:=ay h_2
 obtain ⟨z2,d1,rfl,h_4⟩:=aF h_3
 obtain ⟨z4,d3,rfl,h_5⟩:=aF h_4
 exact wD (ajG z2 z4 d1 d3) (afL d1 d3) h_5
noncomputable def akV (p0:(Int×(Int×Unit))) (p1:(Int×(Int×Unit))):Tre Bool :=
 .cond (!decide (p0.1=p1.1))
  (.ret false)
  (.cond (!decide (p0.2.1=p1.2.1))
   (.ret false)
   (.ret true))
noncomputable def aoe (p0:(Int×(Int×Unit))) (p1:(Int×(Int×Unit))):Option Bool:=(akV p0 p1).run some
def EM (p0:(Int×(Int×Unit))) (p1:(Int×(Int×Unit))):Bool :=
 cond (!decide (p0.1=p1.1))
  (false)
  (cond (!decide (p0.2.1=p1.2.1))
   (false)
   (true))
theorem ahM (p0:(Int×(Int×Unit))) (p1:(Int×(Int×Unit))):aoe p0 p1=some (EM p0 p1):=(DF rfl (DF rfl rfl))
noncomputable def TW:Env:=⟨tau,[],[]⟩
noncomputable def aem:Code:=(Tryz.f36.body).getD .skip
noncomputable def ael:FnI:=⟨aem,Tryz.f36.results.toList,Tryz.f36.resultTypes.toList,[]⟩
noncomputable def Xv (_p0:(Int×(Int×Unit))) (_p1:(Int×(Int×Unit))):Bool→aB:=fun r=>⟨(.imm true .bool r),[],[]⟩
theorem ama:∀ (p0:(Int×(Int×Unit))) (p1:(Int×(Int×Unit))),bQ TW ael ⟨[(.imm true aM p0),(.imm true aM p1)],[]⟩=(akV p0 p1).run fun r=>some (Xv p0 p1 r):=fun _ _=>by kernel_rfl
noncomputable def aek (av:List AV) (rs:List Root):Tre aB :=
 aJ av fun a0_ av0 =>
 aJ av0 fun a1_ av1 =>
 aU av1 <|
 aU rs <|
 aC true aM a0_ fun d1 =>
 aC true aM a1_ fun d2 =>
 .ret (Xv d1 d2 (EM d1 d2))
noncomputable def aen:Ctr:=⟨[],fun ci=>aek ci.args ci.roots,false⟩
theorem ajF:bP Tryz.prog .none TW:=aP
theorem amb:Contract Tryz.prog .none 36 aen:=by
 have hl:aZ TW [] aem:=bB (by kernel_rfl)
 refine (aI (F:=ael) bn ajF Tryz.func36 (by kernel_rfl) (by kernel_rfl) (by kernel_rfl) hl []).weaken ?_
 rintro ⟨av,rs⟩ co h
 have h:(aek av rs).run some=some co:=h
 obtain ⟨a0_,av0,rfl,h_0⟩:=au h
 obtain ⟨a1_,av1,rfl,h_1⟩:=au h_0
 obtain ⟨rfl,h_2⟩:=ay h_1
 obtain ⟨rfl,h_3⟩:=ay h_2
 obtain ⟨d1,rfl,h_4⟩:=ak h_3
 obtain ⟨d2,rfl,h_5⟩:=ak h_4
 exact wE (ama d1 d2) (ahM d1 d2) h_5
noncomputable def MV (p0:aK) (p1:aK):Tre Bool :=
 .cond (!(EM p0.1 p1.1))
  (.ret false)
  (.mat (eqS p0.2.1 p1.2.1) fun r1 =>
  .cond (!r1)
   (.ret false)
   (.cond (!decide (p0.2.2.1=p1.2.2.1))
    (.ret false)
    (.ret true)))
noncomputable def rY (p0:aK) (p1:aK):Option Bool:=(MV p0 p1).run some
noncomputable def FI:Env:=⟨tau,[(36,aen),(12,PE)],[]⟩
noncomputable def QY:Code:=(Tryz.f13.body).getD .skip
noncomputable def QX:FnI:=⟨QY,Tryz.f13.results.toList,Tryz.f13.resultTypes.toList,[]⟩
noncomputable def Lr (_zp0:Bool) (_zp1:Bool) (_p0:aK) (_p1:aK):Bool→aB:=fun r=>⟨(.imm true .bool r),[],[]⟩
theorem acI:∀ (zp0:Bool) (zp1:Bool) (p0:aK) (p1:aK),bQ FI QX ⟨[(.imm zp0 aV p0),(.imm zp1 aV p1)],[]⟩=(MV p0 p1).run fun r=>some (Lr zp0 zp1 p0 p1 r):=fun _ _ _ _=>by kernel_rfl
noncomputable def QW (av:List AV) (rs:List Root):Tre aB :=
 aJ av fun a0_ av0 =>
 aJ av0 fun a1_ av1 =>
 aU av1 <|
 aU rs <|
 bH aV a0_ fun z2 d1 =>
 bH aV a1_ fun z4 d3 =>
 .mat (rY d1 d3) fun r=>.ret (Lr z2 z4 d1 d3 r)
noncomputable def QZ:Ctr:=⟨[],fun ci=>QW ci.args ci.roots,false⟩
theorem aaj:bP Tryz.prog .none FI:=(aA amb azr (aA Xw axj aP))
theorem acJ:Contract Tryz.prog .none 13 QZ:=by
 have hl:aZ FI [] QY:=bB (by kernel_rfl)
 refine (aI (F:=QX) bn aaj Tryz.func13 (by kernel_rfl) (by kernel_rfl) (by kernel_rfl) hl []).weaken ?_
 rintro ⟨av,rs⟩ co h
 have h:(QW av rs).run some=some co:=h
 obtain ⟨a0_,av0,rfl,h_0⟩:=au h
 obtain ⟨a1_,av1,rfl,h_1⟩:=au h_0
 obtain ⟨rfl,h_2⟩:=ay h_1
 obtain ⟨rfl,h_3⟩:=ay h_2
 obtain ⟨z2,d1,rfl,h_4⟩:=aF h_3
 obtain ⟨z4,d3,rfl,h_5⟩:=aF h_4
 exact bK (acI z2 z4 d1 d3) h_5
noncomputable def eG:(Int×Int×aK)→Tre ((Int×Int×aK) ⊕ (Int×aK)):=fun s2 =>
 .cond (decide (s2.2.1 < (s2.2.2.2.1.length:Int)))
  (.ite (0≤s2.2.1∧s2.2.1 < (s2.2.2.2.1.length:Int)) <|
  .mat (s2.2.2.2.1[s2.2.1.toNat]?) fun _ =>
  let v2:=s2.2.2.2.1.set s2.2.1.toNat s2.1
  .ret (.inl (aO .i64 (s2.1+1),aO .i64 (s2.2.1+1),(s2.2.2.1,(v2,s2.2.2.2.2)))))
  (.ret (.inr (s2.1,s2.2.2)))
noncomputable def Bc (p0:Int) (p1:aK):Tre (Int×aK) :=
 .mat (aR eG (p0,0,p1)) fun l3 =>
 .ret (l3.1,l3.2)
noncomputable def oW (p0:Int) (p1:aK):Option (Int×aK):=(Bc p0 p1).run some
noncomputable def lI:Env:=⟨tau,[],[]⟩
noncomputable def oZ:Code:=(Tryz.f15.body).getD .skip
noncomputable def pY:(Int×Int×aK)→St:=fun x=>bR [(0,(.ref (0,0) [.snd,.fst])),(1,(.imm true (.int .i64) x.1)),(5,(.imm true (.int .i64) x.2.1))] [((0,0),some ⟨true,aV,.own,x.2.2⟩)]
noncomputable def oG:(Int×aK)→Ex×St:=fun x=>(.exit 0,bR [(1,(.imm true (.int .i64) x.1))] [((0,0),some ⟨true,aV,.own,x.2⟩)])
noncomputable def Bd (s:St):Tre (Ex×St) :=
 dz (0,0) [.snd,.fst] (s.tmps 0) <|
 aC true (.int .i64) (s.tmps 1) fun d3 =>
 aC true (.int .i64) (s.tmps 5) fun d5 =>
 bD true aV (s.roots (0,0)) fun m7 d8 =>
 asM .own m7 <|
 .mat (aR eG (d3,d5,d8)) fun x=>.ret (oG x)
noncomputable def gq:bJ:=⟨([0,1,5],[(0,0)]),([1],[(0,0)]),Bd⟩
noncomputable def oV:List (Nat×bJ):=[(2,gq)]
theorem KL:∀ (x:(Int×Int×aK)) (c:St→Option (Ex×St)),den lI oV (aY oZ 0) (pY x) (bV gq.kp gq.kx c)=(eG x).run (bW (pY) (oG) c):=fun _ _=>by
 kernel_rfl
theorem Oc:bS lI oV (aY oZ 0) gq:=bA fun s e s' h=>by
 generalize hs:restrict gq.kp s=s1 at h
 have h:(Bd s1).run some=some (e,s'):=h
 obtain ⟨e1,h_0⟩:=bf h
 obtain ⟨d3,e2,h_1⟩:=ak h_0
 obtain ⟨d5,e4,h_2⟩:=ak h_1
 obtain ⟨m7,d8,e6,h_3⟩:=aH h_2
 obtain ⟨rfl,h_4⟩:=aQ h_3
 obtain ⟨y,hy,hz⟩:=bT h_4
 refine ⟨_,_,pY,oG,eG,(d3,d5,d8),y,?_,hy,?_,KL⟩
 ·subst hs;exact aT (T:=[(0,(.ref (0,0) [.snd,.fst])),(1,(.imm true (.int .i64) d3)),(5,(.imm true (.int .i64) d5))]) (U:=[((0,0),some ⟨true,aV,.own,d8⟩)]) rfl rfl ⟨e1,e2,e4,trivial⟩ ⟨e6,trivial⟩
 ·exact Option.some.inj hz
noncomputable def GD:FnI:=⟨oZ,Tryz.f15.results.toList,Tryz.f15.resultTypes.toList,oV⟩
noncomputable def BZ (_p0:Int) (_p1:aK):(Int×aK)→aB:=fun r=>⟨(.imm true (.int .i64) r.1),[⟨true,aV,.own,r.2⟩],[]⟩
theorem Ug:∀ (p0:Int) (p1:aK),bQ lI GD ⟨[(.ref (0,0) [.snd,.fst]),(.imm true (.int .i64) p0)],[⟨true,aV,.own,p1⟩]⟩=(Bc p0 p1).run fun r=>some (BZ p0 p1 r):=fun _ _=>by kernel_rfl
noncomputable def GA (av:List AV) (rs:List Root):Tre aB :=
 aJ av fun a0_ av0 =>
 aJ av0 fun a1_ av1 =>
 aU av1 <|
 aJ rs fun r0_ rs0 =>
 aU rs0 <|
 dz (0,0) [.snd,.fst] a0_ <|
 aC true (.int .i64) a1_ fun d1 =>
 Io true aV r0_ fun m2 d3 =>
 asM .own m2 <|
 .mat (oW d1 d3) fun r=>.ret (BZ d1 d3 r)
noncomputable def GH:Ctr:=⟨[0],fun ci=>GA ci.args ci.roots,false⟩
theorem Si:bP Tryz.prog .none lI:=aP
theorem Uh:Contract Tryz.prog .none 15 GH:=by
 have hl:aZ lI oV oZ:=(bC (n:=1) (by kernel_rfl) fun k hk=>by
   match k,hk with
   |0,_=>exact bq (id:=2) (L:=gq) (by kernel_rfl) (by kernel_rfl) Oc)
 refine (aI (F:=GD) bn Si Tryz.func15 (by kernel_rfl) (by kernel_rfl) (by kernel_rfl) hl [0]).weaken ?_
 rintro ⟨av,rs⟩ co h
 have h:(GA av rs).run some=some co:=h
 obtain ⟨a0_,av0,rfl,h_0⟩:=au h
 obtain ⟨a1_,av1,rfl,h_1⟩:=au h_0
 obtain ⟨rfl,h_2⟩:=ay h_1
 obtain ⟨r0_,rs0,rfl,h_3⟩:=au h_2
 obtain ⟨rfl,h_4⟩:=ay h_3
 obtain ⟨rfl,h_5⟩:=bf h_4
 obtain ⟨d1,rfl,h_6⟩:=ak h_5
 obtain ⟨m2,d3,rfl,h_7⟩:=eX h_6
 obtain ⟨rfl,h_8⟩:=aQ h_7
 exact bK (Ug d1 d3) h_8
noncomputable def vM (_p0:(Int×(Int×Unit))) (_p1:(Int×Unit)) (p2:Int) (p3:aK):Tre (Int×aK) :=
 .mat (oW p2 p3) fun r1 =>
 .ret (r1.1,r1.2)
noncomputable def jq (p0:(Int×(Int×Unit))) (p1:(Int×Unit)) (p2:Int) (p3:aK):Option (Int×aK):=(vM p0 p1 p2 p3).run some
noncomputable def q9:Env:=⟨tau,[(15,GH)],[]⟩
noncomputable def A8:Code:=(Tryz.f14.body).getD .skip
noncomputable def AZ:FnI:=⟨A8,Tryz.f14.results.toList,Tryz.f14.resultTypes.toList,[]⟩
noncomputable def yE (_p0:(Int×(Int×Unit))) (_p1:(Int×Unit)) (_p2:Int) (_p3:aK):(Int×aK)→aB:=fun r=>⟨(.imm true (.int .i64) r.1),[⟨true,aV,.own,r.2⟩],[]⟩
theorem N9:∀ (p0:(Int×(Int×Unit))) (p1:(Int×Unit)) (p2:Int) (p3:aK),bQ q9 AZ ⟨[(.pair (.imm true aM p0) (.pair (.ref (0,0) [.snd,.fst]) (.imm true (.pair (.int .i64) .unit) p1))),(.imm true (.int .i64) p2)],[⟨true,aV,.own,p3⟩]⟩=(vM p0 p1 p2 p3).run fun r=>some (yE p0 p1 p2 p3 r):=fun _ _ _ _=>by kernel_rfl
noncomputable def AY (av:List AV) (rs:List Root):Tre aB :=
 aJ av fun a0_ av0 =>
 aJ av0 fun a1_ av1 =>
 aU av1 <|
 aJ rs fun r0_ rs0 =>
 aU rs0 <|
 alE a0_ fun a1 a2 =>
 aC true aM a1 fun d3 =>
 alE a2 fun a4 a5 =>
 dz (0,0) [.snd,.fst] a4 <|
 aC true (.pair (.int .i64) .unit) a5 fun d6 =>
 aC true (.int .i64) a1_ fun d7 =>
 Io true aV r0_ fun m8 d9 =>
 asM .own m8 <|
 .mat (jq d3 d6 d7 d9) fun r=>.ret (yE d3 d6 d7 d9 r)
noncomputable def A9:Ctr:=⟨[0],fun ci=>AY ci.args ci.roots,false⟩
theorem MW:bP Tryz.prog .none q9:=(aA Uh axk aP)
theorem Oa:Contract Tryz.prog .none 14 A9:=by
 have hl:aZ q9 [] A8:=bB (by kernel_rfl)
 refine (aI (F:=AZ) bn MW Tryz.func14 (by kernel_rfl) (by kernel_rfl) (by kernel_rfl) hl [0]).weaken ?_
 rintro ⟨av,rs⟩ co h
 have h:(AY av rs).run some=some co:=h
 obtain ⟨a0_,av0,rfl,h_0⟩:=au h
 obtain ⟨a1_,av1,rfl,h_1⟩:=au h_0
 obtain ⟨rfl,h_2⟩:=ay h_1
 obtain ⟨r0_,rs0,rfl,h_3⟩:=au h_2
 obtain ⟨rfl,h_4⟩:=ay h_3
 obtain ⟨a1,a2,rfl,h_5⟩:=adX h_4
 obtain ⟨d3,rfl,h_6⟩:=ak h_5
 obtain ⟨a4,a5,rfl,h_7⟩:=adX h_6
 obtain ⟨rfl,h_8⟩:=bf h_7
 obtain ⟨d6,rfl,h_9⟩:=ak h_8
 obtain ⟨d7,rfl,h_10⟩:=ak h_9
 obtain ⟨m8,d9,rfl,h_11⟩:=eX h_10
 obtain ⟨rfl,h_12⟩:=aQ h_11
 exact bK (N9 d3 d6 d7 d9) h_12
noncomputable def eF:(Int×Int×(List Int))→Tre ((Int×Int×(List Int)) ⊕ (Int×(List Int))):=fun s2 =>
 .cond (decide (s2.2.1 < (s2.2.2.length:Int)))
  (.ite (0≤s2.2.1∧s2.2.1 < (s2.2.2.length:Int)) <|
  .mat (s2.2.2[s2.2.1.toNat]?) fun _ =>
  let v2:=s2.2.2.set s2.2.1.toNat s2.1
  .ret (.inl (aO .i64 (s2.1+1),aO .i64 (s2.2.1+1),v2)))
  (.ret (.inr (s2.1,s2.2.2)))
noncomputable def Ba (p0:Int) (p1:(List Int)):Tre (Int×(List Int)) :=
 .mat (aR eF (p0,0,p1)) fun l3 =>
 .ret (l3.1,l3.2)
noncomputable def Gw (p0:Int) (p1:(List Int)):Option (Int×(List Int)):=(Ba p0 p1).run some
def aeu (k:Int) (xs:List Int):Option (Int×List Int):=ajl (inR k 0 4194304&&decide (xs.length≤1048576)) (k+(xs.length:Int),marks k xs.length)
theorem PI (p0:Int) (p1:List Int) (y:Int×List Int) (h:aeu p0 p1=some y):Gw p0 p1=some y:=by
 obtain ⟨hok,rfl⟩:=zL h
 simp only [Bool.and_eq_true,decide_eq_true_eq,kP] at hok
 obtain ⟨hk,hl⟩:=hok
 unfold Gw Ba
 have:=lY (xs:=p1) (step:=eF) (fun i acc=>(p0+(i:Int),(i:Int),acc)) (fun i acc _=>.inl (acc.set i (p0+(i:Int)))) (fun acc=>(p0+(p1.length:Int),acc)) (fun i acc=>acc.length=p1.length) (by
  intro i acc x hx hI
  have hi:i < p1.length:=(List.getElem?_eq_some_iff.1 hx).1
  refine ⟨?_,fun a ha=>by cases ha;simpa using hI⟩
  unfold eF
  rw [eu (List.getElem?_eq_getElem (by omega:i < acc.length))]
  dsimp only
  rw [Tre.aL,aX (by omega),dN (by omega) (by omega),Int.toNat_natCast]
  simp only [Int.natCast_add,Int.natCast_one,Int.add_assoc])
  (by
  intro acc hI
  unfold eF
  rw [← show acc.length=p1.length from hI]
  exact dF) p1 0 p1 rfl (Nat.zero_le _) rfl
 rw [anQ _ _ _ _ _ (by simp)] at this
 have h1:aR eF (p0,0,p1)=some (p0+(p1.length:Int),marks p0 p1.length):=by
  simpa [marks] using this
 rw [ah h1]
 rfl
noncomputable def lH:Env:=⟨tau,[],[]⟩
noncomputable def oU:Code:=(Tryz.f15.body).getD .skip
noncomputable def pX:(Int×Int×(List Int))→St:=fun x=>bR [(0,(.ref (0,0) [])),(1,(.imm true (.int .i64) x.1)),(5,(.imm true (.int .i64) x.2.1))] [((0,0),some ⟨false,(.sl (.int .i64)),.own,x.2.2⟩)]
noncomputable def oF:(Int×(List Int))→Ex×St:=fun x=>(.exit 0,bR [(1,(.imm true (.int .i64) x.1))] [((0,0),some ⟨false,(.sl (.int .i64)),.own,x.2⟩)])
noncomputable def Bb (s:St):Tre (Ex×St) :=
 dz (0,0) [] (s.tmps 0) <|
 aC true (.int .i64) (s.tmps 1) fun d3 =>
 aC true (.int .i64) (s.tmps 5) fun d5 =>
 bD false (.sl (.int .i64)) (s.roots (0,0)) fun m7 d8 =>
 asM .own m7 <|
 .mat (aR eF (d3,d5,d8)) fun x=>.ret (oF x)
noncomputable def fZ:bJ:=⟨([0,1,5],[(0,0)]),([1],[(0,0)]),Bb⟩
noncomputable def oQ:List (Nat×bJ):=[(2,fZ)]
theorem KJ:∀ (x:(Int×Int×(List Int))) (c:St→Option (Ex×St)),den lH oQ (aY oU 0) (pX x) (bV fZ.kp fZ.kx c)=(eF x).run (bW (pX) (oF) c):=fun _ _=>by
 kernel_rfl
theorem Ob:bS lH oQ (aY oU 0) fZ:=bA fun s e s' h=>by
 generalize hs:restrict fZ.kp s=s1 at h
 have h:(Bb s1).run some=some (e,s'):=h
 obtain ⟨e1,h_0⟩:=bf h
 obtain ⟨d3,e2,h_1⟩:=ak h_0
 obtain ⟨d5,e4,h_2⟩:=ak h_1
 obtain ⟨m7,d8,e6,h_3⟩:=aH h_2
 obtain ⟨rfl,h_4⟩:=aQ h_3
 obtain ⟨y,hy,hz⟩:=bT h_4
 refine ⟨_,_,pX,oF,eF,(d3,d5,d8),y,?_,hy,?_,KJ⟩
 ·subst hs;exact aT (T:=[(0,(.ref (0,0) [])),(1,(.imm true (.int .i64) d3)),(5,(.imm true (.int .i64) d5))]) (U:=[((0,0),some ⟨false,(.sl (.int .i64)),.own,d8⟩)]) rfl rfl ⟨e1,e2,e4,trivial⟩ ⟨e6,trivial⟩
 ·exact Option.some.inj hz
noncomputable def Gy:FnI:=⟨oU,Tryz.f15.results.toList,Tryz.f15.resultTypes.toList,oQ⟩
noncomputable def BX (_p0:Int) (_p1:(List Int)):(Int×(List Int))→aB:=fun r=>⟨(.imm true (.int .i64) r.1),[⟨false,(.sl (.int .i64)),.own,r.2⟩],[]⟩
theorem Ue:∀ (p0:Int) (p1:(List Int)),bQ lH Gy ⟨[(.ref (0,0) []),(.imm true (.int .i64) p0)],[⟨false,(.sl (.int .i64)),.own,p1⟩]⟩=(Ba p0 p1).run fun r=>some (BX p0 p1 r):=fun _ _=>by kernel_rfl
noncomputable def Gx (av:List AV) (rs:List Root):Tre aB :=
 aJ av fun a0_ av0 =>
 aJ av0 fun a1_ av1 =>
 aU av1 <|
 aJ rs fun r0_ rs0 =>
 aU rs0 <|
 dz (0,0) [] a0_ <|
 aC true (.int .i64) a1_ fun d1 =>
 Io false (.sl (.int .i64)) r0_ fun m2 d3 =>
 asM .own m2 <|
 .mat (aeu d1 d3) fun r=>.ret (BX d1 d3 r)
noncomputable def Gz:Ctr:=⟨[0],fun ci=>Gx ci.args ci.roots,false⟩
theorem Sg:bP Tryz.prog .none lH:=aP
theorem Uf:Contract Tryz.prog .none 15 Gz:=by
 have hl:aZ lH oQ oU:=(bC (n:=1) (by kernel_rfl) fun k hk=>by
   match k,hk with
   |0,_=>exact bq (id:=2) (L:=fZ) (by kernel_rfl) (by kernel_rfl) Ob)
 refine (aI (F:=Gy) bn Sg Tryz.func15 (by kernel_rfl) (by kernel_rfl) (by kernel_rfl) hl [0]).weaken ?_
 rintro ⟨av,rs⟩ co h
 have h:(Gx av rs).run some=some co:=h
 obtain ⟨a0_,av0,rfl,h_0⟩:=au h
 obtain ⟨a1_,av1,rfl,h_1⟩:=au h_0
 obtain ⟨rfl,h_2⟩:=ay h_1
 obtain ⟨r0_,rs0,rfl,h_3⟩:=au h_2
 obtain ⟨rfl,h_4⟩:=ay h_3
 obtain ⟨rfl,h_5⟩:=bf h_4
 obtain ⟨d1,rfl,h_6⟩:=ak h_5
 obtain ⟨m2,d3,rfl,h_7⟩:=eX h_6
 obtain ⟨rfl,h_8⟩:=aQ h_7
 exact wD (Ue d1 d3) (PI d1 d3) h_8
noncomputable def jF (h2_0_0:(List Int)):(Int×Int)→Tre ((Int×Int) ⊕ ((Int×Int) ⊕ Int)):=fun s2 =>
 .cond (decide (s2.2 < (h2_0_0.length:Int)))
  (.ite (0≤s2.2∧s2.2 < (h2_0_0.length:Int)) <|
  .mat (h2_0_0[s2.2.toNat]?) fun x1 =>
  .cond (!decide (x1=s2.1))
   (.ret (.inr (.inl (s2.1,-1))))
   (.ret (.inl (aO .i64 (s2.1+1),aO .i64 (s2.2+1)))))
  (.ret (.inr (.inr s2.1)))
noncomputable def PG (p0:(List Int)) (p1:Int):Tre Int :=
 .mat (aR (jF p0) (p1,0)) fun l2 =>
 .alt l2
  (fun a3 =>
   .ret a3.2)
  (fun b4 =>
   .ret b4)
noncomputable def T9 (p0:(List Int)) (p1:Int):Option Int:=(PG p0 p1).run some
def ZB (xs:List Int) (k:Int):Option Int:=if (inR k 0 1048576&&decide (xs.length≤1048576))=true∧xs=marks k xs.length then some (k+(xs.length:Int)) else none
theorem aan (p0:List Int) (p1:Int) (y:Int) (h:ZB p0 p1=some y):T9 p0 p1=some y:=by
 unfold ZB at h
 split at h
 case isFalse=>cases h
 case isTrue hh =>
 obtain ⟨hok,hm⟩:=hh
 cases h
 simp only [Bool.and_eq_true,decide_eq_true_eq,kP] at hok
 obtain ⟨hk,hl⟩:=hok
 unfold T9 PG
 have:=apZ (xs:=p0) (step:=jF p0) (γ:=Unit) (fun i _=>(p1+(i:Int),(i:Int))) (fun _ _ _=>.inl ()) (fun _=>.inr (p1+(p0.length:Int))) (by
  intro i acc x hx
  have hi:i < p0.length:=(List.getElem?_eq_some_iff.1 hx).1
  have hxv:x=p1+(i:Int):=by
   rw [hm] at hx
   unfold marks at hx
   simp only [List.getElem?_map,Option.map_eq_some_iff] at hx
   obtain ⟨a,ha,rfl⟩:=hx
   rw [List.getElem?_range' (by simpa using hi)] at ha
   simp at ha
   rw [ha]
  unfold jF
  rw [eu hx,Tre.aG]
  simp only [hxv,decide_true,Bool.not_true,cond_false]
  rw [Tre.aL,aX (by omega),dN (by omega) (by omega)]
  simp only [Int.natCast_add,Int.natCast_one,Int.add_assoc])
  (by
  intro acc
  unfold jF
  exact dF) ()
 have hf:∀ (l:List Int) (i:Nat),qE (β:=(Int×Int) ⊕ Int) (fun (_:Nat) (_:Unit) (_:Int)=>.inl ()) (fun _=>.inr (p1+(p0.length:Int))) i () l=.inr (p1+(p0.length:Int)):=by
  intro l
  induction l with
  |nil=>intro i;rfl
  |cons x l ih=>intro i;exact ih _
 rw [hf] at this
 have h1:aR (jF p0) (p1,0)=some (.inr (p1+(p0.length:Int))):=by simpa using this
 rw [ah h1]
 rfl
noncomputable def vL:Env:=⟨tau,[],[]⟩
noncomputable def AX:Code:=(Tryz.f16.body).getD .skip
noncomputable def zy (z2_0:Bool) (h2_0_0:(List Int)):(Int×Int)→St:=fun x=>bR [(0,(.imm z2_0 (.sl (.int .i64)) h2_0_0)),(1,(.imm true (.int .i64) x.1)),(5,(.imm true (.int .i64) x.2))] []
noncomputable def oP (_z2_0:Bool) (_h2_0_0:(List Int)):((Int×Int) ⊕ Int)→Ex×St
 |.inl x=>(.ret,bR [(1,(.imm true (.int .i64) x.1)),(4,(.imm true (.int .i64) x.2))] [])
 |.inr x=>(.exit 0,bR [(1,(.imm true (.int .i64) x)),(4,.dead)] [])
noncomputable def Ls (s:St):Tre (Ex×St) :=
 bH (.sl (.int .i64)) (s.tmps 0) fun z3 d2 =>
 aC true (.int .i64) (s.tmps 1) fun d5 =>
 aC true (.int .i64) (s.tmps 5) fun d7 =>
 .mat (aR (jF d2) (d5,d7)) fun x=>.alt x (fun a0=>.ret (oP z3 d2 (.inl a0))) (fun b0=>.ret (oP z3 d2 (.inr b0)))
noncomputable def kQ:bJ:=⟨([0,1,5],[]),([1,4],[]),Ls⟩
noncomputable def AU:List (Nat×bJ):=[(2,kQ)]
theorem Ud:∀ (z2_0:Bool) (h2_0_0:(List Int)) (x:(Int×Int)) (c:St→Option (Ex×St)),den vL AU (aY AX 0) (zy z2_0 h2_0_0 x) (bV kQ.kp kQ.kx c)=(jF h2_0_0 x).run (bW (zy z2_0 h2_0_0) (oP z2_0 h2_0_0) c):=fun _ _ _ _=>by
 kernel_rfl
theorem YP:bS vL AU (aY AX 0) kQ:=bA fun s e s' h=>by
 generalize hs:restrict kQ.kp s=s1 at h
 have h:(Ls s1).run some=some (e,s'):=h
 obtain ⟨z3,d2,e1,h_0⟩:=aF h
 obtain ⟨d5,e4,h_1⟩:=ak h_0
 obtain ⟨d7,e6,h_2⟩:=ak h_1
 obtain ⟨y,hy,hz⟩:=kE h_2
 refine ⟨_,_,zy z3 d2,oP z3 d2,jF d2,(d5,d7),y,?_,hy,?_,Ud z3 d2⟩
 ·subst hs;exact aT (T:=[(0,(.imm z3 (.sl (.int .i64)) d2)),(1,(.imm true (.int .i64) d5)),(5,(.imm true (.int .i64) d7))]) (U:=[]) rfl rfl ⟨e1,e4,e6,trivial⟩ trivial
 ·rcases y with x | x <;> exact Option.some.inj hz
noncomputable def Ub:FnI:=⟨AX,Tryz.f16.results.toList,Tryz.f16.resultTypes.toList,AU⟩
noncomputable def N8 (_zp0:Bool) (_p0:(List Int)) (_p1:Int):Int→aB:=fun r=>⟨(.imm true (.int .i64) r),[],[]⟩
theorem afM:∀ (zp0:Bool) (p0:(List Int)) (p1:Int),bQ vL Ub ⟨[(.imm zp0 (.sl (.int .i64)) p0),(.imm true (.int .i64) p1)],[]⟩=(PG p0 p1).run fun r=>some (N8 zp0 p0 p1 r):=fun _ _ _=>by kernel_rfl
noncomputable def Ua (av:List AV) (rs:List Root):Tre aB :=
 aJ av fun a0_ av0 =>
 aJ av0 fun a1_ av1 =>
 aU av1 <|
 aU rs <|
 bH (.sl (.int .i64)) a0_ fun z2 d1 =>
 aC true (.int .i64) a1_ fun d3 =>
 .mat (ZB d1 d3) fun r=>.ret (N8 z2 d1 d3 r)
noncomputable def Uc:Ctr:=⟨[],fun ci=>Ua ci.args ci.roots,false⟩
theorem acL:bP Tryz.prog .none vL:=aP
theorem afN:Contract Tryz.prog .none 16 Uc:=by
 have hl:aZ vL AU AX:=(bC (n:=1) (by kernel_rfl) fun k hk=>by
   match k,hk with
   |0,_=>exact bq (id:=2) (L:=kQ) (by kernel_rfl) (by kernel_rfl) YP)
 refine (aI (F:=Ub) bn acL Tryz.func16 (by kernel_rfl) (by kernel_rfl) (by kernel_rfl) hl []).weaken ?_
 rintro ⟨av,rs⟩ co h
 have h:(Ua av rs).run some=some co:=h
 obtain ⟨a0_,av0,rfl,h_0⟩:=au h
 obtain ⟨a1_,av1,rfl,h_1⟩:=au h_0
 obtain ⟨rfl,h_2⟩:=ay h_1
 obtain ⟨rfl,h_3⟩:=ay h_2
 obtain ⟨z2,d1,rfl,h_4⟩:=aF h_3
 obtain ⟨d3,rfl,h_5⟩:=ak h_4
 exact wD (afM z2 d1 d3) (aan d1 d3) h_5
end Go.Proofs.YtihiobjhogpmdaaGreat
