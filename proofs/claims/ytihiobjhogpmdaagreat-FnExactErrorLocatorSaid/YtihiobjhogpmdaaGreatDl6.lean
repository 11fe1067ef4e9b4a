/- Part 6 of the proof of FnExactErrorLocator. -/
import Derived.Test.YtihiobjhogpmdaaGreatDl5
set_option maxRecDepth 100000
noncomputable section
namespace Go.Proofs.YtihiobjhogpmdaaGreat
open Go Go.Abs Go.Proofs
def jV (h3_0_0:Int) (h3_0_2:List Int) (h3_0_3:Int) (h3_0_5:(Int×(Int×Unit))):(Int×Int)→Tre ((Int×Int) ⊕ Int):=fun s3=>
 .cond (decide (s3.2<h3_0_3))
  (.ite (0≤s3.2∧s3.2<(h3_0_2.length:Int))<|
  .mat (h3_0_2[s3.2.toNat]?) fun x1=>
  .mat (fV h3_0_5 h3_0_0 s3.2) fun r2=>
  .mat (bY h3_0_5 x1 r2) fun r3=>
  .ret (.inl (jJ .i64 s3.1 r3,aP .i64 (s3.2+1))))
  (.ret (.inr s3.1))
def Oa (p0:(Int×(Int×Unit))) (p1:List Int) (p2:Int):Tre Int:=
 .mat (aR (jV p2 p1 (p1.length:Int) p0) (0,0)) fun l4=>
 .ret l4
def tF (p0:(Int×(Int×Unit))) (p1:List Int) (p2:Int):Option Int:=(Oa p0 p1 p2).run some
-- more
theorem an8(F:FO):∀(p:List Nat)(c x:Nat),F.lp (p++[c]) x=F.lp p x^^^F.mul c (F.sqn p.length x):=by
 intro p
 induction p with
 |nil=>intro c x;simp [FO.lp,FO.sqn]
 |cons a p ih=>
  intro c x
  simp only [List.cons_append,FO.lp,List.length_cons,FO.sqn]
  rw [ih,Nat.xor_assoc]
theorem amE{f:TF3}(hf:aO f=true){P:List Nat}(hP:inL (FOf f hf) P)(hl:P.length≤1000){x:Nat}(hx:x<(FOf f hf).q):tF f (aS P) (x:Int)=some (((FOf f hf).lp P x:Nat):Int):=by
 unfold tF Oa
 rw [ah (show aR (jV (x:Int) (aS P) ((aS P).length:Int) f) (0,0)=some (((FOf f hf).lp P x:Nat):Int) from ?_),Tre.aK]
 refine cO (fun i=>((((FOf f hf).lp (P.take i) x:Nat):Int),(i:Int))) P.length _ (fun i hi=>?_) ?_
 ·have hs:=(FOf f hf).Hw i hx
  have hti:(P.take i).length=i:=by rw [List.length_take];omega
  unfold jV
  dsimp only
  rw [dP (dA (dV hi)),ah (ajv hf hx i),ah (anR hf (kR hP i) hs),Tre.aK,aV (by omega),Xm hf ((FOf f hf).ace _ _) ((FOf f hf).lt _ _),List.take_add_one,dV hi,Option.toList_some,an8,hti]
 ·unfold jV
  dsimp only
  rw [aW,dw,Tre.aK,List.take_length]
def tH:Env:=⟨tau,[(62,mE),(75,oO)],[]⟩
def zD:Code:=(Tryz.f69.body).getD .skip
def yJ (z3_0:Bool) (h3_0_0:Int) (h3_0_2:List Int) (h3_0_3:Int) (h3_0_5:(Int×(Int×Unit))):(Int×Int)→St:=fun x=>bR [(2,(.imm true (.int .i64) h3_0_0)),(3,(.ptr (5,0) [])),(7,(.imm true (.int .i64) x.1)),(10,(.imm z3_0 (.sl (.int .i64)) h3_0_2)),(11,(.imm true (.int .i64) h3_0_3)),(12,(.imm true (.int .i64) x.2))] [((5,0),some ⟨true,aL,.own,h3_0_5⟩)]
def vY (_z3_0:Bool) (_h3_0_0:Int) (_h3_0_2:List Int) (_h3_0_3:Int) (_h3_0_5:(Int×(Int×Unit))):Int→Ex×St:=fun x=>(.exit 0,bR [(7,(.imm true (.int .i64) x))] [])
def JN (s:St):Tre (Ex×St):=
 aC true (.int .i64) (s.tmps 2) fun d2=>
 dU (5,0) [] (s.tmps 3)<|
 aC true (.int .i64) (s.tmps 7) fun d5=>
 bE (.sl (.int .i64)) (s.tmps 10) fun z8 d7=>
 aC true (.int .i64) (s.tmps 11) fun d10=>
 aC true (.int .i64) (s.tmps 12) fun d12=>
 bD true aL (s.roots (5,0)) fun m14 d15=>
 asM .own m14<|
 .mat (aR (jV d2 d7 d10 d15) (d5,d12)) fun x=>.ret (vY z8 d2 d7 d10 d15 x)
def jW:bK:=⟨([2,3,7,10,11,12],[(5,0)]),([7],[]),JN⟩
def zC:List (Nat×bK):=[(3,jW)]
theorem TW:∀(z3_0:Bool)(h3_0_0:Int)(h3_0_2:List Int)(h3_0_3:Int)(h3_0_5:(Int×(Int×Unit)))(x:(Int×Int))(c:St→Option (Ex×St)),den tH zC (aY zD 0) (yJ z3_0 h3_0_0 h3_0_2 h3_0_3 h3_0_5 x) (bU jW.kp jW.kx c)=(jV h3_0_0 h3_0_2 h3_0_3 h3_0_5 x).run (bV (yJ z3_0 h3_0_0 h3_0_2 h3_0_3 h3_0_5) (vY z3_0 h3_0_0 h3_0_2 h3_0_3 h3_0_5) c):=fun _ _ _ _ _ _ _=>by
 kernel_rfl
theorem XZ:bS tH zC (aY zD 0) jW:=bA fun s e s' h=>by
 generalize hs:restrict jW.kp s=s1 at h
 have h:(JN s1).run some=some (e,s'):=h
 obtain ⟨d2,e1,h_0⟩:=ak h
 obtain ⟨e3,h_1⟩:=bF h_0
 obtain ⟨d5,e4,h_2⟩:=ak h_1
 obtain ⟨z8,d7,e6,h_3⟩:=aD h_2
 obtain ⟨d10,e9,h_4⟩:=ak h_3
 obtain ⟨d12,e11,h_5⟩:=ak h_4
 obtain ⟨m14,d15,e13,h_6⟩:=aH h_5
 obtain ⟨rfl,h_7⟩:=aQ h_6
 obtain ⟨y,hy,hz⟩:=bT h_7
 refine ⟨_,_,yJ z8 d2 d7 d10 d15,vY z8 d2 d7 d10 d15,jV d2 d7 d10 d15,(d5,d12),y,?_,hy,?_,TW z8 d2 d7 d10 d15⟩
 ·subst hs;exact aT (T:=[(2,(.imm true (.int .i64) d2)),(3,(.ptr (5,0) [])),(7,(.imm true (.int .i64) d5)),(10,(.imm z8 (.sl (.int .i64)) d7)),(11,(.imm true (.int .i64) d10)),(12,(.imm true (.int .i64) d12))]) (U:=[((5,0),some ⟨true,aL,.own,d15⟩)]) rfl rfl ⟨e1,e3,e4,e6,e9,e11,trivial⟩ ⟨e13,trivial⟩
 ·exact Option.some.inj hz
def Sr:FnI:=⟨zD,Tryz.f69.results.toList,Tryz.f69.resultTypes.toList,zC⟩
def MF (_zp0:Bool) (_p0:(Int×(Int×Unit))) (_p1:List Int) (_p2:Int):Int→aB:=fun r=>⟨(.imm true (.int .i64) r),[],[]⟩
theorem aeb:∀(zp0:Bool)(p0:(Int×(Int×Unit)))(p1:List Int)(p2:Int),bN tH Sr ⟨[(.imm true aL p0),(.imm zp0 (.sl (.int .i64)) p1),(.imm true (.int .i64) p2)],[]⟩=(Oa p0 p1 p2).run fun r=>some (MF zp0 p0 p1 p2 r):=fun _ _ _ _=>by kernel_rfl
def Sq (av:List AV) (rs:List Root):Tre aB:=
 aJ av fun a0_ av0=>
 aJ av0 fun a1_ av1=>
 aJ av1 fun a2_ av2=>
 aU av2<|
 aU rs<|
 aC true aL a0_ fun d1=>
 bE (.sl (.int .i64)) a1_ fun z3 d2=>
 aC true (.int .i64) a2_ fun d4=>
 .mat (tF d1 d2 d4) fun r=>.ret (MF z3 d1 d2 d4 r)
def Gw:Ctr:=⟨[],fun ci=>Sq ci.args ci.roots,false⟩
theorem abr:bM Tryz.prog .none tH:=(aA nZ apA (aA pY amq aN))
theorem Pp:Contract Tryz.prog .none 69 Gw:=by
 have hl:aZ tH zC zD:=(bC (n:=1) (by kernel_rfl) fun k hk=>by
   match k,hk with
   |0,_=>exact bq (id:=3) (L:=jW) (by kernel_rfl) (by kernel_rfl) XZ)
 refine (aI (F:=Sr) bg abr Tryz.func69 (by kernel_rfl) (by kernel_rfl) (by kernel_rfl) hl []).weaken ?_
 rintro ⟨av,rs⟩ co h
 have h:(Sq av rs).run some=some co:=h
 obtain ⟨a0_,av0,rfl,h_0⟩:=au h
 obtain ⟨a1_,av1,rfl,h_1⟩:=au h_0
 obtain ⟨a2_,av2,rfl,h_2⟩:=au h_1
 obtain ⟨rfl,h_3⟩:=ay h_2
 obtain ⟨rfl,h_4⟩:=ay h_3
 obtain ⟨d1,rfl,h_5⟩:=ak h_4
 obtain ⟨z3,d2,rfl,h_6⟩:=aD h_5
 obtain ⟨d4,rfl,h_7⟩:=ak h_6
 exact bJ (aeb z3 d1 d2 d4) h_7
def pz (h3_0_0:List Int) (h3_0_1:Int) (h3_0_4:(Int×(Int×Unit))):(Int×Int)→Tre ((Int×Int) ⊕ Int):=fun s3=>
 .cond (decide (s3.2<(h3_0_0.length:Int)))
  (.ite (0≤s3.2∧s3.2<(h3_0_0.length:Int))<|
  .mat (h3_0_0[s3.2.toNat]?) fun x1=>
  .mat (kH h3_0_4 h3_0_1 s3.2) fun r2=>
  .mat (dH h3_0_4 x1 r2) fun r3=>
  .ret (.inl (jJ .i64 s3.1 r3,aP .i64 (s3.2+1))))
  (.ret (.inr s3.1))
def aaU (p0:(Int×(Int×Unit))) (p1:List Int) (p2:Int):Tre Int:=
 .mat (aR (pz p1 p2 p0) (0,0)) fun l4=>
 .ret l4
def Jh (p0:(Int×(Int×Unit))) (p1:List Int) (p2:Int):Option Int:=(aaU p0 p1 p2).run some
-- more
theorem au7{f:TF3}(hf:aO f=true){P:List Nat}(hP:inL (FOf f hf) P)(hl:P.length≤1000){x:Nat}(hx:x<(FOf f hf).q):Jh f (aS P) (x:Int)=some (((FOf f hf).lp P x:Nat):Int):=by
 unfold Jh aaU
 rw [ah (show aR (pz (aS P) (x:Int) f) (0,0)=some (((FOf f hf).lp P x:Nat):Int) from ?_),Tre.aK]
 refine cO (fun i=>((((FOf f hf).lp (P.take i) x:Nat):Int),(i:Int))) P.length _ (fun i hi=>?_) ?_
 ·have hs:=(FOf f hf).Hw i hx
  have hti:(P.take i).length=i:=by rw [List.length_take];omega
  unfold pz
  dsimp only
  rw [dP (dA (dV hi)),ah (afw hf hx i),ah (afv hf (kR hP i) hs),Tre.aK,aV (by omega),Xm hf ((FOf f hf).ace _ _) ((FOf f hf).lt _ _),List.take_add_one,dV hi,Option.toList_some,an8,hti]
 ·unfold pz
  dsimp only
  rw [aW,dw,Tre.aK,List.take_length]
def Cx:Env:=⟨tau,[(56,uz),(68,sw)],[]⟩
def Ji:Code:=(Tryz.f42.body).getD .skip
def Eu (z3_0:Bool) (h3_0_0:List Int) (h3_0_1:Int) (h3_0_4:(Int×(Int×Unit))):(Int×Int)→St:=fun x=>bR [(1,(.imm z3_0 (.sl (.int .i64)) h3_0_0)),(2,(.imm true (.int .i64) h3_0_1)),(3,(.ptr (5,0) [])),(7,(.imm true (.int .i64) x.1)),(8,(.imm true (.int .i64) x.2))] [((5,0),some ⟨true,aL,.own,h3_0_4⟩)]
def Cy (_z3_0:Bool) (_h3_0_0:List Int) (_h3_0_1:Int) (_h3_0_4:(Int×(Int×Unit))):Int→Ex×St:=fun x=>(.exit 0,bR [(7,(.imm true (.int .i64) x))] [])
def TK (s:St):Tre (Ex×St):=
 bE (.sl (.int .i64)) (s.tmps 1) fun z3 d2=>
 aC true (.int .i64) (s.tmps 2) fun d5=>
 dU (5,0) [] (s.tmps 3)<|
 aC true (.int .i64) (s.tmps 7) fun d8=>
 aC true (.int .i64) (s.tmps 8) fun d10=>
 bD true aL (s.roots (5,0)) fun m12 d13=>
 asM .own m12<|
 .mat (aR (pz d2 d5 d13) (d8,d10)) fun x=>.ret (Cy z3 d2 d5 d13 x)
def nU:bK:=⟨([1,2,3,7,8],[(5,0)]),([7],[]),TK⟩
def Jg:List (Nat×bK):=[(3,nU)]
theorem aaV:∀(z3_0:Bool)(h3_0_0:List Int)(h3_0_1:Int)(h3_0_4:(Int×(Int×Unit)))(x:(Int×Int))(c:St→Option (Ex×St)),den Cx Jg (aY Ji 0) (Eu z3_0 h3_0_0 h3_0_1 h3_0_4 x) (bU nU.kp nU.kx c)=(pz h3_0_0 h3_0_1 h3_0_4 x).run (bV (Eu z3_0 h3_0_0 h3_0_1 h3_0_4) (Cy z3_0 h3_0_0 h3_0_1 h3_0_4) c):=fun _ _ _ _ _ _=>by
 kernel_rfl
theorem aft:bS Cx Jg (aY Ji 0) nU:=bA fun s e s' h=>by
 generalize hs:restrict nU.kp s=s1 at h
 have h:(TK s1).run some=some (e,s'):=h
 obtain ⟨z3,d2,e1,h_0⟩:=aD h
 obtain ⟨d5,e4,h_1⟩:=ak h_0
 obtain ⟨e6,h_2⟩:=bF h_1
 obtain ⟨d8,e7,h_3⟩:=ak h_2
 obtain ⟨d10,e9,h_4⟩:=ak h_3
 obtain ⟨m12,d13,e11,h_5⟩:=aH h_4
 obtain ⟨rfl,h_6⟩:=aQ h_5
 obtain ⟨y,hy,hz⟩:=bT h_6
 refine ⟨_,_,Eu z3 d2 d5 d13,Cy z3 d2 d5 d13,pz d2 d5 d13,(d8,d10),y,?_,hy,?_,aaV z3 d2 d5 d13⟩
 ·subst hs;exact aT (T:=[(1,(.imm z3 (.sl (.int .i64)) d2)),(2,(.imm true (.int .i64) d5)),(3,(.ptr (5,0) [])),(7,(.imm true (.int .i64) d8)),(8,(.imm true (.int .i64) d10))]) (U:=[((5,0),some ⟨true,aL,.own,d13⟩)]) rfl rfl ⟨e1,e4,e6,e7,e9,trivial⟩ ⟨e11,trivial⟩
 ·exact Option.some.inj hz
def ads:FnI:=⟨Ji,Tryz.f42.results.toList,Tryz.f42.resultTypes.toList,Jg⟩
def Xg (_zp0:Bool) (_p0:(Int×(Int×Unit))) (_p1:List Int) (_p2:Int):Int→aB:=fun r=>⟨(.imm true (.int .i64) r),[],[]⟩
theorem alY:∀(zp0:Bool)(p0:(Int×(Int×Unit)))(p1:List Int)(p2:Int),bN Cx ads ⟨[(.imm true aL p0),(.imm zp0 (.sl (.int .i64)) p1),(.imm true (.int .i64) p2)],[]⟩=(aaU p0 p1 p2).run fun r=>some (Xg zp0 p0 p1 p2 r):=fun _ _ _ _=>by kernel_rfl
def adr (av:List AV) (rs:List Root):Tre aB:=
 aJ av fun a0_ av0=>
 aJ av0 fun a1_ av1=>
 aJ av1 fun a2_ av2=>
 aU av2<|
 aU rs<|
 aC true aL a0_ fun d1=>
 bE (.sl (.int .i64)) a1_ fun z3 d2=>
 aC true (.int .i64) a2_ fun d4=>
 .mat (Jh d1 d2 d4) fun r=>.ret (Xg z3 d1 d2 d4 r)
def adt:Ctr:=⟨[],fun ci=>adr ci.args ci.roots,false⟩
theorem akI:bM Tryz.prog .none Cx:=(aA wM apz (aA qZ afJ aN))
theorem alZ:Contract Tryz.prog .none 42 adt:=by
 have hl:aZ Cx Jg Ji:=(bC (n:=1) (by kernel_rfl) fun k hk=>by
   match k,hk with
   |0,_=>exact bq (id:=3) (L:=nU) (by kernel_rfl) (by kernel_rfl) aft)
 refine (aI (F:=ads) bg akI Tryz.func42 (by kernel_rfl) (by kernel_rfl) (by kernel_rfl) hl []).weaken ?_
 rintro ⟨av,rs⟩ co h
 have h:(adr av rs).run some=some co:=h
 obtain ⟨a0_,av0,rfl,h_0⟩:=au h
 obtain ⟨a1_,av1,rfl,h_1⟩:=au h_0
 obtain ⟨a2_,av2,rfl,h_2⟩:=au h_1
 obtain ⟨rfl,h_3⟩:=ay h_2
 obtain ⟨rfl,h_4⟩:=ay h_3
 obtain ⟨d1,rfl,h_5⟩:=ak h_4
 obtain ⟨z3,d2,rfl,h_6⟩:=aD h_5
 obtain ⟨d4,rfl,h_7⟩:=ak h_6
 exact bJ (alY z3 d1 d2 d4) h_7
def jA (h3_0_0:aM) (h3_0_1:List Int):(Int×(List Int))→Tre ((Int×(List Int)) ⊕ (List Int)):=fun s3=>
 .cond (decide (s3.1<(h3_0_0.2.1.length:Int)))
  (.ite (0≤s3.1∧s3.1<(h3_0_0.2.1.length:Int))<|
  .mat (h3_0_0.2.1[s3.1.toNat]?) fun x1=>
  .mat (Jh h3_0_0.1 h3_0_1 x1) fun r2=>
  .ite ((s3.2.length+1)*8≤bO∧1≤8)<|
  .ret (.inl (aP .i64 (s3.1+1),s3.2++([r2]))))
  (.ret (.inr s3.2))
def Ls (p0:aM) (p1:List Int):Tre (List Int):=
 .mat (aR (jA p0 p1) (0,[])) fun l3=>
 .ret l3
def mM (p0:aM) (p1:List Int):Option (List Int):=(Ls p0 p1).run some
-- more
theorem aq3{f:TF3}(hf:aO f=true){P X:List Nat}(hP:inL (FOf f hf) P)(hl:P.length≤1000)(hX:inL (FOf f hf) X)(hXl:X.length≤1000)(k:Int):mM (f,aS X,k,()) (aS P)=some (aS (X.map ((FOf f hf).lp P))):=by
 unfold mM Ls
 rw [ah (show aR (jA (f,aS X,k,()) (aS P)) (0,[])=some (aS (X.map ((FOf f hf).lp P))) from ?_),Tre.aK]
 refine cO (fun i=>((i:Int),aS ((X.take i).map ((FOf f hf).lp P)))) X.length _ (fun i hi=>?_) ?_
 ·unfold jA
  dsimp only
  rw [dP (dA (dV hi)),ah (au7 hf hP hl (kR hX i)),Tre.run_ite,if_pos (by rw [aW,List.length_map,List.length_take];unfold bO;omega),Tre.aK,aV (by omega),List.take_add_one,dV hi,Option.toList_some,List.map_append,wC]
  rfl
 ·unfold jA
  dsimp only
  rw [aW,dw,Tre.aK,List.take_length]
def qV:Env:=⟨tau,[(42,adt)],[]⟩
def xW:Code:=(Tryz.f39.body).getD .skip
def wW (z3_0:Bool) (z3_1:Bool) (h3_0_0:aM) (h3_0_1:List Int):(Int×(List Int))→St:=fun x=>bR [(0,(.iptr z3_0 (.sl aX) ([h3_0_0]) [.idx 0])),(1,(.imm z3_1 (.sl (.int .i64)) h3_0_1)),(5,(.ref (7,0) [])),(6,(.imm true (.int .i64) x.1))] [((7,0),some ⟨false,(.sl (.int .i64)),.own,x.2⟩)]
def uX (_z3_0:Bool) (_z3_1:Bool) (_h3_0_0:aM) (_h3_0_1:List Int):(List Int)→Ex×St:=fun x=>(.exit 0,bR [(5,(.ref (7,0) []))] [((7,0),some ⟨false,(.sl (.int .i64)),.own,x⟩)])
def Iw (s:St):Tre (Ex×St):=
 anu aX (s.tmps 0) fun z2 d3=>
 bE (.sl (.int .i64)) (s.tmps 1) fun z6 d5=>
 dz (7,0) [] (s.tmps 5)<|
 aC true (.int .i64) (s.tmps 6) fun d9=>
 bD false (.sl (.int .i64)) (s.roots (7,0)) fun m11 d12=>
 asM .own m11<|
 .mat (aR (jA d3 d5) (d9,d12)) fun x=>.ret (uX z2 z6 d3 d5 x)
def jG:bK:=⟨([0,1,5,6],[(7,0)]),([5],[(7,0)]),Iw⟩
def xV:List (Nat×bK):=[(3,jG)]
theorem RV:∀(z3_0:Bool)(z3_1:Bool)(h3_0_0:aM)(h3_0_1:List Int)(x:(Int×(List Int)))(c:St→Option (Ex×St)),den qV xV (aY xW 0) (wW z3_0 z3_1 h3_0_0 h3_0_1 x) (bU jG.kp jG.kx c)=(jA h3_0_0 h3_0_1 x).run (bV (wW z3_0 z3_1 h3_0_0 h3_0_1) (uX z3_0 z3_1 h3_0_0 h3_0_1) c):=fun _ _ _ _ _ _=>by
 kernel_rfl
theorem Xh:bS qV xV (aY xW 0) jG:=bA fun s e s' h=>by
 generalize hs:restrict jG.kp s=s1 at h
 have h:(Iw s1).run some=some (e,s'):=h
 obtain ⟨z2,d3,e1,h_0⟩:=afD h
 obtain ⟨z6,d5,e4,h_1⟩:=aD h_0
 obtain ⟨e7,h_2⟩:=bf h_1
 obtain ⟨d9,e8,h_3⟩:=ak h_2
 obtain ⟨m11,d12,e10,h_4⟩:=aH h_3
 obtain ⟨rfl,h_5⟩:=aQ h_4
 obtain ⟨y,hy,hz⟩:=bT h_5
 refine ⟨_,_,wW z2 z6 d3 d5,uX z2 z6 d3 d5,jA d3 d5,(d9,d12),y,?_,hy,?_,RV z2 z6 d3 d5⟩
 ·subst hs;exact aT (T:=[(0,(.iptr z2 (.sl aX) ([d3]) [.idx 0])),(1,(.imm z6 (.sl (.int .i64)) d5)),(5,(.ref (7,0) [])),(6,(.imm true (.int .i64) d9))]) (U:=[((7,0),some ⟨false,(.sl (.int .i64)),.own,d12⟩)]) rfl rfl ⟨e1,e4,e7,e8,trivial⟩ ⟨e10,trivial⟩
 ·exact Option.some.inj hz
def Qu:FnI:=⟨xW,Tryz.f39.results.toList,Tryz.f39.resultTypes.toList,xV⟩
def Lu (_zp0:Bool) (_zp1:Bool) (_p0:aM) (_p1:List Int):(List Int)→aB:=fun r=>⟨(.ref (1,0) []),[],[⟨false,(.sl (.int .i64)),.own,r⟩]⟩
theorem adu:∀(zp0:Bool)(zp1:Bool)(p0:aM)(p1:List Int),bN qV Qu ⟨[(.iptr zp0 (.sl aX) ([p0]) [.idx 0]),(.imm zp1 (.sl (.int .i64)) p1)],[]⟩=(Ls p0 p1).run fun r=>some (Lu zp0 zp1 p0 p1 r):=fun _ _ _ _=>by kernel_rfl
def Qt (av:List AV) (rs:List Root):Tre aB:=
 aJ av fun a0_ av0=>
 aJ av0 fun a1_ av1=>
 aU av1<|
 aU rs<|
 anu aX a0_ fun z1 d2=>
 bE (.sl (.int .i64)) a1_ fun z4 d3=>
 .mat (mM d2 d3) fun r=>.ret (Lu z1 z4 d2 d3 r)
def Ev:Ctr:=⟨[0],fun ci=>Qt ci.args ci.roots,false⟩
theorem aaW:bM Tryz.prog .none qV:=(aA alZ aBm aN)
theorem NS:Contract Tryz.prog .none 39 Ev:=by
 have hl:aZ qV xV xW:=(bC (n:=1) (by kernel_rfl) fun k hk=>by
   match k,hk with
   |0,_=>exact bq (id:=3) (L:=jG) (by kernel_rfl) (by kernel_rfl) Xh)
 refine (aI (F:=Qu) bg aaW Tryz.func39 (by kernel_rfl) (by kernel_rfl) (by kernel_rfl) hl [0]).weaken ?_
 rintro ⟨av,rs⟩ co h
 have h:(Qt av rs).run some=some co:=h
 obtain ⟨a0_,av0,rfl,h_0⟩:=au h
 obtain ⟨a1_,av1,rfl,h_1⟩:=au h_0
 obtain ⟨rfl,h_2⟩:=ay h_1
 obtain ⟨rfl,h_3⟩:=ay h_2
 obtain ⟨z1,d2,rfl,h_4⟩:=afD h_3
 obtain ⟨z4,d3,rfl,h_5⟩:=aD h_4
 exact bJ (adu z1 z4 d2 d3) h_5
def wR (h3_0_0:List Int) (h3_0_1:List Int) (h3_0_2:Int) (h3_0_4:(Int×(Int×Unit))):(Int×(List Int))→Tre ((Int×(List Int)) ⊕ (List Int)):=fun s3=>
 .cond (decide (s3.1<(h3_0_0.length:Int)))
  (.ite (0≤s3.1∧s3.1<(h3_0_0.length:Int))<|
  .mat (h3_0_0[s3.1.toNat]?) fun x1=>
  .ite (0≤s3.1∧s3.1<(h3_0_1.length:Int))<|
  .mat (h3_0_1[s3.1.toNat]?) fun x2=>
  .mat (dH h3_0_4 x2 h3_0_2) fun r3=>
  .ite ((s3.2.length+1)*8≤bO∧1≤8)<|
  let v4:=s3.2++([jJ .i64 x1 r3])
  .ret (.inl (aP .i64 (s3.1+1),v4)))
  (.ret (.inr s3.2))
def akB (p0:(Int×(Int×Unit))) (p1:List Int) (p2:List Int) (p3:Int):Tre (List Int):=
 .mat (aR (wR p1 p2 p3 p0) (0,[])) fun l5=>
 .ret l5
def El (p0:(Int×(Int×Unit))) (p1:List Int) (p2:List Int) (p3:Int):Option (List Int):=(akB p0 p1 p2 p3).run some
-- more
def Lc:Env:=⟨tau,[(68,sw)],[]⟩
def RN:Code:=(Tryz.f38.body).getD .skip
def Ld (z3_0:Bool) (z3_1:Bool) (h3_0_0:List Int) (h3_0_1:List Int) (h3_0_2:Int) (h3_0_4:(Int×(Int×Unit))):(Int×(List Int))→St:=fun x=>bR [(1,(.imm z3_0 (.sl (.int .i64)) h3_0_0)),(2,(.imm z3_1 (.sl (.int .i64)) h3_0_1)),(3,(.imm true (.int .i64) h3_0_2)),(4,(.ptr (6,0) [])),(9,(.ref (11,0) [])),(10,(.imm true (.int .i64) x.1))] [((6,0),some ⟨true,aL,.own,h3_0_4⟩),((11,0),some ⟨false,(.sl (.int .i64)),.own,x.2⟩)]
def He (_z3_0:Bool) (_z3_1:Bool) (_h3_0_0:List Int) (_h3_0_1:List Int) (_h3_0_2:Int) (_h3_0_4:(Int×(Int×Unit))):(List Int)→Ex×St:=fun x=>(.exit 0,bR [(9,(.ref (11,0) []))] [((11,0),some ⟨false,(.sl (.int .i64)),.own,x⟩)])
def Zr (s:St):Tre (Ex×St):=
 bE (.sl (.int .i64)) (s.tmps 1) fun z3 d2=>
 bE (.sl (.int .i64)) (s.tmps 2) fun z6 d5=>
 aC true (.int .i64) (s.tmps 3) fun d8=>
 dU (6,0) [] (s.tmps 4)<|
 dz (11,0) [] (s.tmps 9)<|
 aC true (.int .i64) (s.tmps 10) fun d12=>
 bD true aL (s.roots (6,0)) fun m14 d15=>
 asM .own m14<|
 bD false (.sl (.int .i64)) (s.roots (11,0)) fun m17 d18=>
 asM .own m17<|
 .mat (aR (wR d2 d5 d8 d15) (d12,d18)) fun x=>.ret (He z3 z6 d2 d5 d8 d15 x)
def uF:bK:=⟨([1,2,3,4,9,10],[(6,0),(11,0)]),([9],[(11,0)]),Zr⟩
def RL:List (Nat×bK):=[(3,uF)]
theorem afi:∀(z3_0:Bool)(z3_1:Bool)(h3_0_0:List Int)(h3_0_1:List Int)(h3_0_2:Int)(h3_0_4:(Int×(Int×Unit)))(x:(Int×(List Int)))(c:St→Option (Ex×St)),den Lc RL (aY RN 0) (Ld z3_0 z3_1 h3_0_0 h3_0_1 h3_0_2 h3_0_4 x) (bU uF.kp uF.kx c)=(wR h3_0_0 h3_0_1 h3_0_2 h3_0_4 x).run (bV (Ld z3_0 z3_1 h3_0_0 h3_0_1 h3_0_2 h3_0_4) (He z3_0 z3_1 h3_0_0 h3_0_1 h3_0_2 h3_0_4) c):=fun _ _ _ _ _ _ _ _=>by
 kernel_rfl
theorem akE:bS Lc RL (aY RN 0) uF:=bA fun s e s' h=>by
 generalize hs:restrict uF.kp s=s1 at h
 have h:(Zr s1).run some=some (e,s'):=h
 obtain ⟨z3,d2,e1,h_0⟩:=aD h
 obtain ⟨z6,d5,e4,h_1⟩:=aD h_0
 obtain ⟨d8,e7,h_2⟩:=ak h_1
 obtain ⟨e9,h_3⟩:=bF h_2
 obtain ⟨e10,h_4⟩:=bf h_3
 obtain ⟨d12,e11,h_5⟩:=ak h_4
 obtain ⟨m14,d15,e13,h_6⟩:=aH h_5
 obtain ⟨rfl,h_7⟩:=aQ h_6
 obtain ⟨m17,d18,e16,h_8⟩:=aH h_7
 obtain ⟨rfl,h_9⟩:=aQ h_8
 obtain ⟨y,hy,hz⟩:=bT h_9
 refine ⟨_,_,Ld z3 z6 d2 d5 d8 d15,He z3 z6 d2 d5 d8 d15,wR d2 d5 d8 d15,(d12,d18),y,?_,hy,?_,afi z3 z6 d2 d5 d8 d15⟩
 ·subst hs;exact aT (T:=[(1,(.imm z3 (.sl (.int .i64)) d2)),(2,(.imm z6 (.sl (.int .i64)) d5)),(3,(.imm true (.int .i64) d8)),(4,(.ptr (6,0) [])),(9,(.ref (11,0) [])),(10,(.imm true (.int .i64) d12))]) (U:=[((6,0),some ⟨true,aL,.own,d15⟩),((11,0),some ⟨false,(.sl (.int .i64)),.own,d18⟩)]) rfl rfl ⟨e1,e4,e7,e9,e10,e11,trivial⟩ ⟨e13,e16,trivial⟩
 ·exact Option.some.inj hz
def akD:FnI:=⟨RN,Tryz.f38.results.toList,Tryz.f38.resultTypes.toList,RL⟩
def ade (_zp0:Bool) (_zp1:Bool) (_p0:(Int×(Int×Unit))) (_p1:List Int) (_p2:List Int) (_p3:Int):(List Int)→aB:=fun r=>⟨(.ref (1,0) []),[],[⟨false,(.sl (.int .i64)),.own,r⟩]⟩
theorem aqQ:∀(zp0:Bool)(zp1:Bool)(p0:(Int×(Int×Unit)))(p1:List Int)(p2:List Int)(p3:Int),bN Lc akD ⟨[(.imm true aL p0),(.imm zp0 (.sl (.int .i64)) p1),(.imm zp1 (.sl (.int .i64)) p2),(.imm true (.int .i64) p3)],[]⟩=(akB p0 p1 p2 p3).run fun r=>some (ade zp0 zp1 p0 p1 p2 p3 r):=fun _ _ _ _ _ _=>by kernel_rfl
def akC (av:List AV) (rs:List Root):Tre aB:=
 aJ av fun a0_ av0=>
 aJ av0 fun a1_ av1=>
 aJ av1 fun a2_ av2=>
 aJ av2 fun a3_ av3=>
 aU av3<|
 aU rs<|
 aC true aL a0_ fun d1=>
 bE (.sl (.int .i64)) a1_ fun z3 d2=>
 bE (.sl (.int .i64)) a2_ fun z5 d4=>
 aC true (.int .i64) a3_ fun d6=>
 .mat (El d1 d2 d4 d6) fun r=>.ret (ade z3 z5 d1 d2 d4 d6 r)
def aaN:Ctr:=⟨[],fun ci=>akC ci.args ci.roots,false⟩
theorem aoK:bM Tryz.prog .none Lc:=(aA qZ afJ aN)
theorem agX:Contract Tryz.prog .none 38 aaN:=by
 have hl:aZ Lc RL RN:=(bC (n:=1) (by kernel_rfl) fun k hk=>by
   match k,hk with
   |0,_=>exact bq (id:=3) (L:=uF) (by kernel_rfl) (by kernel_rfl) akE)
 refine (aI (F:=akD) bg aoK Tryz.func38 (by kernel_rfl) (by kernel_rfl) (by kernel_rfl) hl []).weaken ?_
 rintro ⟨av,rs⟩ co h
 have h:(akC av rs).run some=some co:=h
 obtain ⟨a0_,av0,rfl,h_0⟩:=au h
 obtain ⟨a1_,av1,rfl,h_1⟩:=au h_0
 obtain ⟨a2_,av2,rfl,h_2⟩:=au h_1
 obtain ⟨a3_,av3,rfl,h_3⟩:=au h_2
 obtain ⟨rfl,h_4⟩:=ay h_3
 obtain ⟨rfl,h_5⟩:=ay h_4
 obtain ⟨d1,rfl,h_6⟩:=ak h_5
 obtain ⟨z3,d2,rfl,h_7⟩:=aD h_6
 obtain ⟨z5,d4,rfl,h_8⟩:=aD h_7
 obtain ⟨d6,rfl,h_9⟩:=ak h_8
 exact bJ (aqQ z3 z5 d1 d2 d4 d6) h_9
def aaO (p0:(Int×(Int×Unit))) (p1:List Int) (p2:List Int):Tre Int:=
 .mat (El p0 p1 p2 1) fun r1=>
 .mat (amW p0.1 r1) fun r2=>
 .ret r2
def Jf (p0:(Int×(Int×Unit))) (p1:List Int) (p2:List Int):Option Int:=(aaO p0 p1 p2).run some
-- more
theorem aw6{f:TF3}(hf:aO f=true){pts w m:List Nat}(hw:inL (FOf f hf) w)(hl:w.length=pts.length)(hwl:w.length≤1000):El f (aS (pts.map ((FOf f hf).lp m))) (aS w) 1=some (aS ((FOf f hf).Bb pts w m)):=by
 have hel:=(FOf f hf).Jv (m:=m) hl
 unfold El akB
 rw [ah (show aR (wR (aS (pts.map ((FOf f hf).lp m))) (aS w) 1 f) (0,[])=some (aS ((FOf f hf).Bb pts w m)) from ?_),Tre.aK]
 refine cO (fun i=>((i:Int),aS (((FOf f hf).Bb pts w m).take i))) w.length _ (fun i hi=>?_) ?_
 ·have hwi:=dV hi
  have hpi:=dV (show i<pts.length by omega)
  have hei:((FOf f hf).Bb pts w m)[i]?=some (cf w i^^^(FOf f hf).lp m (cf pts i)):=by
   unfold FO.Bb
   rw [List.getElem?_map,List.getElem?_zip_eq_some.2 (show pts[i]?=some (cf pts i,cf w i).1∧w[i]?=some (cf pts i,cf w i).2 from ⟨hpi,hwi⟩)]
   rfl
  have hci:(pts.map ((FOf f hf).lp m))[i]?=some ((FOf f hf).lp m (cf pts i)):=by rw [List.getElem?_map,hpi];rfl
  have h1:dH f (cf w i:Int) 1=some (cf w i:Int):=by
   have:=afv hf (kR hw i) (FOf f hf).hq
   rw [FO.one _ _ (kR hw i)] at this
   exact this
  unfold wR
  dsimp only
  rw [dP (dA hci),dF (dA hwi),ah h1,Tre.run_ite,if_pos (by rw [aW,List.length_take];unfold bO;omega),Tre.aK,aV (by omega),Xm hf ((FOf f hf).ace _ _) (kR hw i),Nat.xor_comm,List.take_add_one,hei,Option.toList_some,wC]
  rfl
 ·unfold wR
  dsimp only
  rw [Tre.aG,decide_eq_false (by rw [aW,List.length_map];omega),cond_false,Tre.aK,List.take_of_length_le (by omega)]
theorem auU{f:TF3}(hf:aO f=true){pts w m:List Nat}(hw:inL (FOf f hf) w)(hl:w.length=pts.length)(hwl:w.length≤1000):Jf f (aS (pts.map ((FOf f hf).lp m))) (aS w)=some (rkN ((FOf f hf).Bb pts w m):Int):=by
 have hd:=nX hf
 have hel:=(FOf f hf).Jv (m:=m) hl
 unfold Jf aaO
 rw [ah (aw6 hf hw hl hwl),ah (show amW f.1 (aS ((FOf f hf).Bb pts w m))=some _ from pV (by rw [Bool.and_eq_true];exact ⟨kF.2 (by omega),anW hf ((FOf f hf).aa9 hw) (by omega) (Nat.le_refl _)⟩)),Tre.aK,aw3]
def RO:Env:=⟨tau,[(38,aaN),(85,WA)],[]⟩
def adh:Code:=(Tryz.f58.body).getD .skip
def adg:FnI:=⟨adh,Tryz.f58.results.toList,Tryz.f58.resultTypes.toList,[]⟩
def WS (_zp0:Bool) (_zp1:Bool) (_p0:(Int×(Int×Unit))) (_p1:List Int) (_p2:List Int):Int→aB:=fun r=>⟨(.imm true (.int .i64) r),[],[]⟩
theorem alS:∀(zp0:Bool)(zp1:Bool)(p0:(Int×(Int×Unit)))(p1:List Int)(p2:List Int),bN RO adg ⟨[(.imm true aL p0),(.imm zp0 (.sl (.int .i64)) p1),(.imm zp1 (.sl (.int .i64)) p2)],[]⟩=(aaO p0 p1 p2).run fun r=>some (WS zp0 zp1 p0 p1 p2 r):=fun _ _ _ _ _=>by kernel_rfl
def adf (av:List AV) (rs:List Root):Tre aB:=
 aJ av fun a0_ av0=>
 aJ av0 fun a1_ av1=>
 aJ av1 fun a2_ av2=>
 aU av2<|
 aU rs<|
 aC true aL a0_ fun d1=>
 bE (.sl (.int .i64)) a1_ fun z3 d2=>
 bE (.sl (.int .i64)) a2_ fun z5 d4=>
 .mat (Jf d1 d2 d4) fun r=>.ret (WS z3 z5 d1 d2 d4 r)
def adi:Ctr:=⟨[],fun ci=>adf ci.args ci.roots,false⟩
theorem akF:bM Tryz.prog .none RO:=(aA agX avY (aA ac1 azm aN))
theorem alT:Contract Tryz.prog .none 58 adi:=by
 have hl:aZ RO [] adh:=bB (by kernel_rfl)
 refine (aI (F:=adg) bg akF Tryz.func58 (by kernel_rfl) (by kernel_rfl) (by kernel_rfl) hl []).weaken ?_
 rintro ⟨av,rs⟩ co h
 have h:(adf av rs).run some=some co:=h
 obtain ⟨a0_,av0,rfl,h_0⟩:=au h
 obtain ⟨a1_,av1,rfl,h_1⟩:=au h_0
 obtain ⟨a2_,av2,rfl,h_2⟩:=au h_1
 obtain ⟨rfl,h_3⟩:=ay h_2
 obtain ⟨rfl,h_4⟩:=ay h_3
 obtain ⟨d1,rfl,h_5⟩:=ak h_4
 obtain ⟨z3,d2,rfl,h_6⟩:=aD h_5
 obtain ⟨z5,d4,rfl,h_7⟩:=aD h_6
 exact bJ (alS z3 z5 d1 d2 d4) h_7
def abF (p0:List Int):Tre Int:=
 .ret (p0.length:Int)
def ajk (p0:List Int):Option Int:=(abF p0).run some
theorem abH(p0:List Int):ajk p0=some (p0.length:Int):=rfl
def KC:Env:=⟨tau,[],[]⟩
def Vo:Code:=(Tryz.f45.body).getD .skip
def Vn:FnI:=⟨Vo,Tryz.f45.results.toList,Tryz.f45.resultTypes.toList,[]⟩
def PE (_zp0:Bool) (_p0:List Int):Int→aB:=fun r=>⟨(.imm true (.int .i64) r),[],[]⟩
theorem ahw:∀(zp0:Bool)(p0:List Int),bN KC Vn ⟨[(.imm zp0 (.sl (.int .i64)) p0)],[]⟩=(abF p0).run fun r=>some (PE zp0 p0 r):=fun _ _=>by kernel_rfl
def Vm (av:List AV) (rs:List Root):Tre aB:=
 aJ av fun a0_ av0=>
 aU av0<|
 aU rs<|
 bE (.sl (.int .i64)) a0_ fun z2 d1=>
 .ret (PE z2 d1 (d1.length:Int))
def qp:Ctr:=⟨[],fun ci=>Vm ci.args ci.roots,false⟩
theorem aej:bM Tryz.prog .none KC:=aN
theorem tJ:Contract Tryz.prog .none 45 qp:=by
 have hl:aZ KC [] Vo:=bB (by kernel_rfl)
 refine (aI (F:=Vn) bg aej Tryz.func45 (by kernel_rfl) (by kernel_rfl) (by kernel_rfl) hl []).weaken ?_
 rintro ⟨av,rs⟩ co h
 have h:(Vm av rs).run some=some co:=h
 obtain ⟨a0_,av0,rfl,h_0⟩:=au h
 obtain ⟨rfl,h_1⟩:=ay h_0
 obtain ⟨rfl,h_2⟩:=ay h_1
 obtain ⟨z2,d1,rfl,h_3⟩:=aD h_2
 exact xq (ahw z2 d1) (abH d1) h_3
def J3 (p0:aM):Tre Int:=
 let v1:=aP .i64 ((p0.2.1.length:Int)-p0.2.2.1)
 let v2:=aP .i64 (Int.tdiv v1 2)
 .ret v2
def U5 (p0:aM):Option Int:=(J3 p0).run some
def dX(p0:aM):Int:=
 let v1:=aP .i64 ((p0.2.1.length:Int)-p0.2.2.1)
 let v2:=aP .i64 (Int.tdiv v1 2)
 v2
theorem Pw(p0:aM):U5 p0=some (dX p0):=rfl
def wm:Env:=⟨tau,[(45,qp)],[]⟩
def Fz:Code:=(Tryz.f61.body).getD .skip
def Fx:FnI:=⟨Fz,Tryz.f61.results.toList,Tryz.f61.resultTypes.toList,[]⟩
def Bw (_zp0:Bool) (_p0:aM):Int→aB:=fun r=>⟨(.imm true (.int .i64) r),[],[]⟩
theorem Ub:∀(zp0:Bool)(p0:aM),bN wm Fx ⟨[(.imm zp0 aX p0)],[]⟩=(J3 p0).run fun r=>some (Bw zp0 p0 r):=fun _ _=>by kernel_rfl
def Fw (av:List AV) (rs:List Root):Tre aB:=
 aJ av fun a0_ av0=>
 aU av0<|
 aU rs<|
 bE aX a0_ fun z2 d1=>
 .ret (Bw z2 d1 (dX d1))
def FB:Ctr:=⟨[],fun ci=>Fw ci.args ci.roots,false⟩
theorem QY:bM Tryz.prog .none wm:=(aA tJ apy aN)
theorem Uc:Contract Tryz.prog .none 61 FB:=by
 have hl:aZ wm [] Fz:=bB (by kernel_rfl)
 refine (aI (F:=Fx) bg QY Tryz.func61 (by kernel_rfl) (by kernel_rfl) (by kernel_rfl) hl []).weaken ?_
 rintro ⟨av,rs⟩ co h
 have h:(Fw av rs).run some=some co:=h
 obtain ⟨a0_,av0,rfl,h_0⟩:=au h
 obtain ⟨rfl,h_1⟩:=ay h_0
 obtain ⟨rfl,h_2⟩:=ay h_1
 obtain ⟨z2,d1,rfl,h_3⟩:=aD h_2
 exact xq (Ub z2 d1) (Pw d1) h_3
def DL:(List Int)→Tre ((List Int) ⊕ (List Int)):=fun s1=>
 .cond (decide ((s1.length:Int)>0))
  (let v1:=aP .i64 ((s1.length:Int)-1)
  .ite (0≤v1∧v1<(s1.length:Int))<|
  .mat (s1[v1.toNat]?) fun x2=>
  .cond (decide (x2=0))
   (.ite (0≤(0:Int)∧(0:Int)≤v1∧v1≤(s1.length:Int))<|
   let v3:=(s1.drop 0).take (v1-0).toNat
   .ret (.inl v3))
   (.ret (.inr s1)))
  (.ret (.inr s1))
def ar2 (p0:List Int):Tre (List Int):=
 .mat (aR DL p0) fun l4=>
 .ret l4
def Vr (p0:List Int):Option (List Int):=(ar2 p0).run some
-- more
theorem ajw{l:List Nat}{n:Nat}(hn:0<n)(hl:n≤l.length)(hl2:l.length≤1000):(DL (aS (l.take n))).run some=some (if cf l (n-1)=0 then .inl (aS (l.take (n-1))) else .inr (aS (l.take n))):=by
 have hlen:(aS (l.take n)).length=n:=by rw [aW,List.length_take];omega
 have hx:(aS (l.take n))[n-1]?=some (cf l (n-1):Int):=by
  refine dA ?_
  rw [List.getElem?_take_of_lt (by omega)];exact dV (by omega)
 have hm:aP .i64 (((aS (l.take n)).length:Int)-1)=((n-1:Nat):Int):=by rw [hlen,gM (by omega) (by omega)]
 unfold DL
 dsimp only
 rw [Tre.aG,decide_eq_true (by omega),cond_true]
 rw [hm,dF hx,Tre.aG]
 by_cases h0:cf l (n-1)=0
 ·rw [if_pos h0,decide_eq_true (by omega),cond_true,Tre.run_ite,if_pos (by omega),Tre.aK]
  have he:(((n-1:Nat):Int)-0).toNat=n-1:=by omega
  rw [he,List.drop_zero,←Xz,List.take_take,Nat.min_eq_left (by omega)]
 ·rw [if_neg h0,decide_eq_false (by omega),cond_false,Tre.aK]
theorem apZ{l:List Nat}(hl2:l.length≤1000):Vr (aS l)=some (aS (bX l)):=by
 have htl:=jI l
 unfold Vr ar2
 rw [ah (show aR DL (aS l)=some (aS (bX l)) from ?_),Tre.aK]
 have h0:aS l=aS (l.take (l.length-0)):=by rw [Nat.sub_zero,List.take_length]
 rw [h0]
 refine cO (fun i=>aS (l.take (l.length-i))) (l.length-(bX l).length) _ (fun i hi=>?_) ?_
 ·rw [ajw (by omega) (by omega) hl2,if_pos (Dl (by omega)),Nat.sub_sub]
 ·rw [show l.length-(l.length-(bX l).length)=(bX l).length by omega]
  by_cases hz:(bX l).length=0
  ·have:bX l=[]:=List.length_eq_zero_iff.1 hz
   rw [hz,List.take_zero,this]
   rfl
  ·rw [ajw (by omega) htl hl2,if_neg ((Qx l).resolve_left hz),adD]
def Vs:Env:=⟨tau,[],[]⟩
def abK:Code:=(Tryz.f48.body).getD .skip
def Rb (z1_0:Bool):(List Int)→St:=fun x=>bR [(0,(.imm z1_0 (.sl (.int .i64)) x))] []
def Om (z1_0:Bool):(List Int)→Ex×St:=fun x=>(.exit 0,bR [(0,(.imm z1_0 (.sl (.int .i64)) x))] [])
def afY (s:St):Tre (Ex×St):=
 bE (.sl (.int .i64)) (s.tmps 0) fun z3 d2=>
 .mat (aR DL d2) fun x=>.ret (Om z3 x)
def AO:bK:=⟨([0],[]),([0],[]),afY⟩
def abJ:List (Nat×bK):=[(1,AO)]
theorem ajm:∀(z1_0:Bool)(x:List Int)(c:St→Option (Ex×St)),den Vs abJ (aY abK 0) (Rb z1_0 x) (bU AO.kp AO.kx c)=(DL x).run (bV (Rb z1_0) (Om z1_0) c):=fun _ _ _=>by
 kernel_rfl
theorem anP:bS Vs abJ (aY abK 0) AO:=bA fun s e s' h=>by
 generalize hs:restrict AO.kp s=s1 at h
 have h:(afY s1).run some=some (e,s'):=h
 obtain ⟨z3,d2,e1,h_0⟩:=aD h
 obtain ⟨y,hy,hz⟩:=bT h_0
 refine ⟨_,_,Rb z3,Om z3,DL,d2,y,?_,hy,?_,ajm z3⟩
 ·subst hs;exact aT (T:=[(0,(.imm z3 (.sl (.int .i64)) d2))]) (U:=[]) rfl rfl ⟨e1,trivial⟩ trivial
 ·exact Option.some.inj hz
def apR:FnI:=⟨abK,Tryz.f48.results.toList,Tryz.f48.resultTypes.toList,abJ⟩
def ajn (zp0:Bool) (_p0:List Int):(List Int)→aB:=fun r=>⟨(.imm zp0 (.sl (.int .i64)) r),[],[]⟩
theorem aur:∀(zp0:Bool)(p0:List Int),bN Vs apR ⟨[(.imm zp0 (.sl (.int .i64)) p0)],[]⟩=(ar2 p0).run fun r=>some (ajn zp0 p0 r):=fun _ _=>by kernel_rfl
def apQ (av:List AV) (rs:List Root):Tre aB:=
 aJ av fun a0_ av0=>
 aU av0<|
 aU rs<|
 bE (.sl (.int .i64)) a0_ fun z2 d1=>
 .mat (Vr d1) fun r=>.ret (ajn z2 d1 r)
def apS:Ctr:=⟨[0],fun ci=>apQ ci.args ci.roots,false⟩
theorem ar3:bM Tryz.prog .none Vs:=aN
theorem aus:Contract Tryz.prog .none 48 apS:=by
 have hl:aZ Vs abJ abK:=(bC (n:=1) (by kernel_rfl) fun k hk=>by
   match k,hk with
   |0,_=>exact bq (id:=1) (L:=AO) (by kernel_rfl) (by kernel_rfl) anP)
 refine (aI (F:=apR) bg ar3 Tryz.func48 (by kernel_rfl) (by kernel_rfl) (by kernel_rfl) hl [0]).weaken ?_
 rintro ⟨av,rs⟩ co h
 have h:(apQ av rs).run some=some co:=h
 obtain ⟨a0_,av0,rfl,h_0⟩:=au h
 obtain ⟨rfl,h_1⟩:=ay h_0
 obtain ⟨rfl,h_2⟩:=ay h_1
 obtain ⟨z2,d1,rfl,h_3⟩:=aD h_2
 exact bJ (aur z2 d1) h_3
def jw (h3_0_0:List Int) (h3_0_1:List Int) (h3_0_2:Int) (h3_0_4:(Int×(Int×Unit))):(Int×(List Int))→Tre ((Int×(List Int)) ⊕ (List Int)):=fun s3=>
 .cond (decide (s3.1<h3_0_2))
  (.ite (0≤s3.1∧s3.1<(h3_0_1.length:Int))<|
  .mat (h3_0_1[s3.1.toNat]?) fun x1=>
  .mat (tF h3_0_4 h3_0_0 x1) fun r2=>
  .ite ((s3.2.length+1)*8≤bO∧1≤8)<|
  .ret (.inl (aP .i64 (s3.1+1),s3.2++([r2]))))
  (.ret (.inr s3.2))
def JO (p0:(Int×(Int×Unit))) (p1:List Int) (p2:List Int):Tre (List Int):=
 .mat (aR (jw p1 p2 (p2.length:Int) p0) (0,[])) fun l3=>
 .ret l3
def xH (p0:(Int×(Int×Unit))) (p1:List Int) (p2:List Int):Option (List Int):=(JO p0 p1 p2).run some
def qd:Env:=⟨tau,[(69,Gw)],[]⟩
def xI:Code:=(Tryz.f46.body).getD .skip
def vZ (z3_0:Bool) (z3_1:Bool) (h3_0_0:List Int) (h3_0_1:List Int) (h3_0_2:Int) (h3_0_4:(Int×(Int×Unit))):(Int×(List Int))→St:=fun x=>bR [(1,(.imm z3_0 (.sl (.int .i64)) h3_0_0)),(3,(.ptr (5,0) [])),(7,(.ref (9,0) [])),(11,(.imm z3_1 (.sl (.int .i64)) h3_0_1)),(12,(.imm true (.int .i64) h3_0_2)),(13,(.imm true (.int .i64) x.1))] [((5,0),some ⟨true,aL,.own,h3_0_4⟩),((9,0),some ⟨false,(.sl (.int .i64)),.own,x.2⟩)]
def uR (_z3_0:Bool) (_z3_1:Bool) (_h3_0_0:List Int) (_h3_0_1:List Int) (_h3_0_2:Int) (_h3_0_4:(Int×(Int×Unit))):(List Int)→Ex×St:=fun x=>(.exit 0,bR [(7,(.ref (9,0) []))] [((9,0),some ⟨false,(.sl (.int .i64)),.own,x⟩)])
def Ig (s:St):Tre (Ex×St):=
 bE (.sl (.int .i64)) (s.tmps 1) fun z3 d2=>
 dU (5,0) [] (s.tmps 3)<|
 dz (9,0) [] (s.tmps 7)<|
 bE (.sl (.int .i64)) (s.tmps 11) fun z8 d7=>
 aC true (.int .i64) (s.tmps 12) fun d10=>
 aC true (.int .i64) (s.tmps 13) fun d12=>
 bD true aL (s.roots (5,0)) fun m14 d15=>
 asM .own m14<|
 bD false (.sl (.int .i64)) (s.roots (9,0)) fun m17 d18=>
 asM .own m17<|
 .mat (aR (jw d2 d7 d10 d15) (d12,d18)) fun x=>.ret (uR z3 z8 d2 d7 d10 d15 x)
def jF:bK:=⟨([1,3,7,11,12,13],[(5,0),(9,0)]),([7],[(9,0)]),Ig⟩
def xG:List (Nat×bK):=[(3,jF)]
theorem QV:∀(z3_0:Bool)(z3_1:Bool)(h3_0_0:List Int)(h3_0_1:List Int)(h3_0_2:Int)(h3_0_4:(Int×(Int×Unit)))(x:(Int×(List Int)))(c:St→Option (Ex×St)),den qd xG (aY xI 0) (vZ z3_0 z3_1 h3_0_0 h3_0_1 h3_0_2 h3_0_4 x) (bU jF.kp jF.kx c)=(jw h3_0_0 h3_0_1 h3_0_2 h3_0_4 x).run (bV (vZ z3_0 z3_1 h3_0_0 h3_0_1 h3_0_2 h3_0_4) (uR z3_0 z3_1 h3_0_0 h3_0_1 h3_0_2 h3_0_4) c):=fun _ _ _ _ _ _ _ _=>by
 kernel_rfl
theorem U3:bS qd xG (aY xI 0) jF:=bA fun s e s' h=>by
 generalize hs:restrict jF.kp s=s1 at h
 have h:(Ig s1).run some=some (e,s'):=h
 obtain ⟨z3,d2,e1,h_0⟩:=aD h
 obtain ⟨e4,h_1⟩:=bF h_0
 obtain ⟨e5,h_2⟩:=bf h_1
 obtain ⟨z8,d7,e6,h_3⟩:=aD h_2
 obtain ⟨d10,e9,h_4⟩:=ak h_3
 obtain ⟨d12,e11,h_5⟩:=ak h_4
 obtain ⟨m14,d15,e13,h_6⟩:=aH h_5
 obtain ⟨rfl,h_7⟩:=aQ h_6
 obtain ⟨m17,d18,e16,h_8⟩:=aH h_7
 obtain ⟨rfl,h_9⟩:=aQ h_8
 obtain ⟨y,hy,hz⟩:=bT h_9
 refine ⟨_,_,vZ z3 z8 d2 d7 d10 d15,uR z3 z8 d2 d7 d10 d15,jw d2 d7 d10 d15,(d12,d18),y,?_,hy,?_,QV z3 z8 d2 d7 d10 d15⟩
 ·subst hs;exact aT (T:=[(1,(.imm z3 (.sl (.int .i64)) d2)),(3,(.ptr (5,0) [])),(7,(.ref (9,0) [])),(11,(.imm z8 (.sl (.int .i64)) d7)),(12,(.imm true (.int .i64) d10)),(13,(.imm true (.int .i64) d12))]) (U:=[((5,0),some ⟨true,aL,.own,d15⟩),((9,0),some ⟨false,(.sl (.int .i64)),.own,d18⟩)]) rfl rfl ⟨e1,e4,e5,e6,e9,e11,trivial⟩ ⟨e13,e16,trivial⟩
 ·exact Option.some.inj hz
def Pt:FnI:=⟨xI,Tryz.f46.results.toList,Tryz.f46.resultTypes.toList,xG⟩
def JQ (_zp0:Bool) (_zp1:Bool) (_p0:(Int×(Int×Unit))) (_p1:List Int) (_p2:List Int):(List Int)→aB:=fun r=>⟨(.ref (1,0) []),[],[⟨false,(.sl (.int .i64)),.own,r⟩]⟩
theorem abt:∀(zp0:Bool)(zp1:Bool)(p0:(Int×(Int×Unit)))(p1:List Int)(p2:List Int),bN qd Pt ⟨[(.imm true aL p0),(.imm zp0 (.sl (.int .i64)) p1),(.imm zp1 (.sl (.int .i64)) p2)],[]⟩=(JO p0 p1 p2).run fun r=>some (JQ zp0 zp1 p0 p1 p2 r):=fun _ _ _ _ _=>by kernel_rfl
def Pq (av:List AV) (rs:List Root):Tre aB:=
 aJ av fun a0_ av0=>
 aJ av0 fun a1_ av1=>
 aJ av1 fun a2_ av2=>
 aU av2<|
 aU rs<|
 aC true aL a0_ fun d1=>
 bE (.sl (.int .i64)) a1_ fun z3 d2=>
 bE (.sl (.int .i64)) a2_ fun z5 d4=>
 .mat (xH d1 d2 d4) fun r=>.ret (JQ z3 z5 d1 d2 d4 r)
def Pv:Ctr:=⟨[],fun ci=>Pq ci.args ci.roots,false⟩
theorem Z5:bM Tryz.prog .none qd:=(aA Pp azj aN)
theorem abu:Contract Tryz.prog .none 46 Pv:=by
 have hl:aZ qd xG xI:=(bC (n:=1) (by kernel_rfl) fun k hk=>by
   match k,hk with
   |0,_=>exact bq (id:=3) (L:=jF) (by kernel_rfl) (by kernel_rfl) U3)
 refine (aI (F:=Pt) bg Z5 Tryz.func46 (by kernel_rfl) (by kernel_rfl) (by kernel_rfl) hl []).weaken ?_
 rintro ⟨av,rs⟩ co h
 have h:(Pq av rs).run some=some co:=h
 obtain ⟨a0_,av0,rfl,h_0⟩:=au h
 obtain ⟨a1_,av1,rfl,h_1⟩:=au h_0
 obtain ⟨a2_,av2,rfl,h_2⟩:=au h_1
 obtain ⟨rfl,h_3⟩:=ay h_2
 obtain ⟨rfl,h_4⟩:=ay h_3
 obtain ⟨d1,rfl,h_5⟩:=ak h_4
 obtain ⟨z3,d2,rfl,h_6⟩:=aD h_5
 obtain ⟨z5,d4,rfl,h_7⟩:=aD h_6
 exact bJ (abt z3 z5 d1 d2 d4) h_7
def zT (p0:aM) (p1:List Int):Tre (List Int):=
 .mat (xH p0.1 p1 p0.2.1) fun r1=>
 .ret r1
def iY (p0:aM) (p1:List Int):Option (List Int):=(zT p0 p1).run some
-- more
theorem asb{f:TF3}(hf:aO f=true){P X:List Nat}(hP:inL (FOf f hf) P)(hl:P.length≤1000)(hX:inL (FOf f hf) X)(hXl:X.length≤1000):xH f (aS P) (aS X)=some (aS (X.map ((FOf f hf).lp P))):=by
 unfold xH JO
 rw [ah (show aR (jw (aS P) (aS X) ((aS X).length:Int) f) (0,[])=some (aS (X.map ((FOf f hf).lp P))) from ?_),Tre.aK]
 refine cO (fun i=>((i:Int),aS ((X.take i).map ((FOf f hf).lp P)))) X.length _ (fun i hi=>?_) ?_
 ·unfold jw
  dsimp only
  rw [dP (dA (dV hi)),ah (amE hf hP hl (kR hX i)),Tre.run_ite,if_pos (by rw [aW,List.length_map,List.length_take];unfold bO;omega),Tre.aK,aV (by omega),List.take_add_one,dV hi,Option.toList_some,List.map_append,wC]
  rfl
 ·unfold jw
  dsimp only
  rw [aW,dw,Tre.aK,List.take_length]
theorem aaj{f:TF3}(hf:aO f=true){P X:List Nat}(hP:inL (FOf f hf) P)(hl:P.length≤1000)(hX:inL (FOf f hf) X)(hXl:X.length≤1000)(k:Int):iY (f,aS X,k,()) (aS P)=some (aS (X.map ((FOf f hf).lp P))):=by
 unfold iY zT
 dsimp only
 rw [ah (asb hf hP hl hX hXl),Tre.aK]
def wh:Env:=⟨tau,[(46,Pv)],[]⟩
def Fv:Code:=(Tryz.f35.body).getD .skip
def Fu:FnI:=⟨Fv,Tryz.f35.results.toList,Tryz.f35.resultTypes.toList,[]⟩
def Bv (_zp0:Bool) (_zp1:Bool) (_p0:aM) (_p1:List Int):(List Int)→aB:=fun r=>⟨(.ref (1,0) []),[],[⟨false,(.sl (.int .i64)),.own,r⟩]⟩
theorem Ua:∀(zp0:Bool)(zp1:Bool)(p0:aM)(p1:List Int),bN wh Fu ⟨[(.imm zp0 aX p0),(.imm zp1 (.sl (.int .i64)) p1)],[]⟩=(zT p0 p1).run fun r=>some (Bv zp0 zp1 p0 p1 r):=fun _ _ _ _=>by kernel_rfl
def Fq (av:List AV) (rs:List Root):Tre aB:=
 aJ av fun a0_ av0=>
 aJ av0 fun a1_ av1=>
 aU av1<|
 aU rs<|
 bE aX a0_ fun z2 d1=>
 bE (.sl (.int .i64)) a1_ fun z4 d3=>
 .mat (iY d1 d3) fun r=>.ret (Bv z2 z4 d1 d3 r)
def og:Ctr:=⟨[],fun ci=>Fq ci.args ci.roots,false⟩
theorem QX:bM Tryz.prog .none wh:=(aA abu aBo aN)
theorem uS:Contract Tryz.prog .none 35 og:=by
 have hl:aZ wh [] Fv:=bB (by kernel_rfl)
 refine (aI (F:=Fu) bg QX Tryz.func35 (by kernel_rfl) (by kernel_rfl) (by kernel_rfl) hl []).weaken ?_
 rintro ⟨av,rs⟩ co h
 have h:(Fq av rs).run some=some co:=h
 obtain ⟨a0_,av0,rfl,h_0⟩:=au h
 obtain ⟨a1_,av1,rfl,h_1⟩:=au h_0
 obtain ⟨rfl,h_2⟩:=ay h_1
 obtain ⟨rfl,h_3⟩:=ay h_2
 obtain ⟨z2,d1,rfl,h_4⟩:=aD h_3
 obtain ⟨z4,d3,rfl,h_5⟩:=aD h_4
 exact bJ (Ua z2 z4 d1 d3) h_5
def zW (h3_0_0:List Int) (h3_0_1:Int):(Int×(List Int))→Tre ((Int×(List Int)) ⊕ (List Int)):=fun s3=>
 .cond (decide (s3.1<h3_0_1))
  (.ite (0≤s3.1∧s3.1<(h3_0_0.length:Int))<|
  .mat (h3_0_0[s3.1.toNat]?) fun x2=>
  .ite (0≤s3.1∧s3.1<(s3.2.length:Int))<|
  .mat (s3.2[s3.1.toNat]?) fun x3=>
  .ite (0≤s3.1∧s3.1<(s3.2.length:Int))<|
  .mat (s3.2[s3.1.toNat]?) fun _=>
  let v5:=s3.2.set s3.1.toNat (jJ .i64 x3 x2)
  .ret (.inl (aP .i64 (s3.1+1),v5)))
  (.ret (.inr s3.2))
def anI (p0:List Int) (p1:List Int):Tre (List Int):=
 .mat (gH p0) fun r1=>
 .mat (aR (zW p1 (p1.length:Int)) (0,r1)) fun l6=>
 .ret l6
def Jo (p0:List Int) (p1:List Int):Option (List Int):=(anI p0 p1).run some
-- more
theorem aek{f:TF3}(hf:aO f=true){pts w m:List Nat}(hw:inL (FOf f hf) w)(hl:w.length=pts.length)(hwl:w.length≤1000):Jo (aS w) (aS (pts.map ((FOf f hf).lp m)))=some (aS ((FOf f hf).Bb pts w m)):=by
 have hel:=(FOf f hf).Jv (m:=m) hl
 have hst:∀i,i<w.length→(((FOf f hf).Bb pts w m).take i++w.drop i)[i]?=some (cf w i)∧(pts.map ((FOf f hf).lp m))[i]?=some ((FOf f hf).lp m (cf pts i))∧(((FOf f hf).Bb pts w m).take i++w.drop i).set i (cf w i^^^(FOf f hf).lp m (cf pts i))=((FOf f hf).Bb pts w m).take (i+1)++w.drop (i+1):=by
  intro i hi
  have hti:(((FOf f hf).Bb pts w m).take i).length=i:=by rw [List.length_take];omega
  have hwi:=dV hi
  have hpi:=dV (show i<pts.length by omega)
  have hei:((FOf f hf).Bb pts w m)[i]?=some (cf w i^^^(FOf f hf).lp m (cf pts i)):=by
   unfold FO.Bb
   rw [List.getElem?_map,List.getElem?_zip_eq_some.2 (show pts[i]?=some (cf pts i,cf w i).1∧w[i]?=some (cf pts i,cf w i).2 from ⟨hpi,hwi⟩)]
   rfl
  have hd:w.drop i=cf w i::w.drop (i+1):=by
   obtain ⟨h1,h2⟩:=List.getElem?_eq_some_iff.1 hwi
   rw [List.drop_eq_getElem_cons h1,h2]
  refine ⟨by rw [List.getElem?_append_right (by omega),hti,Nat.sub_self,hd];rfl,by rw [List.getElem?_map,hpi];rfl,?_⟩
  rw [List.set_append_right _ _ (by omega),hti,Nat.sub_self,hd,List.set_cons_zero,List.take_add_one,hei,Option.toList_some,List.append_assoc]
  rfl
 unfold Jo anI
 rw [ah (show gH (aS w)=some (aS w) from KF (by rw [aW];omega))]
 rw [ah (show aR (zW (aS (pts.map ((FOf f hf).lp m))) ((aS (pts.map ((FOf f hf).lp m))).length:Int)) (0,aS w)=some (aS ((FOf f hf).Bb pts w m)) from ?_),Tre.aK]
 refine cO (fun i=>((i:Int),aS (((FOf f hf).Bb pts w m).take i++w.drop i))) w.length _ (fun i hi=>?_) ?_
 ·obtain ⟨h1,h2,h3⟩:=hst i hi
  unfold zW
  dsimp only
  rw [dP (dA h2),dF (dA h1),dF (dA h1),Xm hf (kR hw i) ((FOf f hf).ace _ _),Int.toNat_natCast,←Vt,h3,Tre.aK,aV (by omega)]
 ·unfold zW
  dsimp only
  rw [aW,List.length_map,←hl,dw,Tre.aK,List.drop_length,List.append_nil,List.take_of_length_le (by omega)]
def PD:Env:=⟨tau,[(65,kN)],[]⟩
def Xx:Code:=(Tryz.f34.body).getD .skip
def Oh (z3_0:Bool) (h3_0_0:List Int) (h3_0_1:Int):(Int×(List Int))→St:=fun x=>bR [(5,(.ref (7,0) [])),(10,(.imm z3_0 (.sl (.int .i64)) h3_0_0)),(11,(.imm true (.int .i64) h3_0_1)),(12,(.imm true (.int .i64) x.1))] [((7,0),some ⟨false,(.sl (.int .i64)),.own,x.2⟩)]
def Kj (_z3_0:Bool) (_h3_0_0:List Int) (_h3_0_1:Int):(List Int)→Ex×St:=fun x=>(.exit 0,bR [(5,(.ref (7,0) []))] [((7,0),some ⟨false,(.sl (.int .i64)),.own,x⟩)])
def abv (s:St):Tre (Ex×St):=
 dz (7,0) [] (s.tmps 5)<|
 bE (.sl (.int .i64)) (s.tmps 10) fun z4 d3=>
 aC true (.int .i64) (s.tmps 11) fun d6=>
 aC true (.int .i64) (s.tmps 12) fun d8=>
 bD false (.sl (.int .i64)) (s.roots (7,0)) fun m10 d11=>
 asM .own m10<|
 .mat (aR (zW d3 d6) (d8,d11)) fun x=>.ret (Kj z4 d3 d6 x)
def xK:bK:=⟨([5,10,11,12],[(7,0)]),([5],[(7,0)]),abv⟩
def Xw:List (Nat×bK):=[(3,xK)]
theorem ahs:∀(z3_0:Bool)(h3_0_0:List Int)(h3_0_1:Int)(x:(Int×(List Int)))(c:St→Option (Ex×St)),den PD Xw (aY Xx 0) (Oh z3_0 h3_0_0 h3_0_1 x) (bU xK.kp xK.kx c)=(zW h3_0_0 h3_0_1 x).run (bV (Oh z3_0 h3_0_0 h3_0_1) (Kj z3_0 h3_0_0 h3_0_1) c):=fun _ _ _ _ _=>by
 kernel_rfl
theorem ale:bS PD Xw (aY Xx 0) xK:=bA fun s e s' h=>by
 generalize hs:restrict xK.kp s=s1 at h
 have h:(abv s1).run some=some (e,s'):=h
 obtain ⟨e1,h_0⟩:=bf h
 obtain ⟨z4,d3,e2,h_1⟩:=aD h_0
 obtain ⟨d6,e5,h_2⟩:=ak h_1
 obtain ⟨d8,e7,h_3⟩:=ak h_2
 obtain ⟨m10,d11,e9,h_4⟩:=aH h_3
 obtain ⟨rfl,h_5⟩:=aQ h_4
 obtain ⟨y,hy,hz⟩:=bT h_5
 refine ⟨_,_,Oh z4 d3 d6,Kj z4 d3 d6,zW d3 d6,(d8,d11),y,?_,hy,?_,ahs z4 d3 d6⟩
 ·subst hs;exact aT (T:=[(5,(.ref (7,0) [])),(10,(.imm z4 (.sl (.int .i64)) d3)),(11,(.imm true (.int .i64) d6)),(12,(.imm true (.int .i64) d8))]) (U:=[((7,0),some ⟨false,(.sl (.int .i64)),.own,d11⟩)]) rfl rfl ⟨e1,e2,e5,e7,trivial⟩ ⟨e9,trivial⟩
 ·exact Option.some.inj hz
def amw:FnI:=⟨Xx,Tryz.f34.results.toList,Tryz.f34.resultTypes.toList,Xw⟩
def afN (_zp0:Bool) (_zp1:Bool) (_p0:List Int) (_p1:List Int):(List Int)→aB:=fun r=>⟨(.ref (1,0) []),[],[⟨false,(.sl (.int .i64)),.own,r⟩]⟩
theorem arZ:∀(zp0:Bool)(zp1:Bool)(p0:List Int)(p1:List Int),bN PD amw ⟨[(.imm zp0 (.sl (.int .i64)) p0),(.imm zp1 (.sl (.int .i64)) p1)],[]⟩=(anI p0 p1).run fun r=>some (afN zp0 zp1 p0 p1 r):=fun _ _ _ _=>by kernel_rfl
def amv (av:List AV) (rs:List Root):Tre aB:=
 aJ av fun a0_ av0=>
 aJ av0 fun a1_ av1=>
 aU av1<|
 aU rs<|
 bE (.sl (.int .i64)) a0_ fun z2 d1=>
 bE (.sl (.int .i64)) a1_ fun z4 d3=>
 .mat (Jo d1 d3) fun r=>.ret (afN z2 z4 d1 d3 r)
def Xy:Ctr:=⟨[],fun ci=>amv ci.args ci.roots,false⟩
theorem apJ:bM Tryz.prog .none PD:=(aA ny asR aN)
theorem Z8:Contract Tryz.prog .none 34 Xy:=by
 have hl:aZ PD Xw Xx:=(bC (n:=1) (by kernel_rfl) fun k hk=>by
   match k,hk with
   |0,_=>exact bq (id:=3) (L:=xK) (by kernel_rfl) (by kernel_rfl) ale)
 refine (aI (F:=amw) bg apJ Tryz.func34 (by kernel_rfl) (by kernel_rfl) (by kernel_rfl) hl []).weaken ?_
 rintro ⟨av,rs⟩ co h
 have h:(amv av rs).run some=some co:=h
 obtain ⟨a0_,av0,rfl,h_0⟩:=au h
 obtain ⟨a1_,av1,rfl,h_1⟩:=au h_0
 obtain ⟨rfl,h_2⟩:=ay h_1
 obtain ⟨rfl,h_3⟩:=ay h_2
 obtain ⟨z2,d1,rfl,h_4⟩:=aD h_3
 obtain ⟨z4,d3,rfl,h_5⟩:=aD h_4
 exact bJ (arZ z2 z4 d1 d3) h_5
def DI (p0:Int) (p1:Int):Tre Bool:=
 .ite (0≤p1)<|
 let v1:=ahy .i64 (aak .i64 p0 p1) 1
 .ret (decide (v1=1))
def Kq (p0:Int) (p1:Int):Option Bool:=(DI p0 p1).run some
def axG(x j:Int):Option Bool:=ak1 (decide (0≤j)) (CJ x j)
theorem Uj(p0 p1:Int)(y:Bool)(h:axG p0 p1=some y):Kq p0 p1=some y:=by
 obtain ⟨hl,rfl⟩:=Ao h
 unfold Kq DI
 rw [Tre.run_ite,if_pos (of_decide_eq_true hl)]
 rfl
def zY:Env:=⟨tau,[],[]⟩
def Ku:Code:=(Tryz.f100.body).getD .skip
def Kt:FnI:=⟨Ku,Tryz.f100.results.toList,Tryz.f100.resultTypes.toList,[]⟩
def FT (_p0:Int) (p1:Int):Bool→aB:=fun r=>⟨(.imm true .bool r),[⟨true,(.int .i64),.own,p1⟩],[]⟩
theorem Yd:∀(p0:Int)(p1:Int),bN zY Kt ⟨[(.imm true (.int .i64) p0),(.ptr (0,0) [])],[⟨true,(.int .i64),.own,p1⟩]⟩=(DI p0 p1).run fun r=>some (FT p0 p1 r):=fun _ _=>by kernel_rfl
def Kr (av:List AV) (rs:List Root):Tre aB:=
 aJ av fun a0_ av0=>
 aJ av0 fun a1_ av1=>
 aU av1<|
 aJ rs fun r0_ rs0=>
 aU rs0<|
 aC true (.int .i64) a0_ fun d1=>
 dU (0,0) [] a1_<|
 Js true (.int .i64) r0_ fun m2 d3=>
 asM .own m2<|
 .mat (axG d1 d3) fun r=>.ret (FT d1 d3 r)
def Kv:Ctr:=⟨[],fun ci=>Kr ci.args ci.roots,false⟩
theorem Vj:bM Tryz.prog .none zY:=aN
theorem Ye:Contract Tryz.prog .none 100 Kv:=by
 have hl:aZ zY [] Ku:=bB (by kernel_rfl)
 refine (aI (F:=Kt) bg Vj Tryz.func100 (by kernel_rfl) (by kernel_rfl) (by kernel_rfl) hl []).weaken ?_
 rintro ⟨av,rs⟩ co h
 have h:(Kr av rs).run some=some co:=h
 obtain ⟨a0_,av0,rfl,h_0⟩:=au h
 obtain ⟨a1_,av1,rfl,h_1⟩:=au h_0
 obtain ⟨rfl,h_2⟩:=ay h_1
 obtain ⟨r0_,rs0,rfl,h_3⟩:=au h_2
 obtain ⟨rfl,h_4⟩:=ay h_3
 obtain ⟨d1,rfl,h_5⟩:=ak h_4
 obtain ⟨rfl,h_6⟩:=bF h_5
 obtain ⟨m2,d3,rfl,h_7⟩:=eY h_6
 obtain ⟨rfl,h_8⟩:=aQ h_7
 exact xg (Yd d1 d3) (Uj d1 d3) h_8
def aeJ (h2_0_0:List Int) (h2_0_1:Int) (h2_0_3:Int):Int→Tre (Int ⊕ (Int ⊕ Unit)):=fun s2=>
 .cond (decide (s2<h2_0_1))
  (.ite (0≤s2∧s2<(h2_0_0.length:Int))<|
  .mat (h2_0_0[s2.toNat]?) fun x1=>
  .mat (axG x1 h2_0_3) fun r2=>
  .cond r2
   (.ret (.inr (.inl s2)))
   (.ret (.inl (aP .i64 (s2+1)))))
  (.ret (.inr (.inr ())))
def nm6 (p0:List Int) (p1:Int):Tre Int:=
 .mat (aR (aeJ p0 (p0.length:Int) p1) 0) fun l3=>
 .alt l3
  (fun a4=>
   .ret a4)
  (fun _=>
   .ret (-1))
def azK (p0:List Int) (p1:Int):Option Int:=(nm6 p0 p1).run some
def axR(xs:List Int)(j:Int):Option Int:=ak1 (decide (0≤j)&&decide (xs.length≤1048576)) (oq (fun x=>CJ x j) 0 xs)
theorem awM(p0:List Int)(p1:Int)(y:Int)(h:axR p0 p1=some y):azK p0 p1=some y:=by
 obtain ⟨hl,rfl⟩:=Ao h
 rw [Bool.and_eq_true] at hl
 obtain ⟨hm,hl⟩:=hl
 have hl:=of_decide_eq_true hl
 unfold azK nm6
 rw [Tre.oF,OT (xs:=p0) (fun i x=>cond (CJ x p1) (some (.inl (i:Int))) none) (.inr ())]
 ·rw [Option.bind_some,←Xq (p:=fun x=>CJ x p1)]
  generalize UG _ _ _ _=r
  cases r<;>rfl
 ·intro i x hx
  have hi:i<p0.length:=(List.getElem?_eq_some_iff.1 hx).1
  unfold aeJ
  rw [dP hx,ah (show axG x p1=some _ from pV hm),Tre.aG]
  cases CJ x p1
  ·simp only [cond_false,Tre.aK,aV (show i<4611686018427387904 by omega)]
  ·rfl
 ·unfold aeJ
  exact dw
def aqp:Env:=⟨tau,[(100,Kv)],[]⟩
def atv:Code:=(Tryz.f99.body).getD .skip
def aeK (z2_0:Bool) (h2_0_0:List Int) (h2_0_1:Int) (h2_0_3:Int):Int→St:=fun x=>bR [(0,(.imm z2_0 (.sl (.int .i64)) h2_0_0)),(1,(.fn 100 [(0,0)])),(7,(.imm true (.int .i64) h2_0_1)),(8,(.imm true (.int .i64) x))] [((0,0),some ⟨true,(.int .i64),.own,h2_0_3⟩)]
def Rt (_z2_0:Bool) (_h2_0_0:List Int) (_h2_0_1:Int) (h2_0_3:Int):(Int ⊕ Unit)→Ex×St
 |.inl x=>(.ret,bR [(4,(.imm true (.int .i64) x))] [((0,0),some ⟨true,(.int .i64),.own,h2_0_3⟩)])
 |.inr _=>(.exit 0,bR [(4,.dead)] [((0,0),some ⟨true,(.int .i64),.own,h2_0_3⟩)])
def aqr (s:St):Tre (Ex×St):=
 bE (.sl (.int .i64)) (s.tmps 0) fun z3 d2=>
 aa4 100 [(0,0)] (s.tmps 1)<|
 aC true (.int .i64) (s.tmps 7) fun d6=>
 aC true (.int .i64) (s.tmps 8) fun d8=>
 bD true (.int .i64) (s.roots (0,0)) fun m10 d11=>
 asM .own m10<|
 .mat (aR (aeJ d2 d6 d11) d8) fun x=>.alt x (fun a0=>.ret (Rt z3 d2 d6 d11 (.inl a0))) (fun b0=>.ret (Rt z3 d2 d6 d11 (.inr b0)))
def PY:bK:=⟨([0,1,7,8],[(0,0)]),([4],[(0,0)]),aqr⟩
def atu:List (Nat×bK):=[(2,PY)]
theorem aqs:∀(z2_0:Bool)(h2_0_0:List Int)(h2_0_1:Int)(h2_0_3:Int)(x:Int)(c:St→Option (Ex×St)),den aqp atu (aY atv 0) (aeK z2_0 h2_0_0 h2_0_1 h2_0_3 x) (bU PY.kp PY.kx c)=(aeJ h2_0_0 h2_0_1 h2_0_3 x).run (bV (aeK z2_0 h2_0_0 h2_0_1 h2_0_3) (Rt z2_0 h2_0_0 h2_0_1 h2_0_3) c):=fun _ _ _ _ _ _=>by
 kernel_rfl
theorem auG:bS aqp atu (aY atv 0) PY:=bA fun s e s' h=>by
 generalize hs:restrict PY.kp s=s1 at h
 have h:(aqr s1).run some=some (e,s'):=h
 obtain ⟨z3,d2,e1,h_0⟩:=aD h
 obtain ⟨e4,h_1⟩:=nK h_0
 obtain ⟨d6,e5,h_2⟩:=ak h_1
 obtain ⟨d8,e7,h_3⟩:=ak h_2
 obtain ⟨m10,d11,e9,h_4⟩:=aH h_3
 obtain ⟨rfl,h_5⟩:=aQ h_4
 obtain ⟨y,hy,hz⟩:=jR h_5
 refine ⟨_,_,aeK z3 d2 d6 d11,Rt z3 d2 d6 d11,aeJ d2 d6 d11,d8,y,?_,hy,?_,aqs z3 d2 d6 d11⟩
 ·subst hs;exact aT (T:=[(0,(.imm z3 (.sl (.int .i64)) d2)),(1,(.fn 100 [(0,0)])),(7,(.imm true (.int .i64) d6)),(8,(.imm true (.int .i64) d8))]) (U:=[((0,0),some ⟨true,(.int .i64),.own,d11⟩)]) rfl rfl ⟨e1,e4,e5,e7,trivial⟩ ⟨e9,trivial⟩
 ·rcases y with x|x<;>exact Option.some.inj hz
def azM:FnI:=⟨atv,Tryz.f99.results.toList,Tryz.f99.resultTypes.toList,atu⟩
def atw (_zp0:Bool) (_p0:List Int) (p1:Int):Int→aB:=fun r=>⟨(.imm true (.int .i64) r),[⟨true,(.int .i64),.own,p1⟩],[]⟩
theorem aAI:∀(zp0:Bool)(p0:List Int)(p1:Int),bN aqp azM ⟨[(.imm zp0 (.sl (.int .i64)) p0),(.fn 100 [(0,0)])],[⟨true,(.int .i64),.own,p1⟩]⟩=(nm6 p0 p1).run fun r=>some (atw zp0 p0 p1 r):=fun _ _ _=>by kernel_rfl
def azL (av:List AV) (rs:List Root):Tre aB:=
 aJ av fun a0_ av0=>
 aJ av0 fun a1_ av1=>
 aU av1<|
 aJ rs fun r0_ rs0=>
 aU rs0<|
 bE (.sl (.int .i64)) a0_ fun z2 d1=>
 aa4 100 [(0,0)] a1_<|
 Js true (.int .i64) r0_ fun m3 d4=>
 asM .own m3<|
 .mat (axR d1 d4) fun r=>.ret (atw z2 d1 d4 r)
def azN:Ctr:=⟨[],fun ci=>azL ci.args ci.roots,false⟩
theorem ayq:bM Tryz.prog .none aqp:=(aA Ye azY aN)
theorem aAJ:Contract Tryz.prog .none 99 azN:=by
 have hl:aZ aqp atu atv:=(bC (n:=1) (by kernel_rfl) fun k hk=>by
   match k,hk with
   |0,_=>exact bq (id:=2) (L:=PY) (by kernel_rfl) (by kernel_rfl) auG)
 refine (aI (F:=azM) bg ayq Tryz.func99 (by kernel_rfl) (by kernel_rfl) (by kernel_rfl) hl []).weaken ?_
 rintro ⟨av,rs⟩ co h
 have h:(azL av rs).run some=some co:=h
 obtain ⟨a0_,av0,rfl,h_0⟩:=au h
 obtain ⟨a1_,av1,rfl,h_1⟩:=au h_0
 obtain ⟨rfl,h_2⟩:=ay h_1
 obtain ⟨r0_,rs0,rfl,h_3⟩:=au h_2
 obtain ⟨rfl,h_4⟩:=ay h_3
 obtain ⟨z2,d1,rfl,h_5⟩:=aD h_4
 obtain ⟨rfl,h_6⟩:=nK h_5
 obtain ⟨m3,d4,rfl,h_7⟩:=eY h_6
 obtain ⟨rfl,h_8⟩:=aQ h_7
 exact xg (aAI z2 d1 d4) (awM d1 d4) h_8
def lZ (h10_0_0:Int) (h10_0_1:Int) (h10_0_4:Int):(Int×(List Int))→Tre ((Int×(List Int)) ⊕ (List Int)):=fun s10=>
 .cond (decide (s10.1<h10_0_1))
  (.cond (!decide (s10.1=h10_0_0))
   (.ite (0≤s10.1∧s10.1<(s10.2.length:Int))<|
   .mat (s10.2[s10.1.toNat]?) fun x9=>
   .ite (0≤h10_0_4)<|
   let v10:=ahy .i64 (aak .i64 x9 h10_0_4) 1
   .cond (decide (v10=1))
    (.ite (0≤s10.1∧s10.1<(s10.2.length:Int))<|
    .mat (s10.2[s10.1.toNat]?) fun x11=>
    .ite (0≤h10_0_0∧h10_0_0<(s10.2.length:Int))<|
    .mat (s10.2[h10_0_0.toNat]?) fun x12=>
    .ite (0≤s10.1∧s10.1<(s10.2.length:Int))<|
    .mat (s10.2[s10.1.toNat]?) fun _=>
    let v14:=s10.2.set s10.1.toNat (jJ .i64 x11 x12)
    .ret (.inl (aP .i64 (s10.1+1),v14)))
    (.ret (.inl (aP .i64 (s10.1+1),s10.2))))
   (.ret (.inl (aP .i64 (s10.1+1),s10.2))))
  (.ret (.inr s10.2))
def iJ:(Int×(List Int)×Int)→Tre ((Int×(List Int)×Int) ⊕ (Int×(List Int))):=fun s4=>
 .cond (decide (s4.2.2<62))
  (.cond (decide (s4.1<(s4.2.1.length:Int)))
   (.ite (0≤s4.1∧s4.1≤(s4.2.1.length:Int)∧(s4.2.1.length:Int)≤(s4.2.1.length:Int))<|
   .mat (axR ((s4.2.1.drop s4.1.toNat).take (((s4.2.1.length:Int)-s4.1).toNat)) s4.2.2) fun r2=>
   .cond (decide (r2<0))
    (.ret (.inl (s4.1,s4.2.1,aP .i64 (s4.2.2+1))))
    (.ite (0≤aP .i64 (s4.1+r2)∧aP .i64 (s4.1+r2)<(s4.2.1.length:Int))<|
    .mat (s4.2.1[(aP .i64 (s4.1+r2)).toNat]?) fun x3=>
    .ite (0≤s4.1∧s4.1<(s4.2.1.length:Int))<|
    .mat (s4.2.1[s4.1.toNat]?) fun x4=>
    .ite (0≤s4.1∧s4.1<(s4.2.1.length:Int))<|
    .mat (s4.2.1[s4.1.toNat]?) fun _=>
    let v6:=s4.2.1.set s4.1.toNat x3
    .ite (0≤aP .i64 (s4.1+r2)∧aP .i64 (s4.1+r2)<(v6.length:Int))<|
    .mat (v6[(aP .i64 (s4.1+r2)).toNat]?) fun _=>
    let v8:=v6.set ((aP .i64 (s4.1+r2)).toNat) x4
    .mat (aR (lZ s4.1 (v8.length:Int) s4.2.2) (0,v8)) fun l15=>
    .ret (.inl (aP .i64 (s4.1+1),l15,aP .i64 (s4.2.2+1)))))
   (.ret (.inr (s4.1,s4.2.1))))
  (.ret (.inr (s4.1,s4.2.1)))
def aee (p0:List Int):Tre (List Int):=
 .mat (gH p0) fun r1=>
 .mat (aR iJ (0,r1,0)) fun l16=>
 .ite (0≤(0:Int)∧(0:Int)≤l16.1∧l16.1≤(l16.2.length:Int))<|
 .ret ((l16.2.drop 0).take ((l16.1-0).toNat))
def afO (p0:List Int):Option (List Int):=(aee p0).run some
def auh (xs:List Int):Option (List Int):=ak1 (KH 62 xs) (adY xs)
theorem ai8(k c r:Nat)(hc:c≤62)(hr:r<2 ^ 62)(A B:List Nat)(hk:A.length=k)(hb:∀n∈A++r::B,n<2 ^ 62)(hl:(A++r::B).length≤1048576) :
  aR (lZ (k:Int) ((A++r::B).length:Int) (c:Int)) (0,up (A++r::B))=some (up (A.map (iM c r)++r::B.map (iM c r))):=by
 have hkr:(A++r::B)[k]?=some r:=by rw [List.getElem?_append_right (by omega),hk];simp
 generalize hL:A++r::B=l at *
 have:=amT (step:=lZ (k:Int) (l.length:Int) (c:Int)) (fun i x=>if i=k then x else iM c r x) l id (by
  intro i x hx
  have hi:i<l.length:=(List.getElem?_eq_some_iff.1 hx).1
  have hx2:=aq7 (aif (g:=fun i x=>if i=k then x else iM c r x) (i:=i) hx)
  rw [if_neg (Nat.lt_irrefl i)] at hx2
  have hr2:=aq7 (aif (g:=fun i x=>if i=k then x else iM c r x) (i:=i) hkr)
  simp only [if_true,ite_self] at hr2
  have hxb:=hb x (List.mem_of_getElem? hx)
  rw [←aqv hx]
  generalize hP:AX (fun i x=>if i=k then x else iM c r x) i l=P at *
  have hset:(up P).set i (x:Int)=up P:=List.ext_getElem? fun j=>by
   rw [List.getElem?_set]
   by_cases hj:i=j
   ·subst hj;rw [if_pos rfl,hx2,if_pos (List.getElem?_eq_some_iff.1 hx2).1]
   ·rw [if_neg hj]
  unfold lZ
  rw [Tre.aG]
  show cond (decide ((i:Int)<(l.length:Int))) _ _=_
  rw [show decide ((i:Int)<(l.length:Int))=true from by simpa using hi,cond_true,Tre.aG]
  show cond (!decide ((i:Int)=(k:Int))) _ _=_
  by_cases hik:i=k
  ·rw [show decide ((i:Int)=(k:Int))=true from decide_eq_true (by omega),Bool.not_true,cond_false,Tre.aK,aV (by omega),if_pos hik,←Xl,hset]
  ·rw [show decide ((i:Int)=(k:Int))=false from decide_eq_false (by omega),Bool.not_false,cond_true,dF hx2,Tre.run_ite,if_pos (by omega),Tre.aG,if_neg hik]
   show cond (CJ (x:Int) (c:Int)) _ _=_
   rw [Jm (by omega) (by omega)]
   have he:iM c r x=cond (x.testBit c) (x^^^r) x:=rfl
   rw [he]
   cases x.testBit c
   ·rw [cond_false,Tre.aK,aV (by omega),cond_false,←Xl,hset]
   ·rw [cond_true,dF hx2,dF hr2,dF hx2,Tre.aK,aV (by omega),ou (by omega) (by omega),Int.toNat_natCast,cond_true,←Xl])
  (by
  unfold lZ
  exact dw)
 rw [this,←hL,aoa (f:=iM c r) (g:=fun i x=>if i=k then x else iM c r x) (r:=r) (B:=B) hk (fun i x h=>if_neg h) (if_pos rfl)]
 rfl
theorem ai9(orig:List Nat):∀(n c:Nat)(E:List (Nat×Nat))(R:List Nat),c+n=62→Inv orig c E R→E.length+R.length≤1048576→(∀x∈R,x<2 ^ 62)→(∀a∈E,a.2<2 ^ 62) →
  ∃(E' L:List Nat),aR iJ ((E.length:Int),up (E.map (·.2)++R),(c:Int))=some ((E'.length:Int),up (E'++L))∧u6 orig E':=by
 intro n
 induction n with
 |zero=>
  intro c E R hc hI _ hR _
  have:c=62:=hc
  subst this
  refine ⟨E.map (·.2),R,fB ?_,hI.done fun x hx=>adF (hR x hx) (hI.low x hx)⟩
  unfold iJ
  simp [Tre.aG,Tre.aK]
 |succ n ih=>
  intro c E R hc hI hl hR hEb
  have hcm:c<62:=by omega
  have hlen:(up (E.map (·.2)++R)).length=E.length+R.length:=by rw [Hy];simp
  by_cases hR0:R=[]
  ·subst hR0
   refine ⟨E.map (·.2),[],fB ?_,hI.done fun x hx=>by cases hx⟩
   unfold iJ
   simp [Tre.aG,Tre.aK]
  have hRl:0<R.length:=List.length_pos_iff.2 hR0
  have hstep:∀E2 R2,Inv orig (c+1) E2 R2→E2.length+R2.length≤1048576→(∀x∈R2,x<2 ^ 62)→(∀a∈E2,a.2<2 ^ 62)→(iJ ((E.length:Int),up (E.map (·.2)++R),(c:Int))).run some=some (.inl ((E2.length:Int),up (E2.map (·.2)++R2),((c+1:Nat):Int))) →
    ∃(E' L:List Nat),aR iJ ((E.length:Int),up (E.map (·.2)++R),(c:Int))=some ((E'.length:Int),up (E'++L))∧u6 orig E':=by
   intro E2 R2 h1 h2 h3 h4 h5
   rw [mR h5]
   exact ih (c+1) E2 R2 (by omega) h1 h2 h3 h4
  have hsub:((up (E.map (·.2)++R)).drop E.length).take (((E.length+R.length:Nat):Int)-(E.length:Int)).toNat=up R:=by
   rw [show (((E.length+R.length:Nat):Int)-(E.length:Int)).toNat=R.length from by omega]
   unfold up
   rw [List.map_append,List.drop_append_of_le_length (by simp),List.drop_of_length_le (by simp),List.nil_append,List.take_of_length_le (by simp)]
  have hfind:axR (up R) (c:Int)=some _:=pV (by rw [Hy];simp;omega)
  have hw:aP .i64 ((c:Int)+1)=((c+1:Nat):Int):=aV (by omega)
  have hdec:decide ((c:Int)<62)=true:=by simp;omega
  have hdec2:decide ((E.length:Int)<((E.length+R.length:Nat):Int))=true:=by simp;omega
  rcases zZ (fun x=>CJ x (c:Int)) (up R) 0 with ⟨h1,h2⟩|⟨j,x,h1,h2,h3⟩
  ·refine hstep E R (hI.skip fun x hx=>?_) hl hR hEb ?_
   ·have:=h2 (x:Int) (List.mem_map.2 ⟨x,hx,rfl⟩)
    have hxb:=hR x hx
    rwa [Jm (by omega) (by omega)] at this
   ·unfold iJ
    dsimp only
    rw [hlen,Tre.aG,hdec,cond_true,Tre.aG,hdec2,cond_true,Tre.run_ite,if_pos (by omega),Int.toNat_natCast,hsub,ah (hfind.trans (by rw [h1])),Tre.aG]
    simp only [show decide ((-1:Int)<0)=true from rfl,cond_true,Tre.aK,hw]
  ·obtain ⟨r,hr1,rfl⟩:∃r:Nat,R[j]?=some r∧(r:Int)=x:=by
    simp only [up,List.getElem?_map,Option.map_eq_some_iff] at h1
    exact h1
   have hrm:r∈R:=List.mem_of_getElem? hr1
   have hrb:=hR r hrm
   rw [Jm (by omega) (by omega)] at h2
   rw [Nat.zero_add] at h3
   have hj:j<R.length:=(List.getElem?_eq_some_iff.1 hr1).1
   obtain ⟨y,R',rfl⟩:∃y R',R=y::R':=by
    cases R with
    |nil=>exact absurd rfl hR0
    |cons y R'=>exact ⟨y,R',rfl⟩
-- the rows behind the swap
   obtain ⟨B,hB,hB1,hB2,hBl⟩:∃B,((y::R').set 0 r).set j y=r::B∧(∀x∈B,x∈y::R')∧(∀x∈y::R',x=r∨x∈B)∧B.length=R'.length:=by
    cases j with
    |zero=>
     have hyr:y=r:=by simpa using hr1
     subst hyr
     exact ⟨R',by simp,fun x hx=>.tail _ hx,fun x hx=>by
      cases hx with
      |head=>exact .inl rfl
      |tail _ hx=>exact .inr hx,rfl⟩
    |succ j=>
     have hr1:R'[j]?=some r:=by simpa using hr1
     have hj':j<R'.length:=(List.getElem?_eq_some_iff.1 hr1).1
     refine ⟨R'.set j y,by simp,fun x hx=>?_,fun x hx=>?_,by simp⟩
     ·rcases List.mem_or_eq_of_mem_set hx with hx|rfl
      ·exact .tail _ hx
      ·exact .head _
     ·cases hx with
      |head=>exact .inr (List.mem_set hj' _)
      |tail _ hx=>
       obtain ⟨i,hi⟩:=List.getElem?_of_mem hx
       by_cases hij:j=i
       ·subst hij;rw [hr1] at hi;exact .inl (Option.some.inj hi).symm
       ·exact .inr (List.mem_of_getElem? (i:=i) (by rw [List.getElem?_set,if_neg hij,hi]))
   have hE2:((E.map fun a=>(a.1,iM c r a.2))++[(c,r)]).map (·.2)=(E.map (·.2)).map (iM c r)++[r]:=by simp [List.map_map,Function.comp_def]
   have hRB:(E.map (·.2)++r::B).length=E.length+(y::R').length:=by simp [hBl]
   have hall:∀x∈E.map (·.2)++r::B,x<2 ^ 62:=by
    intro x hx
    rcases List.mem_append.1 hx with hx|hx
    ·obtain ⟨a,ha,rfl⟩:=List.mem_map.1 hx;exact hEb a ha
    ·cases hx with
     |head=>exact hrb
     |tail _ hx=>exact hR x (hB1 x hx)
   refine hstep (E.map (fun a=>(a.1,iM c r a.2))++[(c,r)]) (B.map (iM c r)) (hI.step hrm h2 ?_ ?_) (by simp [hBl] at hl ⊢;omega) ?_ ?_ ?_
   ·intro z hz
    obtain ⟨x,hx,rfl⟩:=List.mem_map.1 hz
    exact .inr ⟨x,hB1 x hx,rfl⟩
   ·intro x hx
    rcases hB2 x hx with h|h
    ·exact .inl h
    ·exact .inr (List.mem_map.2 ⟨x,h,rfl⟩)
   ·intro z hz
    obtain ⟨x,hx,rfl⟩:=List.mem_map.1 hz
    exact aa8 hrb (hR x (hB1 x hx))
   ·intro a ha
    rcases List.mem_append.1 ha with ha|ha
    ·obtain ⟨b,hb,rfl⟩:=List.mem_map.1 ha
     exact aa8 hrb (hEb b hb)
    ·simp only [List.mem_singleton] at ha;subst ha;exact hrb
   ·have e1:=ai8 E.length c r (by omega) hrb (E.map (·.2)) B (by simp) hall (by rw [hRB];exact hl)
    have hkj:aP .i64 ((E.length:Int)+(j:Int))=((E.length+j:Nat):Int):=by rw [dN (by omega) (by omega)];omega
    have hat1:(up (E.map (·.2)++y::R'))[E.length+j]?=some (r:Int):=aq7 (by rw [List.getElem?_append_right (by simp)];simpa using hr1)
    have hat2:(up (E.map (·.2)++y::R'))[E.length]?=some (y:Int):=aq7 (by rw [List.getElem?_append_right (by simp)];simp)
    have hs1:(up (E.map (·.2)++y::R')).set E.length (r:Int)=up (E.map (·.2)++(y::R').set 0 r):=by
     rw [Xl,List.set_append_right _ _ (by simp)]
     simp
    have hs2:(up (E.map (·.2)++(y::R').set 0 r)).set (E.length+j) (y:Int)=up (E.map (·.2)++r::B):=by
     rw [Xl,List.set_append_right _ _ (by simp),←hB]
     simp
    have hat3:∃z,(up (E.map (·.2)++(y::R').set 0 r))[E.length+j]?=some z:=⟨_,List.getElem?_eq_getElem (by rw [Hy];simp at hj ⊢;omega)⟩
    obtain ⟨z,hat3⟩:=hat3
    have hlen3:((up (E.map (·.2)++r::B)).length:Int)=((E.map (·.2)++r::B).length:Int):=by rw [Hy]
    unfold iJ
    dsimp only
    rw [hlen,Tre.aG,hdec,cond_true,Tre.aG,hdec2,cond_true,Tre.run_ite,if_pos (by omega),Int.toNat_natCast,hsub,ah (hfind.trans (by rw [h3])),Tre.aG]
    rw [show decide ((j:Int)<0)=false from by simp,cond_false,hkj,←hlen,dF hat1,aoi hat2,aoi hat2]
    rw [Int.toNat_natCast,hs1,aoi hat3,hs2,hlen3,ah e1,Tre.aK,aV (by omega),hw,hE2]
    simp [List.append_assoc]
theorem aja(p0:List Int)(y:List Int)(h:auh p0=some y):afO p0=some y:=by
 obtain ⟨hl,rfl⟩:=Ao h
 obtain ⟨ns,rfl,hlen,hb,hn⟩:=aeM hl
 obtain ⟨E,L,h1,h2⟩:=ai9 ns 62 0 [] ns (by omega) (Inv.start ns) (by simpa using hlen) hb (fun a ha=>by cases ha)
 unfold afO aee
 have e1:gH (up ns)=some (up ns):=KF (by rw [Hy];exact hlen)
 have h1:aR iJ (0,up ns,0)=some ((E.length:Int),up (E++L)):=h1
 rw [ah e1,ah h1,Tre.run_ite,if_pos (by rw [Hy];simp;omega),Tre.aK]
 unfold adY
 rw [hn,arN h2]
 simp [up]
def wB:Env:=⟨tau,[(65,kN),(99,azN)],[]⟩
def AJ:Code:=(Tryz.f64.body).getD .skip
def DC (h10_0_0:Int) (h10_0_1:Int) (h10_0_4:Int):(Int×(List Int))→St:=fun x=>bR [(0,(.ref (2,0) [])),(3,(.imm true (.int .i64) h10_0_0)),(4,(.ptr (6,0) [])),(45,(.imm true (.int .i64) h10_0_1)),(46,(.imm true (.int .i64) x.1))] [((2,0),some ⟨false,(.sl (.int .i64)),.own,x.2⟩),((6,0),some ⟨true,(.int .i64),.own,h10_0_4⟩)]
def BG (h10_0_0:Int) (_h10_0_1:Int) (h10_0_4:Int):(List Int)→Ex×St:=fun x=>(.exit 2,bR [(0,(.ref (2,0) [])),(3,(.imm true (.int .i64) h10_0_0)),(4,(.ptr (6,0) []))] [((2,0),some ⟨false,(.sl (.int .i64)),.own,x⟩),((6,0),some ⟨true,(.int .i64),.own,h10_0_4⟩)])
def Sy (s:St):Tre (Ex×St):=
 dz (2,0) [] (s.tmps 0)<|
 aC true (.int .i64) (s.tmps 3) fun d3=>
 dU (6,0) [] (s.tmps 4)<|
 aC true (.int .i64) (s.tmps 45) fun d6=>
 aC true (.int .i64) (s.tmps 46) fun d8=>
 bD false (.sl (.int .i64)) (s.roots (2,0)) fun m10 d11=>
 asM .own m10<|
 bD true (.int .i64) (s.roots (6,0)) fun m13 d14=>
 asM .own m13<|
 .mat (aR (lZ d3 d6 d14) (d8,d11)) fun x=>.ret (BG d3 d6 d14 x)
def nN:bK:=⟨([0,3,4,45,46],[(2,0),(6,0)]),([0,3,4],[(2,0),(6,0)]),Sy⟩
def Gy:(Int×(List Int)×Int)→St:=fun x=>bR [(0,(.ref (2,0) [])),(3,(.imm true (.int .i64) x.1)),(4,(.ptr (6,0) []))] [((2,0),some ⟨false,(.sl (.int .i64)),.own,x.2.1⟩),((6,0),some ⟨true,(.int .i64),.own,x.2.2⟩)]
def DF:(Int×(List Int))→Ex×St:=fun x=>(.exit 0,bR [(0,(.ref (2,0) [])),(3,(.imm true (.int .i64) x.1))] [((2,0),some ⟨false,(.sl (.int .i64)),.own,x.2⟩)])
def Vi (s:St):Tre (Ex×St):=
 dz (2,0) [] (s.tmps 0)<|
 aC true (.int .i64) (s.tmps 3) fun d3=>
 dU (6,0) [] (s.tmps 4)<|
 bD false (.sl (.int .i64)) (s.roots (2,0)) fun m6 d7=>
 asM .own m6<|
 bD true (.int .i64) (s.roots (6,0)) fun m9 d10=>
 asM .own m9<|
 .mat (aR iJ (d3,d7,d10)) fun x=>.ret (DF x)
def qm:bK:=⟨([0,3,4],[(2,0),(6,0)]),([0,3],[(2,0)]),Vi⟩
def AB:List (Nat×bK):=[(10,nN),(4,qm)]
theorem aac:∀(h10_0_0:Int)(h10_0_1:Int)(h10_0_4:Int)(x:(Int×(List Int)))(c:St→Option (Ex×St)),den wB AB (aY AJ 1) (DC h10_0_0 h10_0_1 h10_0_4 x) (bU nN.kp nN.kx c)=(lZ h10_0_0 h10_0_1 h10_0_4 x).run (bV (DC h10_0_0 h10_0_1 h10_0_4) (BG h10_0_0 h10_0_1 h10_0_4) c):=fun _ _ _ _ _=>by
 kernel_rfl
theorem aef:bS wB AB (aY AJ 1) nN:=bA fun s e s' h=>by
 generalize hs:restrict nN.kp s=s1 at h
 have h:(Sy s1).run some=some (e,s'):=h
 obtain ⟨e1,h_0⟩:=bf h
 obtain ⟨d3,e2,h_1⟩:=ak h_0
 obtain ⟨e4,h_2⟩:=bF h_1
 obtain ⟨d6,e5,h_3⟩:=ak h_2
 obtain ⟨d8,e7,h_4⟩:=ak h_3
 obtain ⟨m10,d11,e9,h_5⟩:=aH h_4
 obtain ⟨rfl,h_6⟩:=aQ h_5
 obtain ⟨m13,d14,e12,h_7⟩:=aH h_6
 obtain ⟨rfl,h_8⟩:=aQ h_7
 obtain ⟨y,hy,hz⟩:=bT h_8
 refine ⟨_,_,DC d3 d6 d14,BG d3 d6 d14,lZ d3 d6 d14,(d8,d11),y,?_,hy,?_,aac d3 d6 d14⟩
 ·subst hs;exact aT (T:=[(0,(.ref (2,0) [])),(3,(.imm true (.int .i64) d3)),(4,(.ptr (6,0) [])),(45,(.imm true (.int .i64) d6)),(46,(.imm true (.int .i64) d8))]) (U:=[((2,0),some ⟨false,(.sl (.int .i64)),.own,d11⟩),((6,0),some ⟨true,(.int .i64),.own,d14⟩)]) rfl rfl ⟨e1,e2,e4,e5,e7,trivial⟩ ⟨e9,e12,trivial⟩
 ·exact Option.some.inj hz
theorem aby:∀(x:(Int×(List Int)×Int))(c:St→Option (Ex×St)),den wB AB (aY AJ 0) (Gy x) (bU qm.kp qm.kx c)=(iJ x).run (bV (Gy) (DF) c):=fun _ _=>by
 kernel_rfl
theorem aht:bS wB AB (aY AJ 0) qm:=bA fun s e s' h=>by
 generalize hs:restrict qm.kp s=s1 at h
 have h:(Vi s1).run some=some (e,s'):=h
 obtain ⟨e1,h_0⟩:=bf h
 obtain ⟨d3,e2,h_1⟩:=ak h_0
 obtain ⟨e4,h_2⟩:=bF h_1
 obtain ⟨m6,d7,e5,h_3⟩:=aH h_2
 obtain ⟨rfl,h_4⟩:=aQ h_3
 obtain ⟨m9,d10,e8,h_5⟩:=aH h_4
 obtain ⟨rfl,h_6⟩:=aQ h_5
 obtain ⟨y,hy,hz⟩:=bT h_6
 refine ⟨_,_,Gy,DF,iJ,(d3,d7,d10),y,?_,hy,?_,aby⟩
 ·subst hs;exact aT (T:=[(0,(.ref (2,0) [])),(3,(.imm true (.int .i64) d3)),(4,(.ptr (6,0) []))]) (U:=[((2,0),some ⟨false,(.sl (.int .i64)),.own,d7⟩),((6,0),some ⟨true,(.int .i64),.own,d10⟩)]) rfl rfl ⟨e1,e2,e4,trivial⟩ ⟨e5,e8,trivial⟩
 ·exact Option.some.inj hz
def afQ:FnI:=⟨AJ,Tryz.f64.results.toList,Tryz.f64.resultTypes.toList,AB⟩
def YO (_zp0:Bool) (_p0:List Int):(List Int)→aB:=fun r=>⟨(.ref (1,0) []),[],[⟨false,(.sl (.int .i64)),.own,r⟩]⟩
theorem anJ:∀(zp0:Bool)(p0:List Int),bN wB afQ ⟨[(.imm zp0 (.sl (.int .i64)) p0)],[]⟩=(aee p0).run fun r=>some (YO zp0 p0 r):=fun _ _=>by kernel_rfl
def afP (av:List AV) (rs:List Root):Tre aB:=
 aJ av fun a0_ av0=>
 aU av0<|
 aU rs<|
 bE (.sl (.int .i64)) a0_ fun z2 d1=>
 .mat (auh d1) fun r=>.ret (YO z2 d1 r)
def Vh:Ctr:=⟨[],fun ci=>afP ci.args ci.roots,false⟩
theorem alg:bM Tryz.prog .none wB:=(aA ny asR (aA aAJ av5 aN))
theorem abz:Contract Tryz.prog .none 64 Vh:=by
 have hl:aZ wB AB AJ:=(bC (n:=2) (by kernel_rfl) fun k hk=>by
   match k,hk with
   |0,_=>exact bq (id:=4) (L:=qm) (by kernel_rfl) (by kernel_rfl) aht
   |1,_=>exact bq (id:=10) (L:=nN) (by kernel_rfl) (by kernel_rfl) aef)
 refine (aI (F:=afQ) bg alg Tryz.func64 (by kernel_rfl) (by kernel_rfl) (by kernel_rfl) hl []).weaken ?_
 rintro ⟨av,rs⟩ co h
 have h:(afP av rs).run some=some co:=h
 obtain ⟨a0_,av0,rfl,h_0⟩:=au h
 obtain ⟨rfl,h_1⟩:=ay h_0
 obtain ⟨rfl,h_2⟩:=ay h_1
 obtain ⟨z2,d1,rfl,h_3⟩:=aD h_2
 exact xg (anJ z2 d1) (aja d1) h_3
def ajd (p0:List Int):Tre Int:=
 .mat (auh p0) fun r1=>
 .ret (r1.length:Int)
def Ky (p0:List Int):Option Int:=(ajd p0).run some
-- more
theorem as1{f:TF3}(hf:aO f=true){L:List Nat}(h:inL (FOf f hf) L)(hl:L.length≤1000):Ky (aS L)=some (rkN L:Int):=by
 have h5:=(Xt hf).2
 unfold Ky ajd
 rw [ah (show auh (aS L)=some _ from pV (anW hf h hl (by omega))),Tre.aK,aw3]
def aad:Env:=⟨tau,[(64,Vh),(45,qp)],[]⟩
def ajg:Code:=(Tryz.f33.body).getD .skip
def ajf:FnI:=⟨ajg,Tryz.f33.results.toList,Tryz.f33.resultTypes.toList,[]⟩
def abD (_zp0:Bool) (_p0:List Int):Int→aB:=fun r=>⟨(.imm true (.int .i64) r),[],[]⟩
theorem apN:∀(zp0:Bool)(p0:List Int),bN aad ajf ⟨[(.imm zp0 (.sl (.int .i64)) p0)],[]⟩=(ajd p0).run fun r=>some (abD zp0 p0 r):=fun _ _=>by kernel_rfl
def aje (av:List AV) (rs:List Root):Tre aB:=
 aJ av fun a0_ av0=>
 aU av0<|
 aU rs<|
 bE (.sl (.int .i64)) a0_ fun z2 d1=>
 .mat (Ky d1) fun r=>.ret (abD z2 d1 r)
def aae:Ctr:=⟨[],fun ci=>aje ci.args ci.roots,false⟩
theorem anN:bM Tryz.prog .none aad:=(aA abz azi (aA tJ apy aN))
theorem afW:Contract Tryz.prog .none 33 aae:=by
 have hl:aZ aad [] ajg:=bB (by kernel_rfl)
 refine (aI (F:=ajf) bg anN Tryz.func33 (by kernel_rfl) (by kernel_rfl) (by kernel_rfl) hl []).weaken ?_
 rintro ⟨av,rs⟩ co h
 have h:(aje av rs).run some=some co:=h
 obtain ⟨a0_,av0,rfl,h_0⟩:=au h
 obtain ⟨rfl,h_1⟩:=ay h_0
 obtain ⟨rfl,h_2⟩:=ay h_1
 obtain ⟨z2,d1,rfl,h_3⟩:=aD h_2
 exact bJ (apN z2 d1) h_3
def fA (h7_0_3:Int) (h7_0_7:Int) (h7_0_10:(Int×(Int×Unit))):(Int×(List Int))→Tre ((Int×(List Int)) ⊕ (List Int)):=fun s7=>
 .cond (decide (s7.1<h7_0_7))
  (.mat (fV h7_0_10 h7_0_3 s7.1) fun r2=>
  .ite ((s7.2.length+1)*8≤bO∧1≤8)<|
  .ret (.inl (aP .i64 (s7.1+1),s7.2++([r2]))))
  (.ret (.inr s7.2))
def eT (h12_0_2:Int) (h12_0_6:Int) (h12_0_8:aM) (h12_0_9:(Int×(Int×Unit))):(Int×(List Int))→Tre ((Int×(List Int)) ⊕ (List Int)):=fun s12=>
 .cond (decide (s12.1<h12_0_6))
  (.ite (0≤h12_0_2∧h12_0_2<(h12_0_8.2.1.length:Int))<|
  .mat (h12_0_8.2.1[h12_0_2.toNat]?) fun x5=>
  .mat (fV h12_0_9 x5 s12.1) fun r6=>
  .ite ((s12.2.length+1)*8≤bO∧1≤8)<|
  .ret (.inl (aP .i64 (s12.1+1),s12.2++([r6]))))
  (.ret (.inr s12.2))
def fu (h3_0_1:Int) (h3_0_2:List Int) (h3_0_3:Int) (h3_0_5:aM) (h3_0_6:(Int×(Int×Unit))):(Int×(List (List Int)))→Tre ((Int×(List (List Int))) ⊕ (List (List Int))):=fun s3=>
 .cond (decide (s3.1<h3_0_3))
  (.ite (0≤s3.1∧s3.1<(h3_0_2.length:Int))<|
  .mat (h3_0_2[s3.1.toNat]?) fun x1=>
  .mat (aR (fA x1 (aP .i64 (h3_0_1+1)) h3_0_6) (0,[])) fun l3=>
  let v4:=aP .i64 (h3_0_1+h3_0_5.2.2.1)
  .mat (aR (eT s3.1 v4 h3_0_5 h3_0_6) (0,l3)) fun l7=>
  .ite ((s3.2.length+1)*24≤bO∧1≤24)<|
  .ret (.inl (aP .i64 (s3.1+1),s3.2++([l7]))))
  (.ret (.inr s3.2))
def zS (p0:aM) (p1:List Int):Tre (Bool×(List Int)):=
 .mat (aR (fu (dX p0) p1 (p1.length:Int) p0 p0.1) (0,[])) fun l8=>
 let v9:=aP .i64 (2*(dX p0))
 let v10:=aP .i64 ((aP .i64 (v9+1))+p0.2.2.1)
 .mat (kU p0.1 v10 l8) fun r11=>
 .alt r11
  (fun _=>
   .ret (false,[]))
  (fun b13=>
   .ite (0<b13.length)<|
   let v14:=aP .i64 ((dX p0)+1)
   .ite (0≤(0:Int)∧(0:Int)≤v14∧v14≤(b13.length:Int))<|
   let v15:=(b13.drop 0).take (v14-0).toNat
   .mat (Vr v15) fun r16=>
   .ite (0≤v14∧v14≤(b13.length:Int)∧(b13.length:Int)≤(b13.length:Int))<|
   let v17:=(b13.drop v14.toNat).take ((b13.length:Int)-v14).toNat
   .mat (Vr v17) fun r18=>
   .cond (decide ((r16.length:Int)=0))
    (.ret (false,[]))
    (.mat (xw p0.1 r18 r16 false) fun r19=>
    .cond (decide ((r19.2.length:Int)>0))
     (.ret (false,[]))
     (.cond (decide ((r19.1.length:Int)>p0.2.2.1))
      (.ret (false,[]))
      (let v20:=aP .i64 (p0.2.2.1-(r19.1.length:Int))
      .ite (0≤v20∧(r19.1.length+v20.toNat)*8≤bO∧1≤8)<|
      let v21:=r19.1++List.replicate v20.toNat 0
      .mat (iY p0 v21) fun r22=>
      .mat (Jo p1 r22) fun r23=>
      .mat (Ky r23) fun r24=>
      .ret (decide (r24≤(dX p0)),v21)))))
def kK (p0:aM) (p1:List Int):Option (Bool×(List Int)):=(zS p0 p1).run some
-- more
theorem XP(F:FO)(n x:Nat):F.Bd (n+1) x=F.Bd n x++[F.sqn n x]:=by
 unfold FO.Bd
 rw [List.range_succ,List.map_append]
 rfl
theorem atz{F:FO}{k:Nat}{A:List Nat}(h:inL F A):inL F (uW k A):=abM h fun x hx=>by rw [(List.mem_replicate.1 hx).2];exact F.zlt
def XT {f:TF3} (hf:aO f=true) (P W:List Nat) (k t:Nat):Option (List Nat):=by
 classical
 exact if (ES f (2*t+1+k) (P5 hf t k P W)).length=2*t+1+k then none else if h:∃m,aa3 hf P W k t m then some (Classical.choose h) else none
theorem amh{f:TF3}{hf:aO f=true}{P W:List Nat}{k t:Nat}(h:(ES f (2*t+1+k) (P5 hf t k P W)).length=2*t+1+k):XT hf P W k t=none:=by
 unfold XT;rw [if_pos h]
theorem Dm{f:TF3}{hf:aO f=true}{P W:List Nat}{k t:Nat}(h:∀m,¬aa3 hf P W k t m):XT hf P W k t=none:=by
 unfold XT
 split
 ·rfl
 ·rw [dif_neg fun ⟨m,hm⟩=>h m hm]
theorem amj{f:TF3}{hf:aO f=true}{P W:List Nat}{k t:Nat}{m:List Nat}(h:(ES f (2*t+1+k) (P5 hf t k P W)).length≠2*t+1+k)(hm:aa3 hf P W k t m)(hu:∀m',aa3 hf P W k t m'→m'=m):XT hf P W k t=some m:=by
 unfold XT
 rw [if_neg h,dif_pos ⟨m,hm⟩,hu _ (Classical.choose_spec (⟨m,hm⟩:∃m,aa3 hf P W k t m))]
theorem ami{f:TF3}{hf:aO f=true}{P W:List Nat}{k t:Nat}{m:List Nat}(h:XT hf P W k t=some m):aa3 hf P W k t m:=by
 unfold XT at h
 split at h
 ·cases h
 ·split at h
  ·rename_i h1
   rw [←Option.some.inj h]
   exact Classical.choose_spec h1
  ·cases h
theorem ar9{f:TF3}{P:List Nat}{k:Nat}(hk:k≤P.length)(hn:P.length≤1000):dX (f,aS P,(k:Int),())=(((P.length-k)/2:Nat):Int):=by
 unfold dX
 dsimp only
 rw [aW,show aP .i64 ((P.length:Int)-(k:Int))=((P.length-k:Nat):Int) by rw [dN (by omega) (by omega)];omega]
 rw [show Int.tdiv ((P.length-k:Nat):Int) 2=(((P.length-k)/2:Nat):Int) from (Int.ofNat_tdiv (P.length-k) 2).symm]
 exact XC (by omega)
theorem XJ{f:TF3}(hf:aO f=true){P W:List Nat}{t k:Nat}(hl:W.length=P.length):(P5 hf t k P W).length=P.length:=by
 unfold P5
 rw [List.length_map,List.length_zip,hl,Nat.min_self]
theorem amX{f:TF3}(hf:aO f=true){P W:List Nat}{t k i:Nat}(hl:W.length=P.length)(hi:i<P.length):(P5 hf t k P W)[i]?=some (aS (aqz hf t k (cf P i) (cf W i))):=by
 unfold P5
 rw [List.getElem?_map,List.getElem?_zip_eq_some.2 (show P[i]?=some (cf P i,cf W i).1∧W[i]?=some (cf P i,cf W i).2 from ⟨dV hi,dV (by omega)⟩)]
 rfl
theorem aut{f:TF3}(hf:aO f=true){P W:List Nat}{k t:Nat}(hP:inL (FOf f hf) P)(hW:inL (FOf f hf) W)(hl:W.length=P.length)(hn:P.length≤1000)(hk:k≤1000)(ht:t≤1000) :
  aR (fu (t:Int) (aS W) ((aS W).length:Int) (f,aS P,(k:Int),()) f) (0,[])=some (P5 hf t k P W):=by
 have hrl:=XJ hf (t:=t) (k:=k) hl
 refine cO (fun i=>((i:Int),(P5 hf t k P W).take i)) P.length _ (fun i hi=>?_) ?_
 ·have hwi:=dV (show i<W.length by omega)
  have hpi:=dV hi
  have ht1:aP .i64 ((t:Int)+1)=((t+1:Nat):Int):=aV (by omega)
  have htk:aP .i64 ((t:Int)+(k:Int))=((t+k:Nat):Int):=by rw [dN (by omega) (by omega)];omega
  have h1:aR (fA (cf W i:Int) ((t+1:Nat):Int) f) (0,[])=some (aS ((FOf f hf).Bd (t+1) (cf W i))):=by
   refine cO (fun j=>((j:Int),aS ((FOf f hf).Bd j (cf W i)))) (t+1) _ (fun j hj=>?_) ?_
   ·unfold fA
    dsimp only
    rw [Tre.aG,decide_eq_true (by omega),cond_true,ah (ajv hf (kR hW i) j),Tre.run_ite,if_pos (by rw [aW,FO.CB];unfold bO;omega),Tre.aK,aV (by omega),XP,wC]
    rfl
   ·unfold fA
    dsimp only
    rw [dw,Tre.aK]
  have h2:aR (eT (i:Int) ((t+k:Nat):Int) (f,aS P,(k:Int),()) f) (0,aS ((FOf f hf).Bd (t+1) (cf W i)))=some (aS (aqz hf t k (cf P i) (cf W i))):=by
   have h0:aS ((FOf f hf).Bd (t+1) (cf W i))=aS ((FOf f hf).Bd (t+1) (cf W i)++(FOf f hf).Bd 0 (cf P i)):=by
    rw [show (FOf f hf).Bd 0 (cf P i)=[] from rfl,List.append_nil]
   rw [h0]
   refine cO (fun j=>((j:Int),aS ((FOf f hf).Bd (t+1) (cf W i)++(FOf f hf).Bd j (cf P i)))) (t+k) _ (fun j hj=>?_) ?_
   ·unfold eT
    dsimp only
    rw [Tre.aG,decide_eq_true (by omega),cond_true,dF (dA hpi),ah (ajv hf (kR hP i) j),Tre.run_ite,if_pos (by rw [aW,List.length_append,FO.CB,FO.CB];unfold bO;omega),Tre.aK,aV (by omega),XP _ j,←List.append_assoc,wC (_++_) [_]]
    rfl
   ·unfold eT
    dsimp only
    rw [dw,Tre.aK]
    rfl
  unfold fu
  dsimp only
  rw [dP (dA hwi),ht1,ah h1,htk,ah h2,Tre.run_ite,if_pos (by rw [List.length_take];unfold bO;omega),Tre.aK,aV (by omega),List.take_add_one,amX hf hl hi]
  rfl
 ·unfold fu
  dsimp only
  rw [aW,hl,dw,Tre.aK,List.take_of_length_le (by omega)]
theorem aju{V N:List Nat}{t:Nat}(h:V.length=t+1):((aS (V++N)).drop 0).take (((t+1:Nat):Int)-0).toNat=aS V∧((aS (V++N)).drop ((t+1:Nat):Int).toNat).take (((aS (V++N)).length:Int)-((t+1:Nat):Int)).toNat=aS N:=by
 have hl:(aS V).length=t+1:=by rw [aW,h]
 rw [List.drop_zero,show (((t+1:Nat):Int)-0).toNat=t+1 by omega,Int.toNat_natCast,aW,List.length_append,h,wC]
 refine ⟨by rw [List.take_append_of_le_length (by omega),List.take_of_length_le (by omega)],?_⟩
 rw [List.drop_append_of_le_length (by omega),List.drop_of_length_le (by omega),List.nil_append,List.take_of_length_le (by rw [aW];omega)]
theorem ar4{f:TF3}(hf:aO f=true){P W:List Nat}{k:Nat}(hi:FO.yZ P)(hP:inL (FOf f hf) P)(hW:inL (FOf f hf) W)(hl:W.length=P.length)(hn:P.length≤10)(hk:1≤k)(hkn:k≤P.length) :
  (∃m,XT hf P W k ((P.length-k)/2)=some m∧kK (f,aS P,(k:Int),()) (aS W)=some (true,aS m))∨(XT hf P W k ((P.length-k)/2)=none∧∃M,kK (f,aS P,(k:Int),()) (aS W)=some (false,M)):=by
 generalize ht:(P.length-k)/2=t
 have hr:dX (f,aS P,(k:Int),())=(t:Int):=by rw [ar9 hkn (by omega),ht]
 have h2t:2*t+k≤P.length:=by omega
 have hrows:=aut hf hP hW hl (by omega) (show k≤1000 by omega) (show t≤1000 by omega)
 have hgr:=aqA hf (t:=t) (k:=k) hP hW
 have hrl:=XJ hf (t:=t) (k:=k) hl
 have h9:aP .i64 (2*(t:Int))=((2*t:Nat):Int):=by rw [dN (by omega) (by omega)];omega
 have h10:aP .i64 (((2*t:Nat):Int)+1)=((2*t+1:Nat):Int):=aV (by omega)
 have h11:aP .i64 (((2*t+1:Nat):Int)+(k:Int))=((2*t+1+k:Nat):Int):=by rw [dN (by omega) (by omega)];omega
 have ht1:aP .i64 ((t:Int)+1)=((t+1:Nat):Int):=aV (by omega)
 unfold kK zS
 dsimp only
 rw [hr,ah hrows,h9,h10,h11]
 rcases ar7 hf (show 2*t+1+k≤1000 by omega) hgr (by omega) with ⟨hfull,hke⟩|⟨hnf,x,hke,hker⟩
 ·exact .inr ⟨amh hfull,[],by rw [ah hke];rfl⟩
 obtain ⟨V,N,rfl,hV,hN,hVi,hNi,hx,ho⟩:=amH hf hP hW hker
 have hall:∀m,aa3 hf P W k t m→_:=fun m hm=>asO hf hi hP hW hl (by omega) hk h2t hm hV hN hVi hNi hx ho
 obtain ⟨hp1,hp2⟩:=aju (N:=N) hV
 have hxl:(aS (V++N)).length=2*t+1+k:=by rw [aW,List.length_append];omega
 have hvt:=jI V
 have hnt:=jI N
 rw [ah hke,Tre.atE,Tre.run_ite,if_pos (by omega),ht1,Tre.run_ite,if_pos (by omega),hp1,ah (apZ (by omega)),Tre.run_ite,if_pos (by omega),hp2,ah (apZ (by omega)),Tre.aG]
 by_cases hv0:bX V=[]
 ·refine .inr ⟨Dm fun m hm=>(hall m hm).1 hv0,[],?_⟩
  rw [decide_eq_true (by rw [aW,hv0];rfl)];rfl
 have hvpos:=List.length_pos_iff.2 hv0
 obtain ⟨A,R,hd1,hd2,hd3,hd4⟩:=ar5 hf (tK hNi) (tK hVi) hv0 (sZ V) (sZ N) (by omega) (by omega)
 rw [decide_eq_false (by rw [aW];omega),cond_false,ah hd1,Tre.aG]
 by_cases hR:R=[]
 ·rw [decide_eq_false (by rw [hR];show ¬((0:Nat):Int)>0;decide),cond_false,Tre.aG]
  by_cases hA:A.length≤k
  ·have hw20:aP .i64 ((k:Int)-((aS A).length:Int))=((k-A.length:Nat):Int):=by rw [aW,dN (by omega) (by omega)];omega
   have hpad:aS A++List.replicate (k-A.length) (0:Int)=aS (uW k A):=by unfold uW;rw [wC,DN]
   have hMi:=atz (k:=k) hd2.ia
   have hMl:(uW k A).length=k:=acr hA
   have hel:=(FOf f hf).Jv (m:=uW k A) hl
   rw [decide_eq_false (by rw [aW];omega),cond_false,hw20,Int.toNat_natCast,Tre.run_ite,if_pos ⟨by omega,by rw [aW];unfold bO;omega,by omega⟩,hpad]
   rw [ah (aaj hf hMi (by omega) hP (by omega) _),ah (aek hf hW hl (by omega)),ah (as1 hf ((FOf f hf).aa9 hW) (by omega)),Tre.aK]
   by_cases hrk:rkN ((FOf f hf).Bb P W (uW k A))≤t
   ·refine .inl ⟨uW k A,amj hnf ⟨hMl,hMi,hrk⟩ fun m' hm'=>?_,by rw [decide_eq_true (by omega)]⟩
    obtain ⟨he,_⟩:=(hall m' hm').2 A R hd2 hd3
    rw [he,Rv hm'.1]
   ·refine .inr ⟨Dm fun m hm=>hrk ?_,_,by rw [decide_eq_false (by omega)]⟩
    obtain ⟨he,_⟩:=(hall m hm).2 A R hd2 hd3
    rw [he,Rv hm.1]
    exact hm.2.2
  ·refine .inr ⟨Dm fun m hm=>hA ?_,[],?_⟩
   ·obtain ⟨he,_⟩:=(hall m hm).2 A R hd2 hd3
    have:=jI m
    rw [he]
    have:=hm.1
    omega
   ·rw [decide_eq_true (by rw [aW];omega)];rfl
 ·have hRp:=List.length_pos_iff.2 hR
  refine .inr ⟨Dm fun m hm=>hR ((hall m hm).2 A R hd2 hd3).2,[],?_⟩
  rw [decide_eq_true (by rw [aW];omega)];rfl
def dW:Env:=⟨tau,[(61,FB),(62,mE),(63,MB),(48,apS),(47,O7),(45,qp),(35,og),(34,Xy),(33,aae)],[(1000002,[((17,0),[],false)])]⟩
def eF:Code:=(Tryz.f32.body).getD .skip
def oQ (z7_0:Bool) (z7_1:Bool) (z7_2:Bool) (h7_0_0:List Int) (h7_0_1:Int) (h7_0_2:Int) (h7_0_3:Int) (h7_0_4:List Int) (h7_0_5:Int) (h7_0_6:Int) (h7_0_7:Int) (h7_0_9:aM) (h7_0_10:(Int×(Int×Unit))) (h7_0_11:(List (List Int))):(Int×(List Int))→St:=fun x=>bR [(1,(.imm z7_0 (.sl (.int .i64)) h7_0_0)),(2,(.ptr (4,0) [])),(6,(.ptr (8,0) [])),(7,(.imm true (.int .i64) h7_0_1)),(8,(.ref (10,0) [])),(9,(.imm true (.int .i64) h7_0_2)),(10,(.imm true (.int .i64) h7_0_3)),(11,(.ref (13,0) [])),(24,(.imm z7_1 (.sl (.int .i64)) h7_0_4)),(25,(.imm true (.int .i64) h7_0_5)),(26,(.imm true (.int .i64) h7_0_6)),(33,(.imm true (.int .i64) h7_0_7)),(34,(.imm true (.int .i64) x.1))] [((4,0),some ⟨true,aX,(.imm z7_2),h7_0_9⟩),((8,0),some ⟨true,aL,.own,h7_0_10⟩),((10,0),some ⟨false,(.sl (.sl (.int .i64))),.own,h7_0_11⟩),((13,0),some ⟨false,(.sl (.int .i64)),.own,x.2⟩)]
def nH (z7_0:Bool) (z7_1:Bool) (z7_2:Bool) (h7_0_0:List Int) (h7_0_1:Int) (h7_0_2:Int) (_h7_0_3:Int) (h7_0_4:List Int) (h7_0_5:Int) (h7_0_6:Int) (_h7_0_7:Int) (h7_0_9:aM) (h7_0_10:(Int×(Int×Unit))) (h7_0_11:(List (List Int))):(List Int)→Ex×St:=fun x=>(.exit 2,bR [(1,(.imm z7_0 (.sl (.int .i64)) h7_0_0)),(2,(.ptr (4,0) [])),(6,(.ptr (8,0) [])),(7,(.imm true (.int .i64) h7_0_1)),(8,(.ref (10,0) [])),(9,(.imm true (.int .i64) h7_0_2)),(11,(.ref (13,0) [])),(24,(.imm z7_1 (.sl (.int .i64)) h7_0_4)),(25,(.imm true (.int .i64) h7_0_5)),(26,(.imm true (.int .i64) h7_0_6))] [((4,0),some ⟨true,aX,(.imm z7_2),h7_0_9⟩),((8,0),some ⟨true,aL,.own,h7_0_10⟩),((10,0),some ⟨false,(.sl (.sl (.int .i64))),.own,h7_0_11⟩),((13,0),some ⟨false,(.sl (.int .i64)),.own,x⟩)])
def AA (s:St):Tre (Ex×St):=
 bE (.sl (.int .i64)) (s.tmps 1) fun z3 d2=>
 dU (4,0) [] (s.tmps 2)<|
 dU (8,0) [] (s.tmps 6)<|
 aC true (.int .i64) (s.tmps 7) fun d7=>
 dz (10,0) [] (s.tmps 8)<|
 aC true (.int .i64) (s.tmps 9) fun d10=>
 aC true (.int .i64) (s.tmps 10) fun d12=>
 dz (13,0) [] (s.tmps 11)<|
 bE (.sl (.int .i64)) (s.tmps 24) fun z16 d15=>
 aC true (.int .i64) (s.tmps 25) fun d18=>
 aC true (.int .i64) (s.tmps 26) fun d20=>
 aC true (.int .i64) (s.tmps 33) fun d22=>
 aC true (.int .i64) (s.tmps 34) fun d24=>
 bD true aX (s.roots (4,0)) fun m26 d27=>
 vQ m26 fun z28=>
 bD true aL (s.roots (8,0)) fun m30 d31=>
 asM .own m30<|
 bD false (.sl (.sl (.int .i64))) (s.roots (10,0)) fun m33 d34=>
 asM .own m33<|
 bD false (.sl (.int .i64)) (s.roots (13,0)) fun m36 d37=>
 asM .own m36<|
 .mat (aR (fA d12 d22 d31) (d24,d37)) fun x=>.ret (nH z3 z16 z28 d2 d7 d10 d12 d15 d18 d20 d22 d27 d31 d34 x)
def fG:bK:=⟨([1,2,6,7,8,9,10,11,24,25,26,33,34],[(4,0),(8,0),(10,0),(13,0)]),([1,2,6,7,8,9,11,24,25,26],[(4,0),(8,0),(10,0),(13,0)]),AA⟩
def nE (z12_0:Bool) (z12_1:Bool) (z12_2:Bool) (h12_0_0:List Int) (h12_0_1:Int) (h12_0_2:Int) (h12_0_3:List Int) (h12_0_4:Int) (h12_0_5:Int) (h12_0_6:Int) (h12_0_8:aM) (h12_0_9:(Int×(Int×Unit))) (h12_0_10:(List (List Int))):(Int×(List Int))→St:=fun x=>bR [(1,(.imm z12_0 (.sl (.int .i64)) h12_0_0)),(2,(.ptr (4,0) [])),(6,(.ptr (8,0) [])),(7,(.imm true (.int .i64) h12_0_1)),(8,(.ref (10,0) [])),(9,(.imm true (.int .i64) h12_0_2)),(11,(.ref (13,0) [])),(24,(.imm z12_1 (.sl (.int .i64)) h12_0_3)),(25,(.imm true (.int .i64) h12_0_4)),(26,(.imm true (.int .i64) h12_0_5)),(48,(.imm true (.int .i64) h12_0_6)),(49,(.imm true (.int .i64) x.1))] [((4,0),some ⟨true,aX,(.imm z12_2),h12_0_8⟩),((8,0),some ⟨true,aL,.own,h12_0_9⟩),((10,0),some ⟨false,(.sl (.sl (.int .i64))),.own,h12_0_10⟩),((13,0),some ⟨false,(.sl (.int .i64)),.own,x.2⟩)]
def mP (z12_0:Bool) (z12_1:Bool) (z12_2:Bool) (h12_0_0:List Int) (h12_0_1:Int) (_h12_0_2:Int) (h12_0_3:List Int) (h12_0_4:Int) (h12_0_5:Int) (_h12_0_6:Int) (h12_0_8:aM) (h12_0_9:(Int×(Int×Unit))) (h12_0_10:(List (List Int))):(List Int)→Ex×St:=fun x=>(.exit 4,bR [(1,(.imm z12_0 (.sl (.int .i64)) h12_0_0)),(2,(.ptr (4,0) [])),(6,(.ptr (8,0) [])),(7,(.imm true (.int .i64) h12_0_1)),(8,(.ref (10,0) [])),(11,(.ref (13,0) [])),(24,(.imm z12_1 (.sl (.int .i64)) h12_0_3)),(25,(.imm true (.int .i64) h12_0_4)),(26,(.imm true (.int .i64) h12_0_5))] [((4,0),some ⟨true,aX,(.imm z12_2),h12_0_8⟩),((8,0),some ⟨true,aL,.own,h12_0_9⟩),((10,0),some ⟨false,(.sl (.sl (.int .i64))),.own,h12_0_10⟩),((13,0),some ⟨false,(.sl (.int .i64)),.own,x⟩)])
def za (s:St):Tre (Ex×St):=
 bE (.sl (.int .i64)) (s.tmps 1) fun z3 d2=>
 dU (4,0) [] (s.tmps 2)<|
 dU (8,0) [] (s.tmps 6)<|
 aC true (.int .i64) (s.tmps 7) fun d7=>
 dz (10,0) [] (s.tmps 8)<|
 aC true (.int .i64) (s.tmps 9) fun d10=>
 dz (13,0) [] (s.tmps 11)<|
 bE (.sl (.int .i64)) (s.tmps 24) fun z14 d13=>
 aC true (.int .i64) (s.tmps 25) fun d16=>
 aC true (.int .i64) (s.tmps 26) fun d18=>
 aC true (.int .i64) (s.tmps 48) fun d20=>
 aC true (.int .i64) (s.tmps 49) fun d22=>
 bD true aX (s.roots (4,0)) fun m24 d25=>
 vQ m24 fun z26=>
 bD true aL (s.roots (8,0)) fun m28 d29=>
 asM .own m28<|
 bD false (.sl (.sl (.int .i64))) (s.roots (10,0)) fun m31 d32=>
 asM .own m31<|
 bD false (.sl (.int .i64)) (s.roots (13,0)) fun m34 d35=>
 asM .own m34<|
 .mat (aR (eT d10 d20 d25 d29) (d22,d35)) fun x=>.ret (mP z3 z14 z26 d2 d7 d10 d13 d16 d18 d20 d25 d29 d32 x)
def fq:bK:=⟨([1,2,6,7,8,9,11,24,25,26,48,49],[(4,0),(8,0),(10,0),(13,0)]),([1,2,6,7,8,11,24,25,26],[(4,0),(8,0),(10,0),(13,0)]),za⟩
def oP (z3_0:Bool) (z3_1:Bool) (z3_2:Bool) (h3_0_0:List Int) (h3_0_1:Int) (h3_0_2:List Int) (h3_0_3:Int) (h3_0_5:aM) (h3_0_6:(Int×(Int×Unit))):(Int×(List (List Int)))→St:=fun x=>bR [(1,(.imm z3_0 (.sl (.int .i64)) h3_0_0)),(2,(.ptr (4,0) [])),(6,(.ptr (8,0) [])),(7,(.imm true (.int .i64) h3_0_1)),(8,(.ref (10,0) [])),(24,(.imm z3_1 (.sl (.int .i64)) h3_0_2)),(25,(.imm true (.int .i64) h3_0_3)),(26,(.imm true (.int .i64) x.1))] [((4,0),some ⟨true,aX,(.imm z3_2),h3_0_5⟩),((8,0),some ⟨true,aL,.own,h3_0_6⟩),((10,0),some ⟨false,(.sl (.sl (.int .i64))),.own,x.2⟩)]
def nG (z3_0:Bool) (_z3_1:Bool) (z3_2:Bool) (h3_0_0:List Int) (h3_0_1:Int) (_h3_0_2:List Int) (_h3_0_3:Int) (h3_0_5:aM) (h3_0_6:(Int×(Int×Unit))):(List (List Int))→Ex×St:=fun x=>(.exit 0,bR [(1,(.imm z3_0 (.sl (.int .i64)) h3_0_0)),(2,(.ptr (4,0) [])),(6,(.ptr (8,0) [])),(7,(.imm true (.int .i64) h3_0_1)),(8,(.ref (10,0) []))] [((4,0),some ⟨true,aX,(.imm z3_2),h3_0_5⟩),((8,0),some ⟨true,aL,.own,h3_0_6⟩),((10,0),some ⟨false,(.sl (.sl (.int .i64))),.own,x⟩)])
def Az (s:St):Tre (Ex×St):=
 bE (.sl (.int .i64)) (s.tmps 1) fun z3 d2=>
 dU (4,0) [] (s.tmps 2)<|
 dU (8,0) [] (s.tmps 6)<|
 aC true (.int .i64) (s.tmps 7) fun d7=>
 dz (10,0) [] (s.tmps 8)<|
 bE (.sl (.int .i64)) (s.tmps 24) fun z11 d10=>
 aC true (.int .i64) (s.tmps 25) fun d13=>
 aC true (.int .i64) (s.tmps 26) fun d15=>
 bD true aX (s.roots (4,0)) fun m17 d18=>
 vQ m17 fun z19=>
 bD true aL (s.roots (8,0)) fun m21 d22=>
 asM .own m21<|
 bD false (.sl (.sl (.int .i64))) (s.roots (10,0)) fun m24 d25=>
 asM .own m24<|
 .mat (aR (fu d7 d10 d13 d18 d22) (d15,d25)) fun x=>.ret (nG z3 z11 z19 d2 d7 d10 d13 d18 d22 x)
def fF:bK:=⟨([1,2,6,7,8,24,25,26],[(4,0),(8,0),(10,0)]),([1,2,6,7,8],[(4,0),(8,0),(10,0)]),Az⟩
def eD:List (Nat×bK):=[(7,fG),(12,fq),(3,fF)]
theorem J2:∀(z7_0:Bool)(z7_1:Bool)(z7_2:Bool)(h7_0_0:List Int)(h7_0_1:Int)(h7_0_2:Int)(h7_0_3:Int)(h7_0_4:List Int)(h7_0_5:Int)(h7_0_6:Int)(h7_0_7:Int)(h7_0_9:aM)(h7_0_10:(Int×(Int×Unit)))(h7_0_11:(List (List Int)))(x:(Int×(List Int)))(c:St→Option (Ex×St)),den dW eD (aY eF 1) (oQ z7_0 z7_1 z7_2 h7_0_0 h7_0_1 h7_0_2 h7_0_3 h7_0_4 h7_0_5 h7_0_6 h7_0_7 h7_0_9 h7_0_10 h7_0_11 x) (bU fG.kp fG.kx c)=(fA h7_0_3 h7_0_7 h7_0_10 x).run (bV (oQ z7_0 z7_1 z7_2 h7_0_0 h7_0_1 h7_0_2 h7_0_3 h7_0_4 h7_0_5 h7_0_6 h7_0_7 h7_0_9 h7_0_10 h7_0_11) (nH z7_0 z7_1 z7_2 h7_0_0 h7_0_1 h7_0_2 h7_0_3 h7_0_4 h7_0_5 h7_0_6 h7_0_7 h7_0_9 h7_0_10 h7_0_11) c):=fun _ _ _ _ _ _ _ _ _ _ _ _ _ _ _ _=>by
 kernel_rfl
theorem Oc:bS dW eD (aY eF 1) fG:=bA fun s e s' h=>by
 generalize hs:restrict fG.kp s=s1 at h
 have h:(AA s1).run some=some (e,s'):=h
 obtain ⟨z3,d2,e1,h_0⟩:=aD h
 obtain ⟨e4,h_1⟩:=bF h_0
 obtain ⟨e5,h_2⟩:=bF h_1
 obtain ⟨d7,e6,h_3⟩:=ak h_2
 obtain ⟨e8,h_4⟩:=bf h_3
 obtain ⟨d10,e9,h_5⟩:=ak h_4
 obtain ⟨d12,e11,h_6⟩:=ak h_5
 obtain ⟨e13,h_7⟩:=bf h_6
 obtain ⟨z16,d15,e14,h_8⟩:=aD h_7
 obtain ⟨d18,e17,h_9⟩:=ak h_8
 obtain ⟨d20,e19,h_10⟩:=ak h_9
 obtain ⟨d22,e21,h_11⟩:=ak h_10
 obtain ⟨d24,e23,h_12⟩:=ak h_11
 obtain ⟨m26,d27,e25,h_13⟩:=aH h_12
 obtain ⟨z28,rfl,h_14⟩:=fH h_13
 obtain ⟨m30,d31,e29,h_15⟩:=aH h_14
 obtain ⟨rfl,h_16⟩:=aQ h_15
 obtain ⟨m33,d34,e32,h_17⟩:=aH h_16
 obtain ⟨rfl,h_18⟩:=aQ h_17
 obtain ⟨m36,d37,e35,h_19⟩:=aH h_18
 obtain ⟨rfl,h_20⟩:=aQ h_19
 obtain ⟨y,hy,hz⟩:=bT h_20
 refine ⟨_,_,oQ z3 z16 z28 d2 d7 d10 d12 d15 d18 d20 d22 d27 d31 d34,nH z3 z16 z28 d2 d7 d10 d12 d15 d18 d20 d22 d27 d31 d34,fA d12 d22 d31,(d24,d37),y,?_,hy,?_,J2 z3 z16 z28 d2 d7 d10 d12 d15 d18 d20 d22 d27 d31 d34⟩
 ·subst hs;exact aT (T:=[(1,(.imm z3 (.sl (.int .i64)) d2)),(2,(.ptr (4,0) [])),(6,(.ptr (8,0) [])),(7,(.imm true (.int .i64) d7)),(8,(.ref (10,0) [])),(9,(.imm true (.int .i64) d10)),(10,(.imm true (.int .i64) d12)),(11,(.ref (13,0) [])),(24,(.imm z16 (.sl (.int .i64)) d15)),(25,(.imm true (.int .i64) d18)),(26,(.imm true (.int .i64) d20)),(33,(.imm true (.int .i64) d22)),(34,(.imm true (.int .i64) d24))]) (U:=[((4,0),some ⟨true,aX,(.imm z28),d27⟩),((8,0),some ⟨true,aL,.own,d31⟩),((10,0),some ⟨false,(.sl (.sl (.int .i64))),.own,d34⟩),((13,0),some ⟨false,(.sl (.int .i64)),.own,d37⟩)]) rfl rfl ⟨e1,e4,e5,e6,e8,e9,e11,e13,e14,e17,e19,e21,e23,trivial⟩ ⟨e25,e29,e32,e35,trivial⟩
 ·exact Option.some.inj hz
theorem IK:∀(z12_0:Bool)(z12_1:Bool)(z12_2:Bool)(h12_0_0:List Int)(h12_0_1:Int)(h12_0_2:Int)(h12_0_3:List Int)(h12_0_4:Int)(h12_0_5:Int)(h12_0_6:Int)(h12_0_8:aM)(h12_0_9:(Int×(Int×Unit)))(h12_0_10:(List (List Int)))(x:(Int×(List Int)))(c:St→Option (Ex×St)),den dW eD (aY eF 2) (nE z12_0 z12_1 z12_2 h12_0_0 h12_0_1 h12_0_2 h12_0_3 h12_0_4 h12_0_5 h12_0_6 h12_0_8 h12_0_9 h12_0_10 x) (bU fq.kp fq.kx c)=(eT h12_0_2 h12_0_6 h12_0_8 h12_0_9 x).run (bV (nE z12_0 z12_1 z12_2 h12_0_0 h12_0_1 h12_0_2 h12_0_3 h12_0_4 h12_0_5 h12_0_6 h12_0_8 h12_0_9 h12_0_10) (mP z12_0 z12_1 z12_2 h12_0_0 h12_0_1 h12_0_2 h12_0_3 h12_0_4 h12_0_5 h12_0_6 h12_0_8 h12_0_9 h12_0_10) c):=fun _ _ _ _ _ _ _ _ _ _ _ _ _ _ _=>by
 kernel_rfl
theorem LW:bS dW eD (aY eF 2) fq:=bA fun s e s' h=>by
 generalize hs:restrict fq.kp s=s1 at h
 have h:(za s1).run some=some (e,s'):=h
 obtain ⟨z3,d2,e1,h_0⟩:=aD h
 obtain ⟨e4,h_1⟩:=bF h_0
 obtain ⟨e5,h_2⟩:=bF h_1
 obtain ⟨d7,e6,h_3⟩:=ak h_2
 obtain ⟨e8,h_4⟩:=bf h_3
 obtain ⟨d10,e9,h_5⟩:=ak h_4
 obtain ⟨e11,h_6⟩:=bf h_5
 obtain ⟨z14,d13,e12,h_7⟩:=aD h_6
 obtain ⟨d16,e15,h_8⟩:=ak h_7
 obtain ⟨d18,e17,h_9⟩:=ak h_8
 obtain ⟨d20,e19,h_10⟩:=ak h_9
 obtain ⟨d22,e21,h_11⟩:=ak h_10
 obtain ⟨m24,d25,e23,h_12⟩:=aH h_11
 obtain ⟨z26,rfl,h_13⟩:=fH h_12
 obtain ⟨m28,d29,e27,h_14⟩:=aH h_13
 obtain ⟨rfl,h_15⟩:=aQ h_14
 obtain ⟨m31,d32,e30,h_16⟩:=aH h_15
 obtain ⟨rfl,h_17⟩:=aQ h_16
 obtain ⟨m34,d35,e33,h_18⟩:=aH h_17
 obtain ⟨rfl,h_19⟩:=aQ h_18
 obtain ⟨y,hy,hz⟩:=bT h_19
 refine ⟨_,_,nE z3 z14 z26 d2 d7 d10 d13 d16 d18 d20 d25 d29 d32,mP z3 z14 z26 d2 d7 d10 d13 d16 d18 d20 d25 d29 d32,eT d10 d20 d25 d29,(d22,d35),y,?_,hy,?_,IK z3 z14 z26 d2 d7 d10 d13 d16 d18 d20 d25 d29 d32⟩
 ·subst hs;exact aT (T:=[(1,(.imm z3 (.sl (.int .i64)) d2)),(2,(.ptr (4,0) [])),(6,(.ptr (8,0) [])),(7,(.imm true (.int .i64) d7)),(8,(.ref (10,0) [])),(9,(.imm true (.int .i64) d10)),(11,(.ref (13,0) [])),(24,(.imm z14 (.sl (.int .i64)) d13)),(25,(.imm true (.int .i64) d16)),(26,(.imm true (.int .i64) d18)),(48,(.imm true (.int .i64) d20)),(49,(.imm true (.int .i64) d22))]) (U:=[((4,0),some ⟨true,aX,(.imm z26),d25⟩),((8,0),some ⟨true,aL,.own,d29⟩),((10,0),some ⟨false,(.sl (.sl (.int .i64))),.own,d32⟩),((13,0),some ⟨false,(.sl (.int .i64)),.own,d35⟩)]) rfl rfl ⟨e1,e4,e5,e6,e8,e9,e11,e12,e15,e17,e19,e21,trivial⟩ ⟨e23,e27,e30,e33,trivial⟩
 ·exact Option.some.inj hz
theorem JZ:∀(z3_0:Bool)(z3_1:Bool)(z3_2:Bool)(h3_0_0:List Int)(h3_0_1:Int)(h3_0_2:List Int)(h3_0_3:Int)(h3_0_5:aM)(h3_0_6:(Int×(Int×Unit)))(x:(Int×(List (List Int))))(c:St→Option (Ex×St)),den dW eD (aY eF 0) (oP z3_0 z3_1 z3_2 h3_0_0 h3_0_1 h3_0_2 h3_0_3 h3_0_5 h3_0_6 x) (bU fF.kp fF.kx c)=(fu h3_0_1 h3_0_2 h3_0_3 h3_0_5 h3_0_6 x).run (bV (oP z3_0 z3_1 z3_2 h3_0_0 h3_0_1 h3_0_2 h3_0_3 h3_0_5 h3_0_6) (nG z3_0 z3_1 z3_2 h3_0_0 h3_0_1 h3_0_2 h3_0_3 h3_0_5 h3_0_6) c):=fun _ _ _ _ _ _ _ _ _ _ _=>by
 kernel_rfl
theorem Ob:bS dW eD (aY eF 0) fF:=bA fun s e s' h=>by
 generalize hs:restrict fF.kp s=s1 at h
 have h:(Az s1).run some=some (e,s'):=h
 obtain ⟨z3,d2,e1,h_0⟩:=aD h
 obtain ⟨e4,h_1⟩:=bF h_0
 obtain ⟨e5,h_2⟩:=bF h_1
 obtain ⟨d7,e6,h_3⟩:=ak h_2
 obtain ⟨e8,h_4⟩:=bf h_3
 obtain ⟨z11,d10,e9,h_5⟩:=aD h_4
 obtain ⟨d13,e12,h_6⟩:=ak h_5
 obtain ⟨d15,e14,h_7⟩:=ak h_6
 obtain ⟨m17,d18,e16,h_8⟩:=aH h_7
 obtain ⟨z19,rfl,h_9⟩:=fH h_8
 obtain ⟨m21,d22,e20,h_10⟩:=aH h_9
 obtain ⟨rfl,h_11⟩:=aQ h_10
 obtain ⟨m24,d25,e23,h_12⟩:=aH h_11
 obtain ⟨rfl,h_13⟩:=aQ h_12
 obtain ⟨y,hy,hz⟩:=bT h_13
 refine ⟨_,_,oP z3 z11 z19 d2 d7 d10 d13 d18 d22,nG z3 z11 z19 d2 d7 d10 d13 d18 d22,fu d7 d10 d13 d18 d22,(d15,d25),y,?_,hy,?_,JZ z3 z11 z19 d2 d7 d10 d13 d18 d22⟩
 ·subst hs;exact aT (T:=[(1,(.imm z3 (.sl (.int .i64)) d2)),(2,(.ptr (4,0) [])),(6,(.ptr (8,0) [])),(7,(.imm true (.int .i64) d7)),(8,(.ref (10,0) [])),(24,(.imm z11 (.sl (.int .i64)) d10)),(25,(.imm true (.int .i64) d13)),(26,(.imm true (.int .i64) d15))]) (U:=[((4,0),some ⟨true,aX,(.imm z19),d18⟩),((8,0),some ⟨true,aL,.own,d22⟩),((10,0),some ⟨false,(.sl (.sl (.int .i64))),.own,d25⟩)]) rfl rfl ⟨e1,e4,e5,e6,e8,e9,e12,e14,trivial⟩ ⟨e16,e20,e23,trivial⟩
 ·exact Option.some.inj hz
def Fj:FnI:=⟨eF,Tryz.f32.results.toList,Tryz.f32.resultTypes.toList,eD⟩
def Bu (_zp0:Bool) (_zp1:Bool) (_p0:aM) (_p1:List Int):(Bool×(List Int))→aB:=fun r=>⟨(.tcons (.ref (1,0) []) (.tcons (.imm true .bool r.1) .tnil)),[],[⟨false,(.sl (.int .i64)),.own,r.2⟩]⟩
theorem TY:∀(zp0:Bool)(zp1:Bool)(p0:aM)(p1:List Int),bN dW Fj ⟨[(.imm zp0 aX p0),(.imm zp1 (.sl (.int .i64)) p1)],[]⟩=(zS p0 p1).run fun r=>some (Bu zp0 zp1 p0 p1 r):=fun _ _ _ _=>by kernel_rfl
def Fh (av:List AV) (rs:List Root):Tre aB:=
 aJ av fun a0_ av0=>
 aJ av0 fun a1_ av1=>
 aU av1<|
 aU rs<|
 bE aX a0_ fun z2 d1=>
 bE (.sl (.int .i64)) a1_ fun z4 d3=>
 .mat (kK d1 d3) fun r=>.ret (Bu z2 z4 d1 d3 r)
def Fp:Ctr:=⟨[],fun ci=>Fh ci.args ci.roots,false⟩
theorem QW:bM Tryz.prog .none dW:=(aA Uc aBv (aA nZ apA (aA ZY aBw (aA aus avZ (aA abl aBp (aA tJ apy (aA uS avX (aA Z8 avW (aA afW aze aN)))))))))
theorem T9:Contract Tryz.prog .none 32 Fp:=by
 have hl:aZ dW eD eF:=(bC (n:=3) (by kernel_rfl) fun k hk=>by
   match k,hk with
   |0,_=>exact bq (id:=3) (L:=fF) (by kernel_rfl) (by kernel_rfl) Ob
   |1,_=>exact bq (id:=7) (L:=fG) (by kernel_rfl) (by kernel_rfl) Oc
   |2,_=>exact bq (id:=12) (L:=fq) (by kernel_rfl) (by kernel_rfl) LW)
 refine (aI (F:=Fj) bg QW Tryz.func32 (by kernel_rfl) (by kernel_rfl) (by kernel_rfl) hl []).weaken ?_
 rintro ⟨av,rs⟩ co h
 have h:(Fh av rs).run some=some co:=h
 obtain ⟨a0_,av0,rfl,h_0⟩:=au h
 obtain ⟨a1_,av1,rfl,h_1⟩:=au h_0
 obtain ⟨rfl,h_2⟩:=ay h_1
 obtain ⟨rfl,h_3⟩:=ay h_2
 obtain ⟨z2,d1,rfl,h_4⟩:=aD h_3
 obtain ⟨z4,d3,rfl,h_5⟩:=aD h_4
 exact bJ (TY z2 z4 d1 d3) h_5
def gT (h8_0_0:List Int) (h8_0_1:Int) (h8_0_2:Int) (h8_0_4:aM):(Int×(List Int))→Tre ((Int×(List Int)) ⊕ (List Int)):=fun s8=>
 .cond (decide (s8.1≤h8_0_1))
  (.ite (0≤h8_0_2∧h8_0_2<(h8_0_0.length:Int))<|
  .mat (h8_0_0[h8_0_2.toNat]?) fun x2=>
  .mat (kH h8_0_4.1 x2 s8.1) fun r3=>
  .ite ((s8.2.length+1)*8≤bO∧1≤8)<|
  .ret (.inl (aP .i64 (s8.1+1),s8.2++([r3]))))
  (.ret (.inr s8.2))
def fU (h12_0_1:Int) (h12_0_2:Int) (h12_0_4:aM):(Int×(List Int))→Tre ((Int×(List Int)) ⊕ (List Int)):=fun s12=>
 let v5:=aP .i64 (h12_0_1+h12_0_4.2.2.1)
 .cond (decide (s12.1<v5))
  (.ite (0≤h12_0_2∧h12_0_2<(h12_0_4.2.1.length:Int))<|
  .mat (h12_0_4.2.1[h12_0_2.toNat]?) fun x6=>
  .mat (kH h12_0_4.1 x6 s12.1) fun r7=>
  .ite ((s12.2.length+1)*8≤bO∧1≤8)<|
  .ret (.inl (aP .i64 (s12.1+1),s12.2++([r7]))))
  (.ret (.inr s12.2))
def gQ (h4_0_0:List Int) (h4_0_1:Int) (h4_0_3:aM):(Int×(List (List Int)))→Tre ((Int×(List (List Int))) ⊕ (List (List Int))):=fun s4=>
 .cond (decide (s4.1<(h4_0_0.length:Int)))
  (.mat (aR (gT h4_0_0 h4_0_1 s4.1 h4_0_3) (0,[])) fun l4=>
  .mat (aR (fU h4_0_1 s4.1 h4_0_3) (0,l4)) fun l8=>
  .ite ((s4.2.length+1)*24≤bO∧1≤24)<|
  .ret (.inl (aP .i64 (s4.1+1),s4.2++([l8]))))
  (.ret (.inr s4.2))
def Em (p0:List Int) (p1:aM):Tre ((Int×Bool×(List Int)) ⊕ ((List Int)×Int×Bool)):=
 let v1:=zw (p1.2.1.length:Int) p1.2.2.1
 .mat (aR (gQ p0 v1 p1) (0,[])) fun l9=>
 let v10:=aP .i64 ((aP .i64 (2*v1))+1)
 let v11:=aP .i64 (v10+p1.2.2.1)
 .mat (A8 p1.1 v11 l9) fun r12=>
 .cond (!r12.1)
  (.ret (.inl (0,false,[])))
  (.ite (0≤aP .i64 (v1+1)∧aP .i64 (v1+1)≤(r12.2.length:Int)∧(r12.2.length:Int)≤(r12.2.length:Int))<|
  .ite (0≤(0:Int)∧(0:Int)≤aP .i64 (v1+1)∧aP .i64 (v1+1)≤(r12.2.length:Int))<|
  .mat (tX p1.1 ((r12.2.drop ((aP .i64 (v1+1)).toNat)).take (((r12.2.length:Int)-(aP .i64 (v1+1))).toNat)) ((r12.2.drop 0).take (((aP .i64 (v1+1))-0).toNat)) p1.2.2.1) fun r13=>
  .cond (!r13.2)
   (.ret (.inl (0,false,[])))
   (.mat (mM p1 r13.1) fun r14=>
   .mat (Jf p1.1 r14 p0) fun r15=>
   .cond (decide (r15>v1))
    (.ret (.inl (0,false,[])))
    (.ret (.inr (r13.1,r15,true)))))
def mZ (p0:List Int) (p1:aM):Option ((Int×Bool×(List Int)) ⊕ ((List Int)×Int×Bool)):=(Em p0 p1).run some
-- more
theorem asA{P:List Nat}{k:Nat}(hk:k≤P.length)(hn:P.length≤1000):zw ((aS P).length:Int) (k:Int)=(((P.length-k)/2:Nat):Int):=by
 unfold zw
 rw [aW,show aP .i64 ((P.length:Int)-(k:Int))=((P.length-k:Nat):Int) by rw [dN (by omega) (by omega)];omega]
 rw [show Int.tdiv ((P.length-k:Nat):Int) 2=(((P.length-k)/2:Nat):Int) from (Int.ofNat_tdiv (P.length-k) 2).symm]
 exact XC (by omega)
theorem auW{f:TF3}(hf:aO f=true){P W:List Nat}{k t:Nat}(hP:inL (FOf f hf) P)(hW:inL (FOf f hf) W)(hl:W.length=P.length)(hn:P.length≤1000)(hk:k≤1000)(ht:t≤1000) :
  aR (gQ (aS W) (t:Int) (f,aS P,(k:Int),())) (0,[])=some (P5 hf t k P W):=by
 have hrl:=XJ hf (t:=t) (k:=k) hl
 refine cO (fun i=>((i:Int),(P5 hf t k P W).take i)) P.length _ (fun i hi=>?_) ?_
 ·have hwi:=dV (show i<W.length by omega)
  have hpi:=dV hi
  have htk:aP .i64 ((t:Int)+(k:Int))=((t+k:Nat):Int):=by rw [dN (by omega) (by omega)];omega
  have h1:aR (gT (aS W) (t:Int) (i:Int) (f,aS P,(k:Int),())) (0,[])=some (aS ((FOf f hf).Bd (t+1) (cf W i))):=by
   refine cO (fun j=>((j:Int),aS ((FOf f hf).Bd j (cf W i)))) (t+1) _ (fun j hj=>?_) ?_
   ·unfold gT
    dsimp only
    rw [Tre.aG,decide_eq_true (by omega),cond_true,dF (dA hwi),ah (afw hf (kR hW i) j),Tre.run_ite,if_pos (by rw [aW,FO.CB];unfold bO;omega),Tre.aK,aV (by omega),XP,wC]
    rfl
   ·unfold gT
    dsimp only
    rw [Tre.aG,decide_eq_false (by omega),cond_false,Tre.aK]
  have h2:aR (fU (t:Int) (i:Int) (f,aS P,(k:Int),())) (0,aS ((FOf f hf).Bd (t+1) (cf W i)))=some (aS (aqz hf t k (cf P i) (cf W i))):=by
   have h0:aS ((FOf f hf).Bd (t+1) (cf W i))=aS ((FOf f hf).Bd (t+1) (cf W i)++(FOf f hf).Bd 0 (cf P i)):=by
    rw [show (FOf f hf).Bd 0 (cf P i)=[] from rfl,List.append_nil]
   rw [h0]
   refine cO (fun j=>((j:Int),aS ((FOf f hf).Bd (t+1) (cf W i)++(FOf f hf).Bd j (cf P i)))) (t+k) _ (fun j hj=>?_) ?_
   ·unfold fU
    dsimp only
    rw [htk,Tre.aG,decide_eq_true (by omega),cond_true,dF (dA hpi),ah (afw hf (kR hP i) j),Tre.run_ite,if_pos (by rw [aW,List.length_append,FO.CB,FO.CB];unfold bO;omega),Tre.aK,aV (by omega),XP _ j,←List.append_assoc,wC (_++_) [_]]
    rfl
   ·unfold fU
    dsimp only
    rw [htk,dw,Tre.aK]
    rfl
  unfold gQ
  dsimp only
  rw [Tre.aG,decide_eq_true (by rw [aW];omega),cond_true,ah h1,ah h2,Tre.run_ite,if_pos (by rw [List.length_take];unfold bO;omega),Tre.aK,aV (by omega),List.take_add_one,amX hf hl hi]
  rfl
 ·unfold gQ
  dsimp only
  rw [aW,hl,dw,Tre.aK,List.take_of_length_le (by omega)]
theorem aqS{f:TF3}(hf:aO f=true){V N:List Nat}{k:Nat}(hVi:inL (FOf f hf) V)(hNi:inL (FOf f hf) N)(hVl:V.length≤12)(hNl:N.length≤12)(hk:k≤1000) :
  (bX V=[]∧tX f (aS N) (aS V) (k:Int)=some ([],false))∨(bX V≠[]∧∃A R,TL (FOf f hf) (bX N) (bX V) A R∧R.length<(bX V).length ∧
   tX f (aS N) (aS V) (k:Int)=some (if R=[]∧A.length≤k then (aS (uW k A),true) else ([],false))):=by
 have hvt:=jI V
 have hnt:=jI N
 unfold tX OH
 rw [ah (ang (by omega)),ah (ang (by omega))]
 by_cases hv0:bX V=[]
 ·refine .inl ⟨hv0,?_⟩
  rw [hv0,ah (auY hf (tK hNi) (sZ N) (by omega)),Tre.aG,decide_eq_false (by decide),Bool.not_false,cond_true,Tre.aK]
 ·obtain ⟨A,R,h1,h2,h3,h4⟩:=aw7 hf (tK hNi) (tK hVi) hv0 (sZ V) (sZ N) (by omega) (by omega)
  refine .inr ⟨hv0,A,R,h2,h3,?_⟩
  rw [ah h1,Tre.aG,decide_eq_true rfl,Bool.not_true,cond_false,Tre.aG]
  by_cases hR:R=[]
  ·rw [decide_eq_false (by rw [hR];show ¬((0:Nat):Int)>0;decide),cond_false,Tre.aG]
   by_cases hA:A.length≤k
   ·rw [decide_eq_false (by rw [aW];omega),cond_false,Tre.run_ite,if_pos ⟨rfl,by omega,rfl,by omega,by omega⟩,Int.toNat_natCast,ah (awU hA hk),Tre.aK,if_pos ⟨hR,hA⟩]
   ·rw [decide_eq_true (by rw [aW];omega),cond_true,Tre.aK,if_neg fun h=>hA h.2]
  ·have hRp:=List.length_pos_iff.2 hR
   rw [decide_eq_true (by rw [aW];omega),cond_true,Tre.aK,if_neg fun h=>hR h.1]
theorem asw{f:TF3}(hf:aO f=true){P W:List Nat}{k:Nat}(hi:FO.yZ P)(hP:inL (FOf f hf) P)(hW:inL (FOf f hf) W)(hl:W.length=P.length)(hn:P.length≤10)(hk:1≤k)(hkn:k≤P.length) :
  (∃m,XT hf P W k ((P.length-k)/2)=some m∧mZ (aS W) (f,aS P,(k:Int),())=some (.inr (aS m,(rkN ((FOf f hf).Bb P W m):Int),true)))∨(XT hf P W k ((P.length-k)/2)=none∧mZ (aS W) (f,aS P,(k:Int),())=some (.inl (0,false,[]))):=by
 have hr:=asA (P:=P) hkn (by omega)
 generalize ht:(P.length-k)/2=t at hr ⊢
 have h2t:2*t+k≤P.length:=by omega
 have hrows:=auW hf hP hW hl (by omega) (show k≤1000 by omega) (show t≤1000 by omega)
 have hgr:=aqA hf (t:=t) (k:=k) hP hW
 have hrl:=XJ hf (t:=t) (k:=k) hl
 have h9:aP .i64 (2*(t:Int))=((2*t:Nat):Int):=by rw [dN (by omega) (by omega)];omega
 have h10:aP .i64 (((2*t:Nat):Int)+1)=((2*t+1:Nat):Int):=aV (by omega)
 have h11:aP .i64 (((2*t+1:Nat):Int)+(k:Int))=((2*t+1+k:Nat):Int):=by rw [dN (by omega) (by omega)];omega
 have ht1:aP .i64 ((t:Int)+1)=((t+1:Nat):Int):=aV (by omega)
 unfold mZ Em
 dsimp only
 rw [hr,ah hrows,h9,h10,h11]
 rcases axf hf (show 2*t+1+k≤1000 by omega) hgr (by omega) with ⟨hfull,hke⟩|⟨hnf,x,hke,hker⟩
 ·exact .inr ⟨amh hfull,by rw [ah hke];rfl⟩
 obtain ⟨V,N,rfl,hV,hN,hVi,hNi,hx,ho⟩:=amH hf hP hW hker
 have hall:∀m,aa3 hf P W k t m→_:=fun m hm=>asO hf hi hP hW hl (by omega) hk h2t hm hV hN hVi hNi hx ho
 obtain ⟨hp1,hp2⟩:=aju (N:=N) hV
 have hxl:(aS (V++N)).length=2*t+1+k:=by rw [aW,List.length_append];omega
 rw [ah hke]
 dsimp only
 rw [Tre.aG,Bool.not_true,cond_false,ht1,Tre.run_ite,if_pos (by omega),Tre.run_ite,if_pos (by omega),hp1,hp2]
 rcases aqS hf (k:=k) hVi hNi (by omega) (by omega) (by omega) with ⟨hv0,hd⟩|⟨hv0,A,R,hd2,hd3,hd⟩
 ·refine .inr ⟨Dm fun m hm=>(hall m hm).1 hv0,?_⟩
  rw [ah hd];rfl
 ·rw [ah hd]
  by_cases hc:R=[]∧A.length≤k
  ·rw [if_pos hc]
   obtain ⟨hR,hA⟩:=hc
   have hMi:=atz (k:=k) hd2.ia
   have hMl:(uW k A).length=k:=acr hA
   rw [Tre.aG,Bool.not_true,cond_false,ah (aq3 hf hMi (by omega) hP (by omega) _),ah (auU hf hW hl (by omega)),Tre.aG]
   by_cases hrk:rkN ((FOf f hf).Bb P W (uW k A))≤t
   ·refine .inl ⟨uW k A,amj hnf ⟨hMl,hMi,hrk⟩ fun m' hm'=>?_,by rw [decide_eq_false (by omega),cond_false,Tre.aK]⟩
    obtain ⟨he,_⟩:=(hall m' hm').2 A R hd2 hd3
    rw [he,Rv hm'.1]
   ·refine .inr ⟨Dm fun m hm=>hrk ?_,by rw [decide_eq_true (by omega),cond_true,Tre.aK]⟩
    obtain ⟨he,_⟩:=(hall m hm).2 A R hd2 hd3
    rw [he,Rv hm.1]
    exact hm.2.2
  ·rw [if_neg hc]
   refine .inr ⟨Dm fun m hm=>hc ?_,rfl⟩
   obtain ⟨he,hR⟩:=(hall m hm).2 A R hd2 hd3
   have:=jI m
   have:=hm.1
   exact ⟨hR,by rw [he];omega⟩
def eU:Env:=⟨tau,[(55,Zy),(56,uz),(57,ag4),(43,TD),(39,Ev),(58,adi)],[]⟩
def fT:Code:=(Tryz.f29.body).getD .skip
def sK (z8_0:Bool) (z8_1:Bool) (h8_0_0:List Int) (h8_0_1:Int) (h8_0_2:Int) (h8_0_4:aM) (h8_0_5:(List (List Int))):(Int×(List Int))→St:=fun x=>bR [(0,(.ptr (0,0) [])),(1,(.imm z8_0 (.sl (.int .i64)) h8_0_0)),(7,(.imm true (.int .i64) h8_0_1)),(8,(.ref (10,0) [])),(9,(.imm true (.int .i64) h8_0_2)),(10,(.ref (12,0) [])),(11,(.imm true (.int .i64) x.1))] [((0,0),some ⟨true,aX,(.imm z8_1),h8_0_4⟩),((10,0),some ⟨false,(.sl (.sl (.int .i64))),.own,h8_0_5⟩),((12,0),some ⟨false,(.sl (.int .i64)),.own,x.2⟩)]
def qP (z8_0:Bool) (z8_1:Bool) (h8_0_0:List Int) (h8_0_1:Int) (h8_0_2:Int) (h8_0_4:aM) (h8_0_5:(List (List Int))):(List Int)→Ex×St:=fun x=>(.exit 2,bR [(0,(.ptr (0,0) [])),(1,(.imm z8_0 (.sl (.int .i64)) h8_0_0)),(7,(.imm true (.int .i64) h8_0_1)),(8,(.ref (10,0) [])),(9,(.imm true (.int .i64) h8_0_2)),(10,(.ref (12,0) []))] [((0,0),some ⟨true,aX,(.imm z8_1),h8_0_4⟩),((10,0),some ⟨false,(.sl (.sl (.int .i64))),.own,h8_0_5⟩),((12,0),some ⟨false,(.sl (.int .i64)),.own,x⟩)])
def Da (s:St):Tre (Ex×St):=
 dU (0,0) [] (s.tmps 0)<|
 bE (.sl (.int .i64)) (s.tmps 1) fun z4 d3=>
 aC true (.int .i64) (s.tmps 7) fun d6=>
 dz (10,0) [] (s.tmps 8)<|
 aC true (.int .i64) (s.tmps 9) fun d9=>
 dz (12,0) [] (s.tmps 10)<|
 aC true (.int .i64) (s.tmps 11) fun d12=>
 bD true aX (s.roots (0,0)) fun m14 d15=>
 vQ m14 fun z16=>
 bD false (.sl (.sl (.int .i64))) (s.roots (10,0)) fun m18 d19=>
 asM .own m18<|
 bD false (.sl (.int .i64)) (s.roots (12,0)) fun m21 d22=>
 asM .own m21<|
 .mat (aR (gT d3 d6 d9 d15) (d12,d22)) fun x=>.ret (qP z4 z16 d3 d6 d9 d15 d19 x)
def iA:bK:=⟨([0,1,7,8,9,10,11],[(0,0),(10,0),(12,0)]),([0,1,7,8,9,10],[(0,0),(10,0),(12,0)]),Da⟩
def qN (z12_0:Bool) (z12_1:Bool) (h12_0_0:List Int) (h12_0_1:Int) (h12_0_2:Int) (h12_0_4:aM) (h12_0_5:(List (List Int))):(Int×(List Int))→St:=fun x=>bR [(0,(.ptr (0,0) [])),(1,(.imm z12_0 (.sl (.int .i64)) h12_0_0)),(7,(.imm true (.int .i64) h12_0_1)),(8,(.ref (10,0) [])),(9,(.imm true (.int .i64) h12_0_2)),(10,(.ref (12,0) [])),(12,(.imm true (.int .i64) x.1))] [((0,0),some ⟨true,aX,(.imm z12_1),h12_0_4⟩),((10,0),some ⟨false,(.sl (.sl (.int .i64))),.own,h12_0_5⟩),((12,0),some ⟨false,(.sl (.int .i64)),.own,x.2⟩)]
def o9 (z12_0:Bool) (z12_1:Bool) (h12_0_0:List Int) (h12_0_1:Int) (h12_0_2:Int) (h12_0_4:aM) (h12_0_5:(List (List Int))):(List Int)→Ex×St:=fun x=>(.exit 4,bR [(0,(.ptr (0,0) [])),(1,(.imm z12_0 (.sl (.int .i64)) h12_0_0)),(7,(.imm true (.int .i64) h12_0_1)),(8,(.ref (10,0) [])),(9,(.imm true (.int .i64) h12_0_2)),(10,(.ref (12,0) []))] [((0,0),some ⟨true,aX,(.imm z12_1),h12_0_4⟩),((10,0),some ⟨false,(.sl (.sl (.int .i64))),.own,h12_0_5⟩),((12,0),some ⟨false,(.sl (.int .i64)),.own,x⟩)])
def Cu (s:St):Tre (Ex×St):=
 dU (0,0) [] (s.tmps 0)<|
 bE (.sl (.int .i64)) (s.tmps 1) fun z4 d3=>
 aC true (.int .i64) (s.tmps 7) fun d6=>
 dz (10,0) [] (s.tmps 8)<|
 aC true (.int .i64) (s.tmps 9) fun d9=>
 dz (12,0) [] (s.tmps 10)<|
 aC true (.int .i64) (s.tmps 12) fun d12=>
 bD true aX (s.roots (0,0)) fun m14 d15=>
 vQ m14 fun z16=>
 bD false (.sl (.sl (.int .i64))) (s.roots (10,0)) fun m18 d19=>
 asM .own m18<|
 bD false (.sl (.int .i64)) (s.roots (12,0)) fun m21 d22=>
 asM .own m21<|
 .mat (aR (fU d6 d9 d15) (d12,d22)) fun x=>.ret (o9 z4 z16 d3 d6 d9 d15 d19 x)
def gB:bK:=⟨([0,1,7,8,9,10,12],[(0,0),(10,0),(12,0)]),([0,1,7,8,9,10],[(0,0),(10,0),(12,0)]),Cu⟩
def sJ (z4_0:Bool) (z4_1:Bool) (h4_0_0:List Int) (h4_0_1:Int) (h4_0_3:aM):(Int×(List (List Int)))→St:=fun x=>bR [(0,(.ptr (0,0) [])),(1,(.imm z4_0 (.sl (.int .i64)) h4_0_0)),(7,(.imm true (.int .i64) h4_0_1)),(8,(.ref (10,0) [])),(9,(.imm true (.int .i64) x.1))] [((0,0),some ⟨true,aX,(.imm z4_1),h4_0_3⟩),((10,0),some ⟨false,(.sl (.sl (.int .i64))),.own,x.2⟩)]
def qO (z4_0:Bool) (z4_1:Bool) (h4_0_0:List Int) (h4_0_1:Int) (h4_0_3:aM):(List (List Int))→Ex×St:=fun x=>(.exit 0,bR [(0,(.ptr (0,0) [])),(1,(.imm z4_0 (.sl (.int .i64)) h4_0_0)),(7,(.imm true (.int .i64) h4_0_1)),(8,(.ref (10,0) []))] [((0,0),some ⟨true,aX,(.imm z4_1),h4_0_3⟩),((10,0),some ⟨false,(.sl (.sl (.int .i64))),.own,x⟩)])
def C9 (s:St):Tre (Ex×St):=
 dU (0,0) [] (s.tmps 0)<|
 bE (.sl (.int .i64)) (s.tmps 1) fun z4 d3=>
 aC true (.int .i64) (s.tmps 7) fun d6=>
 dz (10,0) [] (s.tmps 8)<|
 aC true (.int .i64) (s.tmps 9) fun d9=>
 bD true aX (s.roots (0,0)) fun m11 d12=>
 vQ m11 fun z13=>
 bD false (.sl (.sl (.int .i64))) (s.roots (10,0)) fun m15 d16=>
 asM .own m15<|
 .mat (aR (gQ d3 d6 d12) (d9,d16)) fun x=>.ret (qO z4 z13 d3 d6 d12 x)
def iy:bK:=⟨([0,1,7,8,9],[(0,0),(10,0)]),([0,1,7,8],[(0,0),(10,0)]),C9⟩
def fQ:List (Nat×bK):=[(8,iA),(12,gB),(4,iy)]
theorem OG:∀(z8_0:Bool)(z8_1:Bool)(h8_0_0:List Int)(h8_0_1:Int)(h8_0_2:Int)(h8_0_4:aM)(h8_0_5:(List (List Int)))(x:(Int×(List Int)))(c:St→Option (Ex×St)),den eU fQ (aY fT 1) (sK z8_0 z8_1 h8_0_0 h8_0_1 h8_0_2 h8_0_4 h8_0_5 x) (bU iA.kp iA.kx c)=(gT h8_0_0 h8_0_1 h8_0_2 h8_0_4 x).run (bV (sK z8_0 z8_1 h8_0_0 h8_0_1 h8_0_2 h8_0_4 h8_0_5) (qP z8_0 z8_1 h8_0_0 h8_0_1 h8_0_2 h8_0_4 h8_0_5) c):=fun _ _ _ _ _ _ _ _ _=>by
 kernel_rfl
theorem RS:bS eU fQ (aY fT 1) iA:=bA fun s e s' h=>by
 generalize hs:restrict iA.kp s=s1 at h
 have h:(Da s1).run some=some (e,s'):=h
 obtain ⟨e1,h_0⟩:=bF h
 obtain ⟨z4,d3,e2,h_1⟩:=aD h_0
 obtain ⟨d6,e5,h_2⟩:=ak h_1
 obtain ⟨e7,h_3⟩:=bf h_2
 obtain ⟨d9,e8,h_4⟩:=ak h_3
 obtain ⟨e10,h_5⟩:=bf h_4
 obtain ⟨d12,e11,h_6⟩:=ak h_5
 obtain ⟨m14,d15,e13,h_7⟩:=aH h_6
 obtain ⟨z16,rfl,h_8⟩:=fH h_7
 obtain ⟨m18,d19,e17,h_9⟩:=aH h_8
 obtain ⟨rfl,h_10⟩:=aQ h_9
 obtain ⟨m21,d22,e20,h_11⟩:=aH h_10
 obtain ⟨rfl,h_12⟩:=aQ h_11
 obtain ⟨y,hy,hz⟩:=bT h_12
 refine ⟨_,_,sK z4 z16 d3 d6 d9 d15 d19,qP z4 z16 d3 d6 d9 d15 d19,gT d3 d6 d9 d15,(d12,d22),y,?_,hy,?_,OG z4 z16 d3 d6 d9 d15 d19⟩
 ·subst hs;exact aT (T:=[(0,(.ptr (0,0) [])),(1,(.imm z4 (.sl (.int .i64)) d3)),(7,(.imm true (.int .i64) d6)),(8,(.ref (10,0) [])),(9,(.imm true (.int .i64) d9)),(10,(.ref (12,0) [])),(11,(.imm true (.int .i64) d12))]) (U:=[((0,0),some ⟨true,aX,(.imm z16),d15⟩),((10,0),some ⟨false,(.sl (.sl (.int .i64))),.own,d19⟩),((12,0),some ⟨false,(.sl (.int .i64)),.own,d22⟩)]) rfl rfl ⟨e1,e2,e5,e7,e8,e10,e11,trivial⟩ ⟨e13,e17,e20,trivial⟩
 ·exact Option.some.inj hz
theorem L8:∀(z12_0:Bool)(z12_1:Bool)(h12_0_0:List Int)(h12_0_1:Int)(h12_0_2:Int)(h12_0_4:aM)(h12_0_5:(List (List Int)))(x:(Int×(List Int)))(c:St→Option (Ex×St)),den eU fQ (aY fT 2) (qN z12_0 z12_1 h12_0_0 h12_0_1 h12_0_2 h12_0_4 h12_0_5 x) (bU gB.kp gB.kx c)=(fU h12_0_1 h12_0_2 h12_0_4 x).run (bV (qN z12_0 z12_1 h12_0_0 h12_0_1 h12_0_2 h12_0_4 h12_0_5) (o9 z12_0 z12_1 h12_0_0 h12_0_1 h12_0_2 h12_0_4 h12_0_5) c):=fun _ _ _ _ _ _ _ _ _=>by
 kernel_rfl
theorem Qn:bS eU fQ (aY fT 2) gB:=bA fun s e s' h=>by
 generalize hs:restrict gB.kp s=s1 at h
 have h:(Cu s1).run some=some (e,s'):=h
 obtain ⟨e1,h_0⟩:=bF h
 obtain ⟨z4,d3,e2,h_1⟩:=aD h_0
 obtain ⟨d6,e5,h_2⟩:=ak h_1
 obtain ⟨e7,h_3⟩:=bf h_2
 obtain ⟨d9,e8,h_4⟩:=ak h_3
 obtain ⟨e10,h_5⟩:=bf h_4
 obtain ⟨d12,e11,h_6⟩:=ak h_5
 obtain ⟨m14,d15,e13,h_7⟩:=aH h_6
 obtain ⟨z16,rfl,h_8⟩:=fH h_7
 obtain ⟨m18,d19,e17,h_9⟩:=aH h_8
 obtain ⟨rfl,h_10⟩:=aQ h_9
 obtain ⟨m21,d22,e20,h_11⟩:=aH h_10
 obtain ⟨rfl,h_12⟩:=aQ h_11
 obtain ⟨y,hy,hz⟩:=bT h_12
 refine ⟨_,_,qN z4 z16 d3 d6 d9 d15 d19,o9 z4 z16 d3 d6 d9 d15 d19,fU d6 d9 d15,(d12,d22),y,?_,hy,?_,L8 z4 z16 d3 d6 d9 d15 d19⟩
 ·subst hs;exact aT (T:=[(0,(.ptr (0,0) [])),(1,(.imm z4 (.sl (.int .i64)) d3)),(7,(.imm true (.int .i64) d6)),(8,(.ref (10,0) [])),(9,(.imm true (.int .i64) d9)),(10,(.ref (12,0) [])),(12,(.imm true (.int .i64) d12))]) (U:=[((0,0),some ⟨true,aX,(.imm z16),d15⟩),((10,0),some ⟨false,(.sl (.sl (.int .i64))),.own,d19⟩),((12,0),some ⟨false,(.sl (.int .i64)),.own,d22⟩)]) rfl rfl ⟨e1,e2,e5,e7,e8,e10,e11,trivial⟩ ⟨e13,e17,e20,trivial⟩
 ·exact Option.some.inj hz
theorem OE:∀(z4_0:Bool)(z4_1:Bool)(h4_0_0:List Int)(h4_0_1:Int)(h4_0_3:aM)(x:(Int×(List (List Int))))(c:St→Option (Ex×St)),den eU fQ (aY fT 0) (sJ z4_0 z4_1 h4_0_0 h4_0_1 h4_0_3 x) (bU iy.kp iy.kx c)=(gQ h4_0_0 h4_0_1 h4_0_3 x).run (bV (sJ z4_0 z4_1 h4_0_0 h4_0_1 h4_0_3) (qO z4_0 z4_1 h4_0_0 h4_0_1 h4_0_3) c):=fun _ _ _ _ _ _ _=>by
 kernel_rfl
theorem RQ:bS eU fQ (aY fT 0) iy:=bA fun s e s' h=>by
 generalize hs:restrict iy.kp s=s1 at h
 have h:(C9 s1).run some=some (e,s'):=h
 obtain ⟨e1,h_0⟩:=bF h
 obtain ⟨z4,d3,e2,h_1⟩:=aD h_0
 obtain ⟨d6,e5,h_2⟩:=ak h_1
 obtain ⟨e7,h_3⟩:=bf h_2
 obtain ⟨d9,e8,h_4⟩:=ak h_3
 obtain ⟨m11,d12,e10,h_5⟩:=aH h_4
 obtain ⟨z13,rfl,h_6⟩:=fH h_5
 obtain ⟨m15,d16,e14,h_7⟩:=aH h_6
 obtain ⟨rfl,h_8⟩:=aQ h_7
 obtain ⟨y,hy,hz⟩:=bT h_8
 refine ⟨_,_,sJ z4 z13 d3 d6 d12,qO z4 z13 d3 d6 d12,gQ d3 d6 d12,(d9,d16),y,?_,hy,?_,OE z4 z13 d3 d6 d12⟩
 ·subst hs;exact aT (T:=[(0,(.ptr (0,0) [])),(1,(.imm z4 (.sl (.int .i64)) d3)),(7,(.imm true (.int .i64) d6)),(8,(.ref (10,0) [])),(9,(.imm true (.int .i64) d9))]) (U:=[((0,0),some ⟨true,aX,(.imm z13),d12⟩),((10,0),some ⟨false,(.sl (.sl (.int .i64))),.own,d16⟩)]) rfl rfl ⟨e1,e2,e5,e7,e8,trivial⟩ ⟨e10,e14,trivial⟩
 ·exact Option.some.inj hz
def Li:FnI:=⟨fT,Tryz.f29.results.toList,Tryz.f29.resultTypes.toList,fQ⟩
def wU (_zp0:Bool) (zp1:Bool) (_p0:List Int) (p1:aM):((Int×Bool×(List Int)) ⊕ ((List Int)×Int×Bool))→aB
 |.inl r=>⟨(.tcons (.ref (1,0) []) (.tcons (.imm true (.int .i64) r.1) (.tcons (.imm true .bool r.2.1) .tnil))),[⟨true,aX,(.imm zp1),p1⟩],[⟨false,(.sl (.int .i64)),.own,r.2.2⟩]⟩
 |.inr r=>⟨(.tcons (.imm true (.sl (.int .i64)) r.1) (.tcons (.imm true (.int .i64) r.2.1) (.tcons (.imm true .bool r.2.2) .tnil))),[⟨true,aX,(.imm zp1),p1⟩],[]⟩
theorem Yx:∀(zp0:Bool)(zp1:Bool)(p0:List Int)(p1:aM),bN eU Li ⟨[(.ptr (0,0) []),(.imm zp0 (.sl (.int .i64)) p0)],[⟨true,aX,(.imm zp1),p1⟩]⟩=(Em p0 p1).run fun r=>some (wU zp0 zp1 p0 p1 r):=fun _ _ _ _=>by kernel_rfl
def Lh (av:List AV) (rs:List Root):Tre aB:=
 aJ av fun a0_ av0=>
 aJ av0 fun a1_ av1=>
 aU av1<|
 aJ rs fun r0_ rs0=>
 aU rs0<|
 dU (0,0) [] a0_<|
 bE (.sl (.int .i64)) a1_ fun z2 d1=>
 Js true aX r0_ fun m3 d4=>
 vQ m3 fun z5=>
 .mat (mZ d1 d4) fun r=>.alt r (fun a0=>.ret (wU z2 z5 d1 d4 (.inl a0))) (fun b0=>.ret (wU z2 z5 d1 d4 (.inr b0)))
def Lj:Ctr:=⟨[],fun ci=>Lh ci.args ci.roots,false⟩
theorem WZ:bM Tryz.prog .none eU:=(aA akH aBr (aA wM apz (aA aoO aBs (aA afn aBn (aA NS azf (aA alT aBt aN))))))
theorem Yy:Contract Tryz.prog .none 29 Lj:=by
 have hl:aZ eU fQ fT:=(bC (n:=3) (by kernel_rfl) fun k hk=>by
   match k,hk with
   |0,_=>exact bq (id:=4) (L:=iy) (by kernel_rfl) (by kernel_rfl) RQ
   |1,_=>exact bq (id:=8) (L:=iA) (by kernel_rfl) (by kernel_rfl) RS
   |2,_=>exact bq (id:=12) (L:=gB) (by kernel_rfl) (by kernel_rfl) Qn)
 refine (aI (F:=Li) bg WZ Tryz.func29 (by kernel_rfl) (by kernel_rfl) (by kernel_rfl) hl []).weaken ?_
 rintro ⟨av,rs⟩ co h
 have h:(Lh av rs).run some=some co:=h
 obtain ⟨a0_,av0,rfl,h_0⟩:=au h
 obtain ⟨a1_,av1,rfl,h_1⟩:=au h_0
 obtain ⟨rfl,h_2⟩:=ay h_1
 obtain ⟨r0_,rs0,rfl,h_3⟩:=au h_2
 obtain ⟨rfl,h_4⟩:=ay h_3
 obtain ⟨rfl,h_5⟩:=bF h_4
 obtain ⟨z2,d1,rfl,h_6⟩:=aD h_5
 obtain ⟨m3,d4,rfl,h_7⟩:=eY h_6
 obtain ⟨z5,rfl,h_8⟩:=fH h_7
 exact aiV (Yx z2 z5 d1 d4) h_8 (by rintro (x|x)<;>rfl)
def su (h4_0_0:List Int) (h4_0_2:(Int×(Int×Unit))):Int→Tre (Int ⊕ (Int ⊕ Unit)):=fun s4=>
 .cond (decide (s4<(h4_0_0.length:Int)))
  (.ite (0≤s4∧s4<(h4_0_0.length:Int))<|
  .mat (h4_0_0[s4.toNat]?) fun x2=>
  .mat (wL h4_0_2) fun r3=>
  let v4:=inR x2 0 (aP .i64 (r3-1))
  .cond (!v4)
   (.ret (.inr (.inl 2)))
   (.ret (.inl (aP .i64 (s4+1)))))
  (.ret (.inr (.inr ())))
def aeY (p0:(Int×(Int×Unit))) (p1:List Int):Tre Int:=
 .mat (D9 p0) fun r1=>
 .cond (!r1)
  (.ret 1)
  (.mat (aR (su p1 p0) 0) fun l5=>
  .alt l5
   (fun a6=>
    .ret a6)
   (fun _=>
    .ret 0))
def Ng (p0:(Int×(Int×Unit))) (p1:List Int):Option Int:=(aeY p0 p1).run some
def Gb:Env:=⟨tau,[(83,XK),(87,Gd),(86,D6)],[]⟩
def Nh:Code:=(Tryz.f66.body).getD .skip
def GX (z4_0:Bool) (h4_0_0:List Int) (h4_0_2:(Int×(Int×Unit))):Int→St:=fun x=>bR [(1,(.imm z4_0 (.sl (.int .i64)) h4_0_0)),(2,(.ptr (4,0) [])),(5,(.imm true (.int .i64) x))] [((4,0),some ⟨true,aL,.own,h4_0_2⟩)]
def xS (_z4_0:Bool) (_h4_0_0:List Int) (_h4_0_2:(Int×(Int×Unit))):(Int ⊕ Unit)→Ex×St
 |.inl x=>(.ret,bR [(4,(.imm true (.int .i64) x))] [])
 |.inr _=>(.exit 0,bR [(4,.dead)] [])
def Wj (s:St):Tre (Ex×St):=
 bE (.sl (.int .i64)) (s.tmps 1) fun z3 d2=>
 dU (4,0) [] (s.tmps 2)<|
 aC true (.int .i64) (s.tmps 5) fun d6=>
 bD true aL (s.roots (4,0)) fun m8 d9=>
 asM .own m8<|
 .mat (aR (su d2 d9) d6) fun x=>.alt x (fun a0=>.ret (xS z3 d2 d9 (.inl a0))) (fun b0=>.ret (xS z3 d2 d9 (.inr b0)))
def qE:bK:=⟨([1,2,5],[(4,0)]),([4],[]),Wj⟩
def Nf:List (Nat×bK):=[(4,qE)]
theorem acP:∀(z4_0:Bool)(h4_0_0:List Int)(h4_0_2:(Int×(Int×Unit)))(x:Int)(c:St→Option (Ex×St)),den Gb Nf (aY Nh 0) (GX z4_0 h4_0_0 h4_0_2 x) (bU qE.kp qE.kx c)=(su h4_0_0 h4_0_2 x).run (bV (GX z4_0 h4_0_0 h4_0_2) (xS z4_0 h4_0_0 h4_0_2) c):=fun _ _ _ _ _=>by
 kernel_rfl
theorem ahO:bS Gb Nf (aY Nh 0) qE:=bA fun s e s' h=>by
 generalize hs:restrict qE.kp s=s1 at h
 have h:(Wj s1).run some=some (e,s'):=h
 obtain ⟨z3,d2,e1,h_0⟩:=aD h
 obtain ⟨e4,h_1⟩:=bF h_0
 obtain ⟨d6,e5,h_2⟩:=ak h_1
 obtain ⟨m8,d9,e7,h_3⟩:=aH h_2
 obtain ⟨rfl,h_4⟩:=aQ h_3
 obtain ⟨y,hy,hz⟩:=jR h_4
 refine ⟨_,_,GX z3 d2 d9,xS z3 d2 d9,su d2 d9,d6,y,?_,hy,?_,acP z3 d2 d9⟩
 ·subst hs;exact aT (T:=[(1,(.imm z3 (.sl (.int .i64)) d2)),(2,(.ptr (4,0) [])),(5,(.imm true (.int .i64) d6))]) (U:=[((4,0),some ⟨true,aL,.own,d9⟩)]) rfl rfl ⟨e1,e4,e5,trivial⟩ ⟨e7,trivial⟩
 ·rcases y with x|x<;>exact Option.some.inj hz
def agq:FnI:=⟨Nh,Tryz.f66.results.toList,Tryz.f66.resultTypes.toList,Nf⟩
def Zc (_zp0:Bool) (_p0:(Int×(Int×Unit))) (_p1:List Int):Int→aB:=fun r=>⟨(.imm true (.int .i64) r),[],[]⟩
theorem aoq:∀(zp0:Bool)(p0:(Int×(Int×Unit)))(p1:List Int),bN Gb agq ⟨[(.imm true aL p0),(.imm zp0 (.sl (.int .i64)) p1)],[]⟩=(aeY p0 p1).run fun r=>some (Zc zp0 p0 p1 r):=fun _ _ _=>by kernel_rfl
def agp (av:List AV) (rs:List Root):Tre aB:=
 aJ av fun a0_ av0=>
 aJ av0 fun a1_ av1=>
 aU av1<|
 aU rs<|
 aC true aL a0_ fun d1=>
 bE (.sl (.int .i64)) a1_ fun z3 d2=>
 .mat (Ng d1 d2) fun r=>.ret (Zc z3 d1 d2 r)
def agr:Ctr:=⟨[],fun ci=>agp ci.args ci.roots,false⟩
theorem alD:bM Tryz.prog .none Gb:=(aA aaE av4 (aA Jb asS (aA D7 amr aN)))
theorem aor:Contract Tryz.prog .none 66 agr:=by
 have hl:aZ Gb Nf Nh:=(bC (n:=1) (by kernel_rfl) fun k hk=>by
   match k,hk with
   |0,_=>exact bq (id:=4) (L:=qE) (by kernel_rfl) (by kernel_rfl) ahO)
 refine (aI (F:=agq) bg alD Tryz.func66 (by kernel_rfl) (by kernel_rfl) (by kernel_rfl) hl []).weaken ?_
 rintro ⟨av,rs⟩ co h
 have h:(agp av rs).run some=some co:=h
 obtain ⟨a0_,av0,rfl,h_0⟩:=au h
 obtain ⟨a1_,av1,rfl,h_1⟩:=au h_0
 obtain ⟨rfl,h_2⟩:=ay h_1
 obtain ⟨rfl,h_3⟩:=ay h_2
 obtain ⟨d1,rfl,h_4⟩:=ak h_3
 obtain ⟨z3,d2,rfl,h_5⟩:=aD h_4
 exact bJ (aoq z3 d1 d2) h_5
def o8 (h3_0_0:List Int) (h3_0_1:Int) (h3_0_4:(Int×(Int×Unit))):(Int×Int)→Tre ((Int×Int) ⊕ Int):=fun s3=>
 .cond (decide (s3.2<(h3_0_0.length:Int)))
  (.ite (0≤s3.2∧s3.2<(h3_0_0.length:Int))<|
  .mat (h3_0_0[s3.2.toNat]?) fun x1=>
  .mat (kH h3_0_4 h3_0_1 s3.2) fun r2=>
  .mat (dH h3_0_4 x1 r2) fun r3=>
  .ret (.inl (jJ .i64 s3.1 r3,aP .i64 (s3.2+1))))
  (.ret (.inr s3.1))
def aaL (p0:(Int×(Int×Unit))) (p1:List Int) (p2:Int):Tre Int:=
 .mat (aR (o8 p1 p2 p0) (0,0)) fun l4=>
 .ret l4
def Jd (p0:(Int×(Int×Unit))) (p1:List Int) (p2:Int):Option Int:=(aaL p0 p1 p2).run some
-- more
theorem asD{f:TF3}(hf:aO f=true){P:List Nat}(hP:inL (FOf f hf) P)(hl:P.length≤1000){x:Nat}(hx:x<(FOf f hf).q):Jd f (aS P) (x:Int)=some (((FOf f hf).lp P x:Nat):Int):=by
 unfold Jd aaL
 rw [ah (show aR (o8 (aS P) (x:Int) f) (0,0)=some (((FOf f hf).lp P x:Nat):Int) from ?_),Tre.aK]
 refine cO (fun i=>((((FOf f hf).lp (P.take i) x:Nat):Int),(i:Int))) P.length _ (fun i hi=>?_) ?_
 ·have hs:=(FOf f hf).Hw i hx
  have hti:(P.take i).length=i:=by rw [List.length_take];omega
  unfold o8
  dsimp only
  rw [dP (dA (dV hi)),ah (afw hf hx i),ah (afv hf (kR hP i) hs),Tre.aK,aV (by omega),Xm hf ((FOf f hf).ace _ _) ((FOf f hf).lt _ _),List.take_add_one,dV hi,Option.toList_some,an8,hti]
 ·unfold o8
  dsimp only
  rw [aW,dw,Tre.aK,List.take_length]
def Cq:Env:=⟨tau,[(56,uz),(68,sw)],[]⟩
def Je:Code:=(Tryz.f101.body).getD .skip
def Ei (z3_0:Bool) (h3_0_0:List Int) (h3_0_1:Int) (h3_0_4:(Int×(Int×Unit))):(Int×Int)→St:=fun x=>bR [(1,(.imm z3_0 (.sl (.int .i64)) h3_0_0)),(2,(.imm true (.int .i64) h3_0_1)),(3,(.ptr (5,0) [])),(7,(.imm true (.int .i64) x.1)),(8,(.imm true (.int .i64) x.2))] [((5,0),some ⟨true,aL,.own,h3_0_4⟩)]
def Cr (_z3_0:Bool) (_h3_0_0:List Int) (_h3_0_1:Int) (_h3_0_4:(Int×(Int×Unit))):Int→Ex×St:=fun x=>(.exit 0,bR [(7,(.imm true (.int .i64) x))] [])
def Tw (s:St):Tre (Ex×St):=
 bE (.sl (.int .i64)) (s.tmps 1) fun z3 d2=>
 aC true (.int .i64) (s.tmps 2) fun d5=>
 dU (5,0) [] (s.tmps 3)<|
 aC true (.int .i64) (s.tmps 7) fun d8=>
 aC true (.int .i64) (s.tmps 8) fun d10=>
 bD true aL (s.roots (5,0)) fun m12 d13=>
 asM .own m12<|
 .mat (aR (o8 d2 d5 d13) (d8,d10)) fun x=>.ret (Cr z3 d2 d5 d13 x)
def nR:bK:=⟨([1,2,3,7,8],[(5,0)]),([7],[]),Tw⟩
def Jc:List (Nat×bK):=[(3,nR)]
theorem aaM:∀(z3_0:Bool)(h3_0_0:List Int)(h3_0_1:Int)(h3_0_4:(Int×(Int×Unit)))(x:(Int×Int))(c:St→Option (Ex×St)),den Cq Jc (aY Je 0) (Ei z3_0 h3_0_0 h3_0_1 h3_0_4 x) (bU nR.kp nR.kx c)=(o8 h3_0_0 h3_0_1 h3_0_4 x).run (bV (Ei z3_0 h3_0_0 h3_0_1 h3_0_4) (Cr z3_0 h3_0_0 h3_0_1 h3_0_4) c):=fun _ _ _ _ _ _=>by
 kernel_rfl
theorem afg:bS Cq Jc (aY Je 0) nR:=bA fun s e s' h=>by
 generalize hs:restrict nR.kp s=s1 at h
 have h:(Tw s1).run some=some (e,s'):=h
 obtain ⟨z3,d2,e1,h_0⟩:=aD h
 obtain ⟨d5,e4,h_1⟩:=ak h_0
 obtain ⟨e6,h_2⟩:=bF h_1
 obtain ⟨d8,e7,h_3⟩:=ak h_2
 obtain ⟨d10,e9,h_4⟩:=ak h_3
 obtain ⟨m12,d13,e11,h_5⟩:=aH h_4
 obtain ⟨rfl,h_6⟩:=aQ h_5
 obtain ⟨y,hy,hz⟩:=bT h_6
 refine ⟨_,_,Ei z3 d2 d5 d13,Cr z3 d2 d5 d13,o8 d2 d5 d13,(d8,d10),y,?_,hy,?_,aaM z3 d2 d5 d13⟩
 ·subst hs;exact aT (T:=[(1,(.imm z3 (.sl (.int .i64)) d2)),(2,(.imm true (.int .i64) d5)),(3,(.ptr (5,0) [])),(7,(.imm true (.int .i64) d8)),(8,(.imm true (.int .i64) d10))]) (U:=[((5,0),some ⟨true,aL,.own,d13⟩)]) rfl rfl ⟨e1,e4,e6,e7,e9,trivial⟩ ⟨e11,trivial⟩
 ·exact Option.some.inj hz
def ac8:FnI:=⟨Je,Tryz.f101.results.toList,Tryz.f101.resultTypes.toList,Jc⟩
def WQ (_zp0:Bool) (_p0:(Int×(Int×Unit))) (_p1:List Int) (_p2:Int):Int→aB:=fun r=>⟨(.imm true (.int .i64) r),[],[]⟩
theorem alP:∀(zp0:Bool)(p0:(Int×(Int×Unit)))(p1:List Int)(p2:Int),bN Cq ac8 ⟨[(.imm true aL p0),(.imm zp0 (.sl (.int .i64)) p1),(.imm true (.int .i64) p2)],[]⟩=(aaL p0 p1 p2).run fun r=>some (WQ zp0 p0 p1 p2 r):=fun _ _ _ _=>by kernel_rfl
def ac7 (av:List AV) (rs:List Root):Tre aB:=
 aJ av fun a0_ av0=>
 aJ av0 fun a1_ av1=>
 aJ av1 fun a2_ av2=>
 aU av2<|
 aU rs<|
 aC true aL a0_ fun d1=>
 bE (.sl (.int .i64)) a1_ fun z3 d2=>
 aC true (.int .i64) a2_ fun d4=>
 .mat (Jd d1 d2 d4) fun r=>.ret (WQ z3 d1 d2 d4 r)
def ac9:Ctr:=⟨[],fun ci=>ac7 ci.args ci.roots,false⟩
theorem akA:bM Tryz.prog .none Cq:=(aA wM apz (aA qZ afJ aN))
theorem alQ:Contract Tryz.prog .none 101 ac9:=by
 have hl:aZ Cq Jc Je:=(bC (n:=1) (by kernel_rfl) fun k hk=>by
   match k,hk with
   |0,_=>exact bq (id:=3) (L:=nR) (by kernel_rfl) (by kernel_rfl) afg)
 refine (aI (F:=ac8) bg akA Tryz.func101 (by kernel_rfl) (by kernel_rfl) (by kernel_rfl) hl []).weaken ?_
 rintro ⟨av,rs⟩ co h
 have h:(ac7 av rs).run some=some co:=h
 obtain ⟨a0_,av0,rfl,h_0⟩:=au h
 obtain ⟨a1_,av1,rfl,h_1⟩:=au h_0
 obtain ⟨a2_,av2,rfl,h_2⟩:=au h_1
 obtain ⟨rfl,h_3⟩:=ay h_2
 obtain ⟨rfl,h_4⟩:=ay h_3
 obtain ⟨d1,rfl,h_5⟩:=ak h_4
 obtain ⟨z3,d2,rfl,h_6⟩:=aD h_5
 obtain ⟨d4,rfl,h_7⟩:=ak h_6
 exact bJ (alP z3 d1 d2 d4) h_7
def gP (h3_0_0:List Int) (h3_0_2:(Int×(Int×Unit))):(Int×(List Int))→Tre ((Int×(List Int)) ⊕ (List Int)):=fun s3=>
 .cond (decide (s3.1<(h3_0_0.length:Int)))
  (.ite (0≤s3.1∧s3.1<(h3_0_0.length:Int))<|
  .mat (h3_0_0[s3.1.toNat]?) fun x1=>
  .mat (Jd h3_0_2 s3.2 x1) fun r2=>
  .cond (!decide (r2=0))
   (.mat (qI h3_0_2 ([r2,1]) s3.2) fun r3=>
   .ret (.inl (aP .i64 (s3.1+1),r3)))
   (.ret (.inl (aP .i64 (s3.1+1),s3.2))))
  (.ret (.inr s3.2))
def Ec (p0:(Int×(Int×Unit))) (p1:List Int):Tre (List Int):=
 .mat (aR (gP p1 p0) (0,[1])) fun l4=>
 .ret l4
def sF (p0:(Int×(Int×Unit))) (p1:List Int):Option (List Int):=(Ec p0 p1).run some
def mX:Env:=⟨tau,[(101,ac9),(102,K7)],[]⟩
def sG:Code:=(Tryz.f67.body).getD .skip
def sH (z3_0:Bool) (h3_0_0:List Int) (h3_0_2:(Int×(Int×Unit))):(Int×(List Int))→St:=fun x=>bR [(1,(.imm z3_0 (.sl (.int .i64)) h3_0_0)),(2,(.ptr (4,0) [])),(5,(.ref (7,0) [])),(6,(.imm true (.int .i64) x.1))] [((4,0),some ⟨true,aL,.own,h3_0_2⟩),((7,0),some ⟨false,(.sl (.int .i64)),.own,x.2⟩)]
def qG (_z3_0:Bool) (_h3_0_0:List Int) (_h3_0_2:(Int×(Int×Unit))):(List Int)→Ex×St:=fun x=>(.exit 0,bR [(5,(.ref (7,0) []))] [((7,0),some ⟨false,(.sl (.int .i64)),.own,x⟩)])
def C8 (s:St):Tre (Ex×St):=
 bE (.sl (.int .i64)) (s.tmps 1) fun z3 d2=>
 dU (4,0) [] (s.tmps 2)<|
 dz (7,0) [] (s.tmps 5)<|
 aC true (.int .i64) (s.tmps 6) fun d7=>
 bD true aL (s.roots (4,0)) fun m9 d10=>
 asM .own m9<|
 bD false (.sl (.int .i64)) (s.roots (7,0)) fun m12 d13=>
 asM .own m12<|
 .mat (aR (gP d2 d10) (d7,d13)) fun x=>.ret (qG z3 d2 d10 x)
def iw:bK:=⟨([1,2,5,6],[(4,0),(7,0)]),([5],[(7,0)]),C8⟩
def sD:List (Nat×bK):=[(3,iw)]
theorem OB:∀(z3_0:Bool)(h3_0_0:List Int)(h3_0_2:(Int×(Int×Unit)))(x:(Int×(List Int)))(c:St→Option (Ex×St)),den mX sD (aY sG 0) (sH z3_0 h3_0_0 h3_0_2 x) (bU iw.kp iw.kx c)=(gP h3_0_0 h3_0_2 x).run (bV (sH z3_0 h3_0_0 h3_0_2) (qG z3_0 h3_0_0 h3_0_2) c):=fun _ _ _ _ _=>by
 kernel_rfl
theorem RI:bS mX sD (aY sG 0) iw:=bA fun s e s' h=>by
 generalize hs:restrict iw.kp s=s1 at h
 have h:(C8 s1).run some=some (e,s'):=h
 obtain ⟨z3,d2,e1,h_0⟩:=aD h
 obtain ⟨e4,h_1⟩:=bF h_0
 obtain ⟨e5,h_2⟩:=bf h_1
 obtain ⟨d7,e6,h_3⟩:=ak h_2
 obtain ⟨m9,d10,e8,h_4⟩:=aH h_3
 obtain ⟨rfl,h_5⟩:=aQ h_4
 obtain ⟨m12,d13,e11,h_6⟩:=aH h_5
 obtain ⟨rfl,h_7⟩:=aQ h_6
 obtain ⟨y,hy,hz⟩:=bT h_7
 refine ⟨_,_,sH z3 d2 d10,qG z3 d2 d10,gP d2 d10,(d7,d13),y,?_,hy,?_,OB z3 d2 d10⟩
 ·subst hs;exact aT (T:=[(1,(.imm z3 (.sl (.int .i64)) d2)),(2,(.ptr (4,0) [])),(5,(.ref (7,0) [])),(6,(.imm true (.int .i64) d7))]) (U:=[((4,0),some ⟨true,aL,.own,d10⟩),((7,0),some ⟨false,(.sl (.int .i64)),.own,d13⟩)]) rfl rfl ⟨e1,e4,e5,e6,trivial⟩ ⟨e8,e11,trivial⟩
 ·exact Option.some.inj hz
def K5:FnI:=⟨sG,Tryz.f67.results.toList,Tryz.f67.resultTypes.toList,sD⟩
def Gf (_zp0:Bool) (_p0:(Int×(Int×Unit))) (_p1:List Int):(List Int)→aB:=fun r=>⟨(.ref (1,0) []),[],[⟨false,(.sl (.int .i64)),.own,r⟩]⟩
theorem Yq:∀(zp0:Bool)(p0:(Int×(Int×Unit)))(p1:List Int),bN mX K5 ⟨[(.imm true aL p0),(.imm zp0 (.sl (.int .i64)) p1)],[]⟩=(Ec p0 p1).run fun r=>some (Gf zp0 p0 p1 r):=fun _ _ _=>by kernel_rfl
def K4 (av:List AV) (rs:List Root):Tre aB:=
 aJ av fun a0_ av0=>
 aJ av0 fun a1_ av1=>
 aU av1<|
 aU rs<|
 aC true aL a0_ fun d1=>
 bE (.sl (.int .i64)) a1_ fun z3 d2=>
 .mat (sF d1 d2) fun r=>.ret (Gf z3 d1 d2 r)
def K6:Ctr:=⟨[],fun ci=>K4 ci.args ci.roots,false⟩
theorem WB:bM Tryz.prog .none mX:=(aA alQ azZ (aA Tp avQ aN))
theorem Yr:Contract Tryz.prog .none 67 K6:=by
 have hl:aZ mX sD sG:=(bC (n:=1) (by kernel_rfl) fun k hk=>by
   match k,hk with
   |0,_=>exact bq (id:=3) (L:=iw) (by kernel_rfl) (by kernel_rfl) RI)
 refine (aI (F:=K5) bg WB Tryz.func67 (by kernel_rfl) (by kernel_rfl) (by kernel_rfl) hl []).weaken ?_
 rintro ⟨av,rs⟩ co h
 have h:(K4 av rs).run some=some co:=h
 obtain ⟨a0_,av0,rfl,h_0⟩:=au h
 obtain ⟨a1_,av1,rfl,h_1⟩:=au h_0
 obtain ⟨rfl,h_2⟩:=ay h_1
 obtain ⟨rfl,h_3⟩:=ay h_2
 obtain ⟨d1,rfl,h_4⟩:=ak h_3
 obtain ⟨z3,d2,rfl,h_5⟩:=aD h_4
 exact bJ (Yq z3 d1 d2) h_5
def eO (h3_0_0:List Int) (h3_0_1:Int) (h3_0_3:(Int×(Int×Unit))):(Int×(List Int))→Tre ((Int×(List Int)) ⊕ (List Int)):=fun s3=>
 .cond (decide (s3.1<h3_0_1))
  (.ite (0≤s3.1∧s3.1<(h3_0_0.length:Int))<|
  .mat (h3_0_0[s3.1.toNat]?) fun x1=>
  .mat (tF h3_0_3 s3.2 x1) fun r2=>
  .cond (!decide (r2=0))
   (.mat (jq h3_0_3 ([r2,1]) s3.2) fun r3=>
   .ret (.inl (aP .i64 (s3.1+1),r3)))
   (.ret (.inl (aP .i64 (s3.1+1),s3.2))))
  (.ret (.inr s3.2))
def yG (p0:(Int×(Int×Unit))) (p1:List Int):Tre (List Int):=
 .mat (aR (eO p1 (p1.length:Int) p0) (0,[1])) fun l4=>
 .ret l4
def nk (p0:(Int×(Int×Unit))) (p1:List Int):Option (List Int):=(yG p0 p1).run some
-- more
def ru(F:FO)(out:List Nat)(x:Nat):List Nat:=if F.lp out x=0 then out else bX (F.tq [F.lp out x,1] out)
def CG(F:FO)(xs:List Nat):List Nat:=xs.foldl (ru F) [1]
theorem arj{F:FO}{out:List Nat}{n x:Nat}(h:inL F out∧out.length≤n+1∧out≠[]):inL F (ru F out x)∧(ru F out x).length≤n+2:=by
 unfold ru
 split
 ·exact ⟨h.1,by omega⟩
 ·have h1:=F.Xn [F.lp out x,1] out (by simp) h.2.2
  have h2:=jI (F.tq [F.lp out x,1] out)
  simp only [List.length_cons,List.length_nil] at h1
  exact ⟨tK (abN _ _),by omega⟩
theorem ari{F:FO}{out:List Nat}{x:Nat}(hi:inL F out)(h:Am out)(hn:out≠[]):Am (ru F out x)∧ru F out x≠[]:=by
 unfold ru
 split
 ·exact ⟨h,hn⟩
 ·refine ⟨sZ _,fun h0=>?_⟩
  have:=F.ak3 (V:=[F.lp out x,1]) (fun y hy=>by
   rcases List.mem_cons.1 hy with rfl|hy
   ·exact F.ace _ _
   ·rw [List.mem_singleton.1 hy];exact F.hq) hi (by simp) hn (by simp [cf]) (h hn)
  rw [h0] at this
  simp only [List.length_nil,List.length_cons] at this
  have:=List.length_pos_iff.2 hn
  omega
theorem anp(F:FO):∀(xs:List Nat),inL F (CG F xs)∧(CG F xs).length≤xs.length+1∧Am (CG F xs)∧CG F xs≠[]:=by
 have key:∀(xs:List Nat)(out:List Nat)(n:Nat),inL F out→out.length≤n+1→Am out→out≠[]→inL F (xs.foldl (ru F) out)∧(xs.foldl (ru F) out).length≤n+xs.length+1∧Am (xs.foldl (ru F) out)∧xs.foldl (ru F) out≠[]:=by
  intro xs
  induction xs with
  |nil=>intro out n h1 h2 h3 h4;exact ⟨h1,by simpa using h2,h3,h4⟩
  |cons x xs ih=>
   intro out n h1 h2 h3 h4
   obtain ⟨a,b⟩:=arj (x:=x) ⟨h1,h2,h4⟩
   obtain ⟨c,d⟩:=ari (x:=x) h1 h3 h4
   obtain ⟨e1,e2,e3,e4⟩:=ih (ru F out x) (n+1) a (by omega) c d
   exact ⟨e1,by simp only [List.foldl_cons,List.length_cons];omega,e3,e4⟩
 intro xs
 have:=key xs [1] 0 (fun y hy=>by rw [List.mem_singleton.1 hy];exact F.hq) (by simp) (fun _=>by simp [cf]) (by simp)
 refine ⟨this.1,?_,this.2.2⟩
 have h2:=this.2.1
 unfold CG
 omega
theorem al8{F:FO}{xs:List Nat}{i:Nat}(hi:i<xs.length):CG F (xs.take (i+1))=ru F (CG F (xs.take i)) (cf xs i):=by
 unfold CG
 rw [List.take_add_one,dV hi,Option.toList_some,List.foldl_append]
 rfl
theorem axQ{f:TF3}(hf:aO f=true){xs:List Nat}(hx:inL (FOf f hf) xs)(hl:xs.length≤100):nk f (aS xs)=some (aS (CG (FOf f hf) xs)):=by
 unfold nk yG
 rw [ah (show aR (eO (aS xs) ((aS xs).length:Int) f) (0,[1])=some (aS (CG (FOf f hf) xs)) from ?_),Tre.aK]
 refine cO (fun i=>((i:Int),aS (CG (FOf f hf) (xs.take i)))) xs.length _ (fun i hi=>?_) ?_
 ·obtain ⟨a1,a2,_,_⟩:=anp (FOf f hf) (xs.take i)
  rw [List.length_take] at a2
  have hv:=(FOf f hf).ace (CG (FOf f hf) (xs.take i)) (cf xs i)
  unfold eO
  dsimp only
  rw [dP (dA (dV hi)),ah (amE hf a1 (by omega) (kR hx i)),Tre.aG,al8 hi]
  unfold ru
  by_cases h0:(FOf f hf).lp (CG (FOf f hf) (xs.take i)) (cf xs i)=0
  ·rw [decide_eq_true (by omega),Bool.not_true,cond_false,Tre.aK,aV (by omega),if_pos h0]
  ·rw [decide_eq_false (by omega),Bool.not_false,cond_true,if_neg h0]
   have hc:=afZ hf (P:=[(FOf f hf).lp (CG (FOf f hf) (xs.take i)) (cf xs i),1]) (Q:=CG (FOf f hf) (xs.take i)) (fun y hy=>by
    rcases List.mem_cons.1 hy with rfl|hy
    ·exact hv
    ·rw [List.mem_singleton.1 hy];exact (FOf f hf).hq) a1 (by simp) (by omega)
   rw [ah (show jq f [(((FOf f hf).lp (CG (FOf f hf) (xs.take i)) (cf xs i):Nat):Int),1] (aS (CG (FOf f hf) (xs.take i)))=_ from hc),Tre.aK,aV (by omega)]
 ·unfold eO
  dsimp only
  rw [aW,dw,Tre.aK,List.take_length]
def jQ:Env:=⟨tau,[(69,Gw),(70,Bn)],[]⟩
def nu:Code:=(Tryz.f40.body).getD .skip
def nC (z3_0:Bool) (h3_0_0:List Int) (h3_0_1:Int) (h3_0_3:(Int×(Int×Unit))):(Int×(List Int))→St:=fun x=>bR [(2,(.ptr (4,0) [])),(5,(.ref (7,0) [])),(10,(.imm z3_0 (.sl (.int .i64)) h3_0_0)),(11,(.imm true (.int .i64) h3_0_1)),(12,(.imm true (.int .i64) x.1))] [((4,0),some ⟨true,aL,.own,h3_0_3⟩),((7,0),some ⟨false,(.sl (.int .i64)),.own,x.2⟩)]
def mO (_z3_0:Bool) (_h3_0_0:List Int) (_h3_0_1:Int) (_h3_0_3:(Int×(Int×Unit))):(List Int)→Ex×St:=fun x=>(.exit 0,bR [(5,(.ref (7,0) []))] [((7,0),some ⟨false,(.sl (.int .i64)),.own,x⟩)])
def y8 (s:St):Tre (Ex×St):=
 dU (4,0) [] (s.tmps 2)<|
 dz (7,0) [] (s.tmps 5)<|
 bE (.sl (.int .i64)) (s.tmps 10) fun z5 d4=>
 aC true (.int .i64) (s.tmps 11) fun d7=>
 aC true (.int .i64) (s.tmps 12) fun d9=>
 bD true aL (s.roots (4,0)) fun m11 d12=>
 asM .own m11<|
 bD false (.sl (.int .i64)) (s.roots (7,0)) fun m14 d15=>
 asM .own m14<|
 .mat (aR (eO d4 d7 d12) (d9,d15)) fun x=>.ret (mO z5 d4 d7 d12 x)
def eZ:bK:=⟨([2,5,10,11,12],[(4,0),(7,0)]),([5],[(7,0)]),y8⟩
def ni:List (Nat×bK):=[(3,eZ)]
theorem II:∀(z3_0:Bool)(h3_0_0:List Int)(h3_0_1:Int)(h3_0_3:(Int×(Int×Unit)))(x:(Int×(List Int)))(c:St→Option (Ex×St)),den jQ ni (aY nu 0) (nC z3_0 h3_0_0 h3_0_1 h3_0_3 x) (bU eZ.kp eZ.kx c)=(eO h3_0_0 h3_0_1 h3_0_3 x).run (bV (nC z3_0 h3_0_0 h3_0_1 h3_0_3) (mO z3_0 h3_0_0 h3_0_1 h3_0_3) c):=fun _ _ _ _ _ _=>by
 kernel_rfl
theorem LU:bS jQ ni (aY nu 0) eZ:=bA fun s e s' h=>by
 generalize hs:restrict eZ.kp s=s1 at h
 have h:(y8 s1).run some=some (e,s'):=h
 obtain ⟨e1,h_0⟩:=bF h
 obtain ⟨e2,h_1⟩:=bf h_0
 obtain ⟨z5,d4,e3,h_2⟩:=aD h_1
 obtain ⟨d7,e6,h_3⟩:=ak h_2
 obtain ⟨d9,e8,h_4⟩:=ak h_3
 obtain ⟨m11,d12,e10,h_5⟩:=aH h_4
 obtain ⟨rfl,h_6⟩:=aQ h_5
 obtain ⟨m14,d15,e13,h_7⟩:=aH h_6
 obtain ⟨rfl,h_8⟩:=aQ h_7
 obtain ⟨y,hy,hz⟩:=bT h_8
 refine ⟨_,_,nC z5 d4 d7 d12,mO z5 d4 d7 d12,eO d4 d7 d12,(d9,d15),y,?_,hy,?_,II z5 d4 d7 d12⟩
 ·subst hs;exact aT (T:=[(2,(.ptr (4,0) [])),(5,(.ref (7,0) [])),(10,(.imm z5 (.sl (.int .i64)) d4)),(11,(.imm true (.int .i64) d7)),(12,(.imm true (.int .i64) d9))]) (U:=[((4,0),some ⟨true,aL,.own,d12⟩),((7,0),some ⟨false,(.sl (.int .i64)),.own,d15⟩)]) rfl rfl ⟨e1,e2,e3,e6,e8,trivial⟩ ⟨e10,e13,trivial⟩
 ·exact Option.some.inj hz
def CQ:FnI:=⟨nu,Tryz.f40.results.toList,Tryz.f40.resultTypes.toList,ni⟩
def Ar (_zp0:Bool) (_p0:(Int×(Int×Unit))) (_p1:List Int):(List Int)→aB:=fun r=>⟨(.ref (1,0) []),[],[⟨false,(.sl (.int .i64)),.own,r⟩]⟩
theorem QK:∀(zp0:Bool)(p0:(Int×(Int×Unit)))(p1:List Int),bN jQ CQ ⟨[(.imm true aL p0),(.imm zp0 (.sl (.int .i64)) p1)],[]⟩=(yG p0 p1).run fun r=>some (Ar zp0 p0 p1 r):=fun _ _ _=>by kernel_rfl
def CP (av:List AV) (rs:List Root):Tre aB:=
 aJ av fun a0_ av0=>
 aJ av0 fun a1_ av1=>
 aU av1<|
 aU rs<|
 aC true aL a0_ fun d1=>
 bE (.sl (.int .i64)) a1_ fun z3 d2=>
 .mat (nk d1 d2) fun r=>.ret (Ar z3 d1 d2 r)
def CS:Ctr:=⟨[],fun ci=>CP ci.args ci.roots,false⟩
theorem OY:bM Tryz.prog .none jQ:=(aA Pp azj (aA JB azk aN))
theorem QL:Contract Tryz.prog .none 40 CS:=by
 have hl:aZ jQ ni nu:=(bC (n:=1) (by kernel_rfl) fun k hk=>by
   match k,hk with
   |0,_=>exact bq (id:=3) (L:=eZ) (by kernel_rfl) (by kernel_rfl) LU)
 refine (aI (F:=CQ) bg OY Tryz.func40 (by kernel_rfl) (by kernel_rfl) (by kernel_rfl) hl []).weaken ?_
 rintro ⟨av,rs⟩ co h
 have h:(CP av rs).run some=some co:=h
 obtain ⟨a0_,av0,rfl,h_0⟩:=au h
 obtain ⟨a1_,av1,rfl,h_1⟩:=au h_0
 obtain ⟨rfl,h_2⟩:=ay h_1
 obtain ⟨rfl,h_3⟩:=ay h_2
 obtain ⟨d1,rfl,h_4⟩:=ak h_3
 obtain ⟨z3,d2,rfl,h_5⟩:=aD h_4
 exact bJ (QK z3 d1 d2) h_5
def GQ (p0:(Int×(Int×Unit))) (p1:List Int):Tre (Int×(List Int)):=
 .mat (Ng p0 p1) fun r1=>
 .cond (!decide (r1=0))
  (.ret (r1,[]))
  (.mat (sF p0 p1) fun r2=>
  .ret (0,r2))
def oG (p0:(Int×(Int×Unit))) (p1:List Int):Option (Int×(List Int)):=(GQ p0 p1).run some
-- more
theorem ayA{f:TF3}(hf:aO f=true){xs:List Nat}(hx:inL (FOf f hf) xs)(hl:xs.length≤100):sF f (aS xs)=some (aS (CG (FOf f hf) xs)):=by
 unfold sF Ec
 rw [ah (show aR (gP (aS xs) f) (0,[1])=some (aS (CG (FOf f hf) xs)) from ?_),Tre.aK]
 refine cO (fun i=>((i:Int),aS (CG (FOf f hf) (xs.take i)))) xs.length _ (fun i hi=>?_) ?_
 ·obtain ⟨a1,a2,_,_⟩:=anp (FOf f hf) (xs.take i)
  rw [List.length_take] at a2
  have hv:=(FOf f hf).ace (CG (FOf f hf) (xs.take i)) (cf xs i)
  unfold gP
  dsimp only
  rw [dP (dA (dV hi)),ah (asD hf a1 (by omega) (kR hx i)),Tre.aG,al8 hi]
  unfold ru
  by_cases h0:(FOf f hf).lp (CG (FOf f hf) (xs.take i)) (cf xs i)=0
  ·rw [decide_eq_true (by omega),Bool.not_true,cond_false,Tre.aK,aV (by omega),if_pos h0]
  ·rw [decide_eq_false (by omega),Bool.not_false,cond_true,if_neg h0]
   have hc:=ag9 hf (P:=[(FOf f hf).lp (CG (FOf f hf) (xs.take i)) (cf xs i),1]) (Q:=CG (FOf f hf) (xs.take i)) (fun y hy=>by
    rcases List.mem_cons.1 hy with rfl|hy
    ·exact hv
    ·rw [List.mem_singleton.1 hy];exact (FOf f hf).hq) a1 (by simp) (by omega)
   rw [ah (show qI f [(((FOf f hf).lp (CG (FOf f hf) (xs.take i)) (cf xs i):Nat):Int),1] (aS (CG (FOf f hf) (xs.take i)))=_ from hc),Tre.aK,aV (by omega)]
 ·unfold gP
  dsimp only
  rw [aW,dw,Tre.aK,List.take_length]
theorem axe{f:TF3}(hf:aO f=true){L:List Nat}(h:inL (FOf f hf) L)(hl:L.length≤1000):Ng f (aS L)=some 0:=by
 unfold Ng aeY
 rw [ah (aaD f),hf,Tre.aG,Bool.not_true,cond_false,ah (show aR (su (aS L) f) 0=some (.inr ()) from ?_)]
 ·rfl
 refine cO (fun i=>(i:Int)) L.length _ (fun i hi=>?_) ?_
 ·have hc:=kR h i
  have hin:inR (cf L i:Int) 0 (Uw f)=true:=by
   rw [al5] at hc
   rw [kF]
   unfold Uw
   have:((cf L i:Nat):Int)<((2 ^ f.1.toNat:Nat):Int):=by exact_mod_cast hc
   have h2:((2 ^ f.1.toNat:Nat):Int)=(2:Int) ^ f.1.toNat:=by rw [Int.natCast_pow];rfl
   omega
  unfold su
  rw [dP (dA (dV hi)),ah (RG hf),aip hf]
  dsimp only
  rw [Tre.aG,hin,Bool.not_true,cond_false,Tre.aK,aV (by omega)]
 ·unfold su
  rw [aW,dw,Tre.aK]
theorem auT{f:TF3}(hf:aO f=true){xs:List Nat}(hx:inL (FOf f hf) xs)(hl:xs.length≤100):oG f (aS xs)=some (0,aS (CG (FOf f hf) xs)):=by
 unfold oG GQ
 rw [ah (axe hf hx (by omega)),Tre.aG,decide_eq_true rfl,Bool.not_true,cond_false,ah (ayA hf hx hl),Tre.aK]
def Ch:Env:=⟨tau,[(66,agr),(67,K6)],[]⟩
def M5:Code:=(Tryz.f37.body).getD .skip
def M4:FnI:=⟨M5,Tryz.f37.results.toList,Tryz.f37.resultTypes.toList,[]⟩
def Ir (_zp0:Bool) (_p0:(Int×(Int×Unit))) (_p1:List Int):(Int×(List Int))→aB:=fun r=>⟨(.tcons (.ref (1,0) []) (.tcons (.imm true (.int .i64) r.1) .tnil)),[],[⟨false,(.sl (.int .i64)),.own,r.2⟩]⟩
theorem aax:∀(zp0:Bool)(p0:(Int×(Int×Unit)))(p1:List Int),bN Ch M4 ⟨[(.imm true aL p0),(.imm zp0 (.sl (.int .i64)) p1)],[]⟩=(GQ p0 p1).run fun r=>some (Ir zp0 p0 p1 r):=fun _ _ _=>by kernel_rfl
def MZ (av:List AV) (rs:List Root):Tre aB:=
 aJ av fun a0_ av0=>
 aJ av0 fun a1_ av1=>
 aU av1<|
 aU rs<|
 aC true aL a0_ fun d1=>
 bE (.sl (.int .i64)) a1_ fun z3 d2=>
 .mat (oG d1 d2) fun r=>.ret (Ir z3 d1 d2 r)
def M6:Ctr:=⟨[],fun ci=>MZ ci.args ci.roots,false⟩
theorem Yh:bM Tryz.prog .none Ch:=(aA aor aBx (aA Yr aBy aN))
theorem aay:Contract Tryz.prog .none 37 M6:=by
 have hl:aZ Ch [] M5:=bB (by kernel_rfl)
 refine (aI (F:=M4) bg Yh Tryz.func37 (by kernel_rfl) (by kernel_rfl) (by kernel_rfl) hl []).weaken ?_
 rintro ⟨av,rs⟩ co h
 have h:(MZ av rs).run some=some co:=h
 obtain ⟨a0_,av0,rfl,h_0⟩:=au h
 obtain ⟨a1_,av1,rfl,h_1⟩:=au h_0
 obtain ⟨rfl,h_2⟩:=ay h_1
 obtain ⟨rfl,h_3⟩:=ay h_2
 obtain ⟨d1,rfl,h_4⟩:=ak h_3
 obtain ⟨z3,d2,rfl,h_5⟩:=aD h_4
 exact bJ (aax z3 d1 d2) h_5
def KM (p0:aM) (p1:List Int):Tre (Int×(List Int)):=
 .mat (xU p1 p0) fun r1=>
 .cond (!decide (r1=0))
  (.ret (r1,[]))
  (.mat (mZ p1 p0) fun r2=>
  .alt r2
   (fun a3=>
    .cond (!a3.2.1)
     (.ret (6,[]))
     (.mat (mM p0 a3.2.2) fun r5=>
     .mat (El p0.1 r5 p1 1) fun r6=>
     .mat (oG p0.1 r6) fun r7=>
     .ret (r7.1,r7.2)))
   (fun b4=>
    .cond (!b4.2.2)
     (.ret (6,[]))
     (.mat (mM p0 b4.1) fun r8=>
     .mat (El p0.1 r8 p1 1) fun r9=>
     .mat (oG p0.1 r9) fun r10=>
     .ret (r10.1,r10.2))))
def xR (p0:aM) (p1:List Int):Option (Int×(List Int)):=(KM p0 p1).run some
def D5:Env:=⟨tau,[(28,Qr),(29,Lj),(39,Ev),(38,aaN),(37,M6)],[]⟩
def Qc:Code:=(Tryz.f17.body).getD .skip
def Qb:FnI:=⟨Qc,Tryz.f17.results.toList,Tryz.f17.resultTypes.toList,[]⟩
def KN (_zp0:Bool) (_zp1:Bool) (_p0:aM) (_p1:List Int):(Int×(List Int))→aB:=fun r=>⟨(.tcons (.ref (1,0) []) (.tcons (.imm true (.int .i64) r.1) .tnil)),[],[⟨false,(.sl (.int .i64)),.own,r.2⟩]⟩
theorem acI:∀(zp0:Bool)(zp1:Bool)(p0:aM)(p1:List Int),bN D5 Qb ⟨[(.imm zp0 aX p0),(.imm zp1 (.sl (.int .i64)) p1)],[]⟩=(KM p0 p1).run fun r=>some (KN zp0 zp1 p0 p1 r):=fun _ _ _ _=>by kernel_rfl
def Qa (av:List AV) (rs:List Root):Tre aB:=
 aJ av fun a0_ av0=>
 aJ av0 fun a1_ av1=>
 aU av1<|
 aU rs<|
 bE aX a0_ fun z2 d1=>
 bE (.sl (.int .i64)) a1_ fun z4 d3=>
 .mat (xR d1 d3) fun r=>.ret (KN z2 z4 d1 d3 r)
def Qd:Ctr:=⟨[],fun ci=>Qa ci.args ci.roots,false⟩
theorem aaz:bM Tryz.prog .none D5:=(aA adn aBe (aA Yy aBf (aA NS azf (aA agX avY (aA aay aBk aN)))))
theorem acJ:Contract Tryz.prog .none 17 Qd:=by
 have hl:aZ D5 [] Qc:=bB (by kernel_rfl)
 refine (aI (F:=Qb) bg aaz Tryz.func17 (by kernel_rfl) (by kernel_rfl) (by kernel_rfl) hl []).weaken ?_
 rintro ⟨av,rs⟩ co h
 have h:(Qa av rs).run some=some co:=h
 obtain ⟨a0_,av0,rfl,h_0⟩:=au h
 obtain ⟨a1_,av1,rfl,h_1⟩:=au h_0
 obtain ⟨rfl,h_2⟩:=ay h_1
 obtain ⟨rfl,h_3⟩:=ay h_2
 obtain ⟨z2,d1,rfl,h_4⟩:=aD h_3
 obtain ⟨z4,d3,rfl,h_5⟩:=aD h_4
 exact bJ (acI z2 z4 d1 d3) h_5
def ajo (p0:Int) (p1:Int) (p2:Int):Tre Bool:=
 .cond (decide (p0 ≥ p1))
  (.ret (decide (p0≤p2)))
  (.ret false)
def ajp (p0:Int) (p1:Int) (p2:Int):Option Bool:=(ajo p0 p1 p2).run some
theorem ali(n a b:Int):ajp n a b=some (inR n a b):=by
 unfold ajp ajo inR
 by_cases h:a≤n
 ·simp [Tre.aG,Tre.aK,h]
 ·simp [Tre.aG,Tre.aK,h]
def aai:Env:=⟨tau,[],[]⟩
def ajs:Code:=(Tryz.f92.body).getD .skip
def ajr:FnI:=⟨ajs,Tryz.f92.results.toList,Tryz.f92.resultTypes.toList,[]⟩
def abL (_p0:Int) (_p1:Int) (_p2:Int):Bool→aB:=fun r=>⟨(.imm true .bool r),[],[]⟩
theorem apT:∀(p0:Int)(p1:Int)(p2:Int),bN aai ajr ⟨[(.imm true (.int .i64) p0),(.imm true (.int .i64) p1),(.imm true (.int .i64) p2)],[]⟩=(ajo p0 p1 p2).run fun r=>some (abL p0 p1 p2 r):=fun _ _ _=>by kernel_rfl
def ajq (av:List AV) (rs:List Root):Tre aB:=
 aJ av fun a0_ av0=>
 aJ av0 fun a1_ av1=>
 aJ av1 fun a2_ av2=>
 aU av2<|
 aU rs<|
 aC true (.int .i64) a0_ fun d1=>
 aC true (.int .i64) a1_ fun d2=>
 aC true (.int .i64) a2_ fun d3=>
 .ret (abL d1 d2 d3 (inR d1 d2 d3))
def KD:Ctr:=⟨[],fun ci=>ajq ci.args ci.roots,false⟩
theorem anQ:bM Tryz.prog .none aai:=aN
theorem MO:Contract Tryz.prog .none 92 KD:=by
 have hl:aZ aai [] ajs:=bB (by kernel_rfl)
 refine (aI (F:=ajr) bg anQ Tryz.func92 (by kernel_rfl) (by kernel_rfl) (by kernel_rfl) hl []).weaken ?_
 rintro ⟨av,rs⟩ co h
 have h:(ajq av rs).run some=some co:=h
 obtain ⟨a0_,av0,rfl,h_0⟩:=au h
 obtain ⟨a1_,av1,rfl,h_1⟩:=au h_0
 obtain ⟨a2_,av2,rfl,h_2⟩:=au h_1
 obtain ⟨rfl,h_3⟩:=ay h_2
 obtain ⟨rfl,h_4⟩:=ay h_3
 obtain ⟨d1,rfl,h_5⟩:=ak h_4
 obtain ⟨d2,rfl,h_6⟩:=ak h_5
 obtain ⟨d3,rfl,h_7⟩:=ak h_6
 exact xq (apT d1 d2 d3) (ali d1 d2 d3) h_7
def rJ (h4_0_0:Int):Int→Tre (Int ⊕ (Bool ⊕ Unit)):=fun s4=>
 .mat (rW s4) fun r1=>
 .mat (rW h4_0_0) fun r2=>
 .cond (decide (aP .i64 (2*r1)≤r2))
  (.mat (aaf h4_0_0 s4) fun r3=>
  .cond (decide (r3=0))
   (.ret (.inr (.inl false)))
   (.ret (.inl (aP .i64 (s4+1)))))
  (.ret (.inr (.inr ())))
def Gx (p0:Int):Tre Bool:=
 .cond (decide (p0<2))
  (.ret false)
  (.cond (decide (p0 ≥ 64))
   (.ret false)
   (.mat (aR (rJ p0) 2) fun l4=>
   .alt l4
    (fun a5=>
     .ret a5)
    (fun _=>
     .ret true)))
def vB (p0:Int):Option Bool:=(Gx p0).run some
def om:Env:=⟨tau,[(133,IV),(111,aag)],[]⟩
def vC:Code:=(Tryz.f136.body).getD .skip
def uT (h4_0_0:Int):Int→St:=fun x=>bR [(0,(.imm true (.int .i64) h4_0_0)),(3,(.imm true (.int .i64) x))] []
def lV (_h4_0_0:Int):(Bool ⊕ Unit)→Ex×St
 |.inl x=>(.ret,bR [(2,(.imm true .bool x))] [])
 |.inr _=>(.exit 0,bR [(2,.dead)] [])
def FI (s:St):Tre (Ex×St):=
 aC true (.int .i64) (s.tmps 0) fun d2=>
 aC true (.int .i64) (s.tmps 3) fun d4=>
 .mat (aR (rJ d2) d4) fun x=>.alt x (fun a0=>.ret (lV d2 (.inl a0))) (fun b0=>.ret (lV d2 (.inr b0)))
def iZ:bK:=⟨([0,3],[]),([2],[]),FI⟩
def vo:List (Nat×bK):=[(4,iZ)]
theorem Px:∀(h4_0_0:Int)(x:Int)(c:St→Option (Ex×St)),den om vo (aY vC 0) (uT h4_0_0 x) (bU iZ.kp iZ.kx c)=(rJ h4_0_0 x).run (bV (uT h4_0_0) (lV h4_0_0) c):=fun _ _ _=>by
 kernel_rfl
theorem Uf:bS om vo (aY vC 0) iZ:=bA fun s e s' h=>by
 generalize hs:restrict iZ.kp s=s1 at h
 have h:(FI s1).run some=some (e,s'):=h
 obtain ⟨d2,e1,h_0⟩:=ak h
 obtain ⟨d4,e3,h_1⟩:=ak h_0
 obtain ⟨y,hy,hz⟩:=jR h_1
 refine ⟨_,_,uT d2,lV d2,rJ d2,d4,y,?_,hy,?_,Px d2⟩
 ·subst hs;exact aT (T:=[(0,(.imm true (.int .i64) d2)),(3,(.imm true (.int .i64) d4))]) (U:=[]) rfl rfl ⟨e1,e3,trivial⟩ trivial
 ·rcases y with x|x<;>exact Option.some.inj hz
def MH:FnI:=⟨vC,Tryz.f136.results.toList,Tryz.f136.resultTypes.toList,vo⟩
def Ih (_p0:Int):Bool→aB:=fun r=>⟨(.imm true .bool r),[],[]⟩
theorem Z6:∀(p0:Int),bN om MH ⟨[(.imm true (.int .i64) p0)],[]⟩=(Gx p0).run fun r=>some (Ih p0 r):=fun _=>by kernel_rfl
def MG (av:List AV) (rs:List Root):Tre aB:=
 aJ av fun a0_ av0=>
 aU av0<|
 aU rs<|
 aC true (.int .i64) a0_ fun d1=>
 .mat (vB d1) fun r=>.ret (Ih d1 r)
def MI:Ctr:=⟨[],fun ci=>MG ci.args ci.roots,false⟩
theorem X4:bM Tryz.prog .none om:=(aA Oi arQ (aA afX avS aN))
theorem Z7:Contract Tryz.prog .none 136 MI:=by
 have hl:aZ om vo vC:=(bC (n:=1) (by kernel_rfl) fun k hk=>by
   match k,hk with
   |0,_=>exact bq (id:=4) (L:=iZ) (by kernel_rfl) (by kernel_rfl) Uf)
 refine (aI (F:=MH) bg X4 Tryz.func136 (by kernel_rfl) (by kernel_rfl) (by kernel_rfl) hl []).weaken ?_
 rintro ⟨av,rs⟩ co h
 have h:(MG av rs).run some=some co:=h
 obtain ⟨a0_,av0,rfl,h_0⟩:=au h
 obtain ⟨rfl,h_1⟩:=ay h_0
 obtain ⟨rfl,h_2⟩:=ay h_1
 obtain ⟨d1,rfl,h_3⟩:=ak h_2
 exact bJ (Z6 d1) h_3
def IL (p0:(Int×(Int×Unit))):Tre Bool:=
 .cond (inR p0.1 1 5)
  (.mat (vB p0.2.1) fun r1=>
  .cond r1
   (.mat (rW p0.2.1) fun r2=>
   .ret (decide (r2=p0.1)))
   (.ret false))
  (.ret false)
def wz (p0:(Int×(Int×Unit))):Option Bool:=(IL p0).run some
-- more
theorem Sv(f:Int×Int×Unit):wz f=some (aO f):=by
 refine apB ?_ ?_ (by kernel_rfl) f
 ·intro f h
  unfold wz IL
  rw [Tre.aG,h];rfl
 ·intro f h
  unfold wz IL
  rw [Tre.aG]
  have:vB f.2.1=some false:=by
   unfold vB Gx
   rw [Tre.aG]
   by_cases h1:f.2.1<2
   ·rw [decide_eq_true h1];rfl
   ·rw [decide_eq_false h1,cond_false,Tre.aG,decide_eq_true (by omega)];rfl
  rw [ah this]
  cases inR f.1 1 5<;>rfl
def Kc:Env:=⟨tau,[(92,KD),(136,MI),(133,IV)],[]⟩
def Vb:Code:=(Tryz.f118.body).getD .skip
def Va:FnI:=⟨Vb,Tryz.f118.results.toList,Tryz.f118.resultTypes.toList,[]⟩
def Pz (_p0:(Int×(Int×Unit))):Bool→aB:=fun r=>⟨(.imm true .bool r),[],[]⟩
theorem ahq:∀(p0:(Int×(Int×Unit))),bN Kc Va ⟨[(.imm true aL p0)],[]⟩=(IL p0).run fun r=>some (Pz p0 r):=fun _=>by kernel_rfl
def U9 (av:List AV) (rs:List Root):Tre aB:=
 aJ av fun a0_ av0=>
 aU av0<|
 aU rs<|
 aC true aL a0_ fun d1=>
 .mat (wz d1) fun r=>.ret (Pz d1 r)
def Vd:Ctr:=⟨[],fun ci=>U9 ci.args ci.roots,false⟩
theorem aec:bM Tryz.prog .none Kc:=(aA MO asT (aA Z7 aAj (aA Oi arQ aN)))
theorem ahr:Contract Tryz.prog .none 118 Vd:=by
 have hl:aZ Kc [] Vb:=bB (by kernel_rfl)
 refine (aI (F:=Va) bg aec Tryz.func118 (by kernel_rfl) (by kernel_rfl) (by kernel_rfl) hl []).weaken ?_
 rintro ⟨av,rs⟩ co h
 have h:(U9 av rs).run some=some co:=h
 obtain ⟨a0_,av0,rfl,h_0⟩:=au h
 obtain ⟨rfl,h_1⟩:=ay h_0
 obtain ⟨rfl,h_2⟩:=ay h_1
 obtain ⟨d1,rfl,h_3⟩:=ak h_2
 exact bJ (ahq d1) h_3
def zQ (p0:Int) (p1:(Int×(Int×Unit))):Tre Bool:=
 .mat (tu p1) fun r1=>
 let v2:=inR p0 0 (aP .i64 (r1-1))
 .ret (!v2)
def nY (p0:Int) (p1:(Int×(Int×Unit))):Option Bool:=(zQ p0 p1).run some
def vT:Env:=⟨tau,[(95,Gv),(92,KD)],[]⟩
def EZ:Code:=(Tryz.f94.body).getD .skip
def EY:FnI:=⟨EZ,Tryz.f94.results.toList,Tryz.f94.resultTypes.toList,[]⟩
def Bo (_p0:Int) (p1:(Int×(Int×Unit))):Bool→aB:=fun r=>⟨(.imm true .bool r),[⟨true,aL,.own,p1⟩],[]⟩
theorem TQ:∀(p0:Int)(p1:(Int×(Int×Unit))),bN vT EY ⟨[(.imm true (.int .i64) p0),(.ptr (0,0) [])],[⟨true,aL,.own,p1⟩]⟩=(zQ p0 p1).run fun r=>some (Bo p0 p1 r):=fun _ _=>by kernel_rfl
def EX (av:List AV) (rs:List Root):Tre aB:=
 aJ av fun a0_ av0=>
 aJ av0 fun a1_ av1=>
 aU av1<|
 aJ rs fun r0_ rs0=>
 aU rs0<|
 aC true (.int .i64) a0_ fun d1=>
 dU (0,0) [] a1_<|
 Js true aL r0_ fun m2 d3=>
 asM .own m2<|
 .mat (nY d1 d3) fun r=>.ret (Bo d1 d3 r)
def E5:Ctr:=⟨[],fun ci=>EX ci.args ci.roots,false⟩
theorem QN:bM Tryz.prog .none vT:=(aA O4 azn (aA MO asT aN))
theorem TR:Contract Tryz.prog .none 94 E5:=by
 have hl:aZ vT [] EZ:=bB (by kernel_rfl)
 refine (aI (F:=EY) bg QN Tryz.func94 (by kernel_rfl) (by kernel_rfl) (by kernel_rfl) hl []).weaken ?_
 rintro ⟨av,rs⟩ co h
 have h:(EX av rs).run some=some co:=h
 obtain ⟨a0_,av0,rfl,h_0⟩:=au h
 obtain ⟨a1_,av1,rfl,h_1⟩:=au h_0
 obtain ⟨rfl,h_2⟩:=ay h_1
 obtain ⟨r0_,rs0,rfl,h_3⟩:=au h_2
 obtain ⟨rfl,h_4⟩:=ay h_3
 obtain ⟨d1,rfl,h_5⟩:=ak h_4
 obtain ⟨rfl,h_6⟩:=bF h_5
 obtain ⟨m2,d3,rfl,h_7⟩:=eY h_6
 obtain ⟨rfl,h_8⟩:=aQ h_7
 exact bJ (TQ d1 d3) h_8
def aeH (h2_0_0:List Int) (h2_0_1:Int) (h2_0_3:(Int×(Int×Unit))):Int→Tre (Int ⊕ (Int ⊕ Unit)):=fun s2=>
 .cond (decide (s2<h2_0_1))
  (.ite (0≤s2∧s2<(h2_0_0.length:Int))<|
  .mat (h2_0_0[s2.toNat]?) fun x1=>
  .mat (nY x1 h2_0_3) fun r2=>
  .cond r2
   (.ret (.inr (.inl s2)))
   (.ret (.inl (aP .i64 (s2+1)))))
  (.ret (.inr (.inr ())))
def nm5 (p0:List Int) (p1:(Int×(Int×Unit))):Tre Int:=
 .mat (aR (aeH p0 (p0.length:Int) p1) 0) fun l3=>
 .alt l3
  (fun a4=>
   .ret a4)
  (fun _=>
   .ret (-1))
def atq (p0:List Int) (p1:(Int×(Int×Unit))):Option Int:=(nm5 p0 p1).run some
def aqm:Env:=⟨tau,[(94,E5)],[]⟩
def atr:Code:=(Tryz.f99.body).getD .skip
def aeI (z2_0:Bool) (h2_0_0:List Int) (h2_0_1:Int) (h2_0_3:(Int×(Int×Unit))):Int→St:=fun x=>bR [(0,(.imm z2_0 (.sl (.int .i64)) h2_0_0)),(1,(.fn 94 [(0,0)])),(7,(.imm true (.int .i64) h2_0_1)),(8,(.imm true (.int .i64) x))] [((0,0),some ⟨true,aL,.own,h2_0_3⟩)]
def Rs (_z2_0:Bool) (_h2_0_0:List Int) (_h2_0_1:Int) (h2_0_3:(Int×(Int×Unit))):(Int ⊕ Unit)→Ex×St
 |.inl x=>(.ret,bR [(4,(.imm true (.int .i64) x))] [((0,0),some ⟨true,aL,.own,h2_0_3⟩)])
 |.inr _=>(.exit 0,bR [(4,.dead)] [((0,0),some ⟨true,aL,.own,h2_0_3⟩)])
def aqn (s:St):Tre (Ex×St):=
 bE (.sl (.int .i64)) (s.tmps 0) fun z3 d2=>
 aa4 94 [(0,0)] (s.tmps 1)<|
 aC true (.int .i64) (s.tmps 7) fun d6=>
 aC true (.int .i64) (s.tmps 8) fun d8=>
 bD true aL (s.roots (0,0)) fun m10 d11=>
 asM .own m10<|
 .mat (aR (aeH d2 d6 d11) d8) fun x=>.alt x (fun a0=>.ret (Rs z3 d2 d6 d11 (.inl a0))) (fun b0=>.ret (Rs z3 d2 d6 d11 (.inr b0)))
def PX:bK:=⟨([0,1,7,8],[(0,0)]),([4],[(0,0)]),aqn⟩
def atp:List (Nat×bK):=[(2,PX)]
theorem aqo:∀(z2_0:Bool)(h2_0_0:List Int)(h2_0_1:Int)(h2_0_3:(Int×(Int×Unit)))(x:Int)(c:St→Option (Ex×St)),den aqm atp (aY atr 0) (aeI z2_0 h2_0_0 h2_0_1 h2_0_3 x) (bU PX.kp PX.kx c)=(aeH h2_0_0 h2_0_1 h2_0_3 x).run (bV (aeI z2_0 h2_0_0 h2_0_1 h2_0_3) (Rs z2_0 h2_0_0 h2_0_1 h2_0_3) c):=fun _ _ _ _ _ _=>by
 kernel_rfl
theorem auF:bS aqm atp (aY atr 0) PX:=bA fun s e s' h=>by
 generalize hs:restrict PX.kp s=s1 at h
 have h:(aqn s1).run some=some (e,s'):=h
 obtain ⟨z3,d2,e1,h_0⟩:=aD h
 obtain ⟨e4,h_1⟩:=nK h_0
 obtain ⟨d6,e5,h_2⟩:=ak h_1
 obtain ⟨d8,e7,h_3⟩:=ak h_2
 obtain ⟨m10,d11,e9,h_4⟩:=aH h_3
 obtain ⟨rfl,h_5⟩:=aQ h_4
 obtain ⟨y,hy,hz⟩:=jR h_5
 refine ⟨_,_,aeI z3 d2 d6 d11,Rs z3 d2 d6 d11,aeH d2 d6 d11,d8,y,?_,hy,?_,aqo z3 d2 d6 d11⟩
 ·subst hs;exact aT (T:=[(0,(.imm z3 (.sl (.int .i64)) d2)),(1,(.fn 94 [(0,0)])),(7,(.imm true (.int .i64) d6)),(8,(.imm true (.int .i64) d8))]) (U:=[((0,0),some ⟨true,aL,.own,d11⟩)]) rfl rfl ⟨e1,e4,e5,e7,trivial⟩ ⟨e9,trivial⟩
 ·rcases y with x|x<;>exact Option.some.inj hz
def azI:FnI:=⟨atr,Tryz.f99.results.toList,Tryz.f99.resultTypes.toList,atp⟩
def att (_zp0:Bool) (_p0:List Int) (p1:(Int×(Int×Unit))):Int→aB:=fun r=>⟨(.imm true (.int .i64) r),[⟨true,aL,.own,p1⟩],[]⟩
theorem aAG:∀(zp0:Bool)(p0:List Int)(p1:(Int×(Int×Unit))),bN aqm azI ⟨[(.imm zp0 (.sl (.int .i64)) p0),(.fn 94 [(0,0)])],[⟨true,aL,.own,p1⟩]⟩=(nm5 p0 p1).run fun r=>some (att zp0 p0 p1 r):=fun _ _ _=>by kernel_rfl
def azH (av:List AV) (rs:List Root):Tre aB:=
 aJ av fun a0_ av0=>
 aJ av0 fun a1_ av1=>
 aU av1<|
 aJ rs fun r0_ rs0=>
 aU rs0<|
 bE (.sl (.int .i64)) a0_ fun z2 d1=>
 aa4 94 [(0,0)] a1_<|
 Js true aL r0_ fun m3 d4=>
 asM .own m3<|
 .mat (atq d1 d4) fun r=>.ret (att z2 d1 d4 r)
def azJ:Ctr:=⟨[],fun ci=>azH ci.args ci.roots,false⟩
theorem ayp:bM Tryz.prog .none aqm:=(aA TR aBK aN)
theorem aAH:Contract Tryz.prog .none 99 azJ:=by
 have hl:aZ aqm atp atr:=(bC (n:=1) (by kernel_rfl) fun k hk=>by
   match k,hk with
   |0,_=>exact bq (id:=2) (L:=PX) (by kernel_rfl) (by kernel_rfl) auF)
 refine (aI (F:=azI) bg ayp Tryz.func99 (by kernel_rfl) (by kernel_rfl) (by kernel_rfl) hl []).weaken ?_
 rintro ⟨av,rs⟩ co h
 have h:(azH av rs).run some=some co:=h
 obtain ⟨a0_,av0,rfl,h_0⟩:=au h
 obtain ⟨a1_,av1,rfl,h_1⟩:=au h_0
 obtain ⟨rfl,h_2⟩:=ay h_1
 obtain ⟨r0_,rs0,rfl,h_3⟩:=au h_2
 obtain ⟨rfl,h_4⟩:=ay h_3
 obtain ⟨z2,d1,rfl,h_5⟩:=aD h_4
 obtain ⟨rfl,h_6⟩:=nK h_5
 obtain ⟨m3,d4,rfl,h_7⟩:=eY h_6
 obtain ⟨rfl,h_8⟩:=aQ h_7
 exact bJ (aAG z2 d1 d4) h_8
def nm4 (p0:List Int) (p1:(Int×(Int×Unit))):Tre Bool:=
 .mat (atq p0 p1) fun r1=>
 .ret (decide (r1 ≥ 0))
def atn (p0:List Int) (p1:(Int×(Int×Unit))):Option Bool:=(nm4 p0 p1).run some
def awL:Env:=⟨tau,[(99,azJ)],[]⟩
def azF:Code:=(Tryz.f93.body).getD .skip
def azE:FnI:=⟨azF,Tryz.f93.results.toList,Tryz.f93.resultTypes.toList,[]⟩
def ato (_zp0:Bool) (_p0:List Int) (p1:(Int×(Int×Unit))):Bool→aB:=fun r=>⟨(.imm true .bool r),[⟨true,aL,.own,p1⟩],[]⟩
theorem aAE:∀(zp0:Bool)(p0:List Int)(p1:(Int×(Int×Unit))),bN awL azE ⟨[(.imm zp0 (.sl (.int .i64)) p0),(.fn 94 [(0,0)])],[⟨true,aL,.own,p1⟩]⟩=(nm4 p0 p1).run fun r=>some (ato zp0 p0 p1 r):=fun _ _ _=>by kernel_rfl
def azD (av:List AV) (rs:List Root):Tre aB:=
 aJ av fun a0_ av0=>
 aJ av0 fun a1_ av1=>
 aU av1<|
 aJ rs fun r0_ rs0=>
 aU rs0<|
 bE (.sl (.int .i64)) a0_ fun z2 d1=>
 aa4 94 [(0,0)] a1_<|
 Js true aL r0_ fun m3 d4=>
 asM .own m3<|
 .mat (atn d1 d4) fun r=>.ret (ato z2 d1 d4 r)
def azG:Ctr:=⟨[],fun ci=>azD ci.args ci.roots,false⟩
theorem ayo:bM Tryz.prog .none awL:=(aA aAH av5 aN)
theorem aAF:Contract Tryz.prog .none 93 azG:=by
 have hl:aZ awL [] azF:=bB (by kernel_rfl)
 refine (aI (F:=azE) bg ayo Tryz.func93 (by kernel_rfl) (by kernel_rfl) (by kernel_rfl) hl []).weaken ?_
 rintro ⟨av,rs⟩ co h
 have h:(azD av rs).run some=some co:=h
 obtain ⟨a0_,av0,rfl,h_0⟩:=au h
 obtain ⟨a1_,av1,rfl,h_1⟩:=au h_0
 obtain ⟨rfl,h_2⟩:=ay h_1
 obtain ⟨r0_,rs0,rfl,h_3⟩:=au h_2
 obtain ⟨rfl,h_4⟩:=ay h_3
 obtain ⟨z2,d1,rfl,h_5⟩:=aD h_4
 obtain ⟨rfl,h_6⟩:=nK h_5
 obtain ⟨m3,d4,rfl,h_7⟩:=eY h_6
 obtain ⟨rfl,h_8⟩:=aQ h_7
 exact bJ (aAE z2 d1 d4) h_8
def UO (p0:(Int×(Int×Unit))) (p1:List Int):Tre Bool:=
 .mat (atn p1 p0) fun r1=>
 .ret (!r1)
def y9 (p0:(Int×(Int×Unit))) (p1:List Int):Option Bool:=(UO p0 p1).run some
-- more
theorem ad7{f:TF3}(hf:aO f=true)(x:Int):nY x f=some (!inR x 0 (Uw f)):=by
 have:=nX hf
 have h1:tu f=some (ael .i64 1 f.1):=by
  unfold tu NW
  rw [Tre.run_ite,if_pos (by omega)]
  rfl
 unfold nY zQ
 rw [ah h1,axr hf]
 rfl
theorem UQ{f:TF3}(hf:aO f=true)(c:List Int)(hc:c.length<4611686018427387904):y9 f c=some (pE f c):=by
 have h1:atq c f=some (oq (fun x=>!inR x 0 (Uw f)) 0 c):=by
  unfold atq nm5
  rw [Tre.oF,OT (xs:=c) (fun i x=>cond (!inR x 0 (Uw f)) (some (.inl (i:Int))) none) (.inr ())]
  ·rw [Option.bind_some,←Xq (p:=fun x=>!inR x 0 (Uw f))]
   generalize UG _ _ _ _=r
   cases r<;>rfl
  ·intro i x hx
   have hi:i<c.length:=(List.getElem?_eq_some_iff.1 hx).1
   unfold aeH
   rw [dP hx,ah (ad7 hf x),Tre.aG]
   cases inR x 0 (Uw f)
   ·rfl
   ·simp only [Bool.not_true,cond_false,Tre.aK,aV (show i<4611686018427387904 by omega)]
  ·unfold aeH
   exact dw
 have h2:atn c f=some (decide (oq (fun x=>!inR x 0 (Uw f)) 0 c ≥ 0)):=by
  unfold atn nm4
  rw [ah h1]
  rfl
 unfold y9 UO pE
 rw [ah h2,←awp (p:=fun x=>inR x 0 (Uw f))]
 rfl
def NY:Env:=⟨tau,[(93,azG)],[]⟩
def YJ:Code:=(Tryz.f60.body).getD .skip
def YI:FnI:=⟨YJ,Tryz.f60.results.toList,Tryz.f60.resultTypes.toList,[]⟩
def Sg (_zp0:Bool) (_p0:(Int×(Int×Unit))) (_p1:List Int):Bool→aB:=fun r=>⟨(.imm true .bool r),[],[]⟩
theorem ai4:∀(zp0:Bool)(p0:(Int×(Int×Unit)))(p1:List Int),bN NY YI ⟨[(.imm true aL p0),(.imm zp0 (.sl (.int .i64)) p1)],[]⟩=(UO p0 p1).run fun r=>some (Sg zp0 p0 p1 r):=fun _ _ _=>by kernel_rfl
def YH (av:List AV) (rs:List Root):Tre aB:=
 aJ av fun a0_ av0=>
 aJ av0 fun a1_ av1=>
 aU av1<|
 aU rs<|
 aC true aL a0_ fun d1=>
 bE (.sl (.int .i64)) a1_ fun z3 d2=>
 .mat (y9 d1 d2) fun r=>.ret (Sg z3 d1 d2 r)
def NZ:Ctr:=⟨[],fun ci=>YH ci.args ci.roots,false⟩
theorem ahm:bM Tryz.prog .none NY:=(aA aAF aBJ aN)
theorem UR:Contract Tryz.prog .none 60 NZ:=by
 have hl:aZ NY [] YJ:=bB (by kernel_rfl)
 refine (aI (F:=YI) bg ahm Tryz.func60 (by kernel_rfl) (by kernel_rfl) (by kernel_rfl) hl []).weaken ?_
 rintro ⟨av,rs⟩ co h
 have h:(YH av rs).run some=some co:=h
 obtain ⟨a0_,av0,rfl,h_0⟩:=au h
 obtain ⟨a1_,av1,rfl,h_1⟩:=au h_0
 obtain ⟨rfl,h_2⟩:=ay h_1
 obtain ⟨rfl,h_3⟩:=ay h_2
 obtain ⟨d1,rfl,h_4⟩:=ak h_3
 obtain ⟨z3,d2,rfl,h_5⟩:=aD h_4
 exact bJ (ai4 z3 d1 d2) h_5
def JF (p0:(Int×(Int×Unit))) (p1:List Int):Tre Bool:=
 let v1:=inR (p1.length:Int) 1 5
 .cond v1
  (.mat (y9 p0 p1) fun r2=>
  .ret r2)
  (.ret false)
def xB (p0:(Int×(Int×Unit))) (p1:List Int):Option Bool:=(JF p0 p1).run some
def Dt:Env:=⟨tau,[(45,qp),(92,KD),(60,NZ)],[]⟩
def Pb:Code:=(Tryz.f121.body).getD .skip
def O9:FnI:=⟨Pb,Tryz.f121.results.toList,Tryz.f121.resultTypes.toList,[]⟩
def JG (_zp0:Bool) (_p0:(Int×(Int×Unit))) (_p1:List Int):Bool→aB:=fun r=>⟨(.imm true .bool r),[],[]⟩
theorem abm:∀(zp0:Bool)(p0:(Int×(Int×Unit)))(p1:List Int),bN Dt O9 ⟨[(.imm true aL p0),(.imm zp0 (.sl (.int .i64)) p1)],[]⟩=(JF p0 p1).run fun r=>some (JG zp0 p0 p1 r):=fun _ _ _=>by kernel_rfl
def O8 (av:List AV) (rs:List Root):Tre aB:=
 aJ av fun a0_ av0=>
 aJ av0 fun a1_ av1=>
 aU av1<|
 aU rs<|
 aC true aL a0_ fun d1=>
 bE (.sl (.int .i64)) a1_ fun z3 d2=>
 .mat (xB d1 d2) fun r=>.ret (JG z3 d1 d2 r)
def Pd:Ctr:=⟨[],fun ci=>O8 ci.args ci.roots,false⟩
theorem ZW:bM Tryz.prog .none Dt:=(aA tJ apy (aA MO asT (aA UR azh aN)))
theorem abn:Contract Tryz.prog .none 121 Pd:=by
 have hl:aZ Dt [] Pb:=bB (by kernel_rfl)
 refine (aI (F:=O9) bg ZW Tryz.func121 (by kernel_rfl) (by kernel_rfl) (by kernel_rfl) hl []).weaken ?_
 rintro ⟨av,rs⟩ co h
 have h:(O8 av rs).run some=some co:=h
 obtain ⟨a0_,av0,rfl,h_0⟩:=au h
 obtain ⟨a1_,av1,rfl,h_1⟩:=au h_0
 obtain ⟨rfl,h_2⟩:=ay h_1
 obtain ⟨rfl,h_3⟩:=ay h_2
 obtain ⟨d1,rfl,h_4⟩:=ak h_3
 obtain ⟨z3,d2,rfl,h_5⟩:=aD h_4
 exact bJ (abm z3 d1 d2) h_5
def qg (p0:List Int) (p1:(Int×(Int×Unit))) (p2:(List (List Int))):Tre Bool:=
 .mat (xB p1 p0) fun r1=>
 .cond (!r1)
  (.ret true)
  (.ite ((0:Int)≤0∧(0:Int)<(p2.length:Int))<|
  .mat (p2[0]?) fun x2=>
  .ret (!decide ((p0.length:Int)=(x2.length:Int))))
def gF (p0:List Int) (p1:(Int×(Int×Unit))) (p2:(List (List Int))):Option Bool:=(qg p0 p1 p2).run some
def nD:Env:=⟨tau,[(121,Pd)],[]⟩
def yg:Code:=(Tryz.f120.body).getD .skip
def xZ:FnI:=⟨yg,Tryz.f120.results.toList,Tryz.f120.resultTypes.toList,[]⟩
def vk (_zp0:Bool) (zp1:Bool) (_p0:List Int) (p1:(Int×(Int×Unit))) (p2:(List (List Int))):Bool→aB:=fun r=>⟨(.imm true .bool r),[⟨true,aL,.own,p1⟩,⟨true,(.sl (.sl (.int .i64))),(.imm zp1),p2⟩],[]⟩
theorem JX:∀(zp0:Bool)(zp1:Bool)(p0:List Int)(p1:(Int×(Int×Unit)))(p2:(List (List Int))),bN nD xZ ⟨[(.imm zp0 (.sl (.int .i64)) p0),(.ptr (0,0) []),(.ptr (0,1) [])],[⟨true,aL,.own,p1⟩,⟨true,(.sl (.sl (.int .i64))),(.imm zp1),p2⟩]⟩=(qg p0 p1 p2).run fun r=>some (vk zp0 zp1 p0 p1 p2 r):=fun _ _ _ _ _=>by kernel_rfl
def xY (av:List AV) (rs:List Root):Tre aB:=
 aJ av fun a0_ av0=>
 aJ av0 fun a1_ av1=>
 aJ av1 fun a2_ av2=>
 aU av2<|
 aJ rs fun r0_ rs0=>
 aJ rs0 fun r1_ rs1=>
 aU rs1<|
 bE (.sl (.int .i64)) a0_ fun z2 d1=>
 dU (0,0) [] a1_<|
 dU (0,1) [] a2_<|
 Js true aL r0_ fun m3 d4=>
 asM .own m3<|
 Js true (.sl (.sl (.int .i64))) r1_ fun m5 d6=>
 vQ m5 fun z7=>
 .mat (gF d1 d4 d6) fun r=>.ret (vk z2 z7 d1 d4 d6 r)
def yh:Ctr:=⟨[],fun ci=>xY ci.args ci.roots,false⟩
theorem IJ:bM Tryz.prog .none nD:=(aA abn az9 aN)
theorem JY:Contract Tryz.prog .none 120 yh:=by
 have hl:aZ nD [] yg:=bB (by kernel_rfl)
 refine (aI (F:=xZ) bg IJ Tryz.func120 (by kernel_rfl) (by kernel_rfl) (by kernel_rfl) hl []).weaken ?_
 rintro ⟨av,rs⟩ co h
 have h:(xY av rs).run some=some co:=h
 obtain ⟨a0_,av0,rfl,h_0⟩:=au h
 obtain ⟨a1_,av1,rfl,h_1⟩:=au h_0
 obtain ⟨a2_,av2,rfl,h_2⟩:=au h_1
 obtain ⟨rfl,h_3⟩:=ay h_2
 obtain ⟨r0_,rs0,rfl,h_4⟩:=au h_3
 obtain ⟨r1_,rs1,rfl,h_5⟩:=au h_4
 obtain ⟨rfl,h_6⟩:=ay h_5
 obtain ⟨z2,d1,rfl,h_7⟩:=aD h_6
 obtain ⟨rfl,h_8⟩:=bF h_7
 obtain ⟨rfl,h_9⟩:=bF h_8
 obtain ⟨m3,d4,rfl,h_10⟩:=eY h_9
 obtain ⟨rfl,h_11⟩:=aQ h_10
 obtain ⟨m5,d6,rfl,h_12⟩:=eY h_11
 obtain ⟨z7,rfl,h_13⟩:=fH h_12
 exact bJ (JX z2 z7 d1 d4 d6) h_13
def VK (h2_0_0:(List (List Int))) (h2_0_1:Int) (h2_0_3:(Int×(Int×Unit))) (h2_0_4:(List (List Int))):Int→Tre (Int ⊕ (Int ⊕ Unit)):=fun s2=>
 .cond (decide (s2<h2_0_1))
  (.ite (0≤s2∧s2<(h2_0_0.length:Int))<|
  .mat (h2_0_0[s2.toNat]?) fun x1=>
  .mat (gF x1 h2_0_3 h2_0_4) fun r2=>
  .cond r2
   (.ret (.inr (.inl s2)))
   (.ret (.inl (aP .i64 (s2+1)))))
  (.ret (.inr (.inr ())))
def nm2 (p0:(List (List Int))) (p1:(Int×(Int×Unit))) (p2:(List (List Int))):Tre Int:=
 .mat (aR (VK p0 (p0.length:Int) p1 p2) 0) fun l3=>
 .alt l3
  (fun a4=>
   .ret a4)
  (fun _=>
   .ret (-1))
def atf (p0:(List (List Int))) (p1:(Int×(Int×Unit))) (p2:(List (List Int))):Option Int:=(nm2 p0 p1 p2).run some
def aqg:Env:=⟨tau,[(120,yh)],[]⟩
def atg:Code:=(Tryz.f122.body).getD .skip
def aeE (z2_0:Bool) (z2_1:Bool) (h2_0_0:(List (List Int))) (h2_0_1:Int) (h2_0_3:(Int×(Int×Unit))) (h2_0_4:(List (List Int))):Int→St:=fun x=>bR [(0,(.imm z2_0 (.sl (.sl (.int .i64))) h2_0_0)),(1,(.fn 120 [(0,0),(0,1)])),(7,(.imm true (.int .i64) h2_0_1)),(8,(.imm true (.int .i64) x))] [((0,0),some ⟨true,aL,.own,h2_0_3⟩),((0,1),some ⟨true,(.sl (.sl (.int .i64))),(.imm z2_1),h2_0_4⟩)]
def Rp (_z2_0:Bool) (z2_1:Bool) (_h2_0_0:(List (List Int))) (_h2_0_1:Int) (h2_0_3:(Int×(Int×Unit))) (h2_0_4:(List (List Int))):(Int ⊕ Unit)→Ex×St
 |.inl x=>(.ret,bR [(4,(.imm true (.int .i64) x))] [((0,0),some ⟨true,aL,.own,h2_0_3⟩),((0,1),some ⟨true,(.sl (.sl (.int .i64))),(.imm z2_1),h2_0_4⟩)])
 |.inr _=>(.exit 0,bR [(4,.dead)] [((0,0),some ⟨true,aL,.own,h2_0_3⟩),((0,1),some ⟨true,(.sl (.sl (.int .i64))),(.imm z2_1),h2_0_4⟩)])
def aqh (s:St):Tre (Ex×St):=
 bE (.sl (.sl (.int .i64))) (s.tmps 0) fun z3 d2=>
 aa4 120 [(0,0),(0,1)] (s.tmps 1)<|
 aC true (.int .i64) (s.tmps 7) fun d6=>
 aC true (.int .i64) (s.tmps 8) fun d8=>
 bD true aL (s.roots (0,0)) fun m10 d11=>
 asM .own m10<|
 bD true (.sl (.sl (.int .i64))) (s.roots (0,1)) fun m13 d14=>
 vQ m13 fun z15=>
 .mat (aR (VK d2 d6 d11 d14) d8) fun x=>.alt x (fun a0=>.ret (Rp z3 z15 d2 d6 d11 d14 (.inl a0))) (fun b0=>.ret (Rp z3 z15 d2 d6 d11 d14 (.inr b0)))
def PV:bK:=⟨([0,1,7,8],[(0,0),(0,1)]),([4],[(0,0),(0,1)]),aqh⟩
def ate:List (Nat×bK):=[(2,PV)]
theorem aqi:∀(z2_0:Bool)(z2_1:Bool)(h2_0_0:(List (List Int)))(h2_0_1:Int)(h2_0_3:(Int×(Int×Unit)))(h2_0_4:(List (List Int)))(x:Int)(c:St→Option (Ex×St)),den aqg ate (aY atg 0) (aeE z2_0 z2_1 h2_0_0 h2_0_1 h2_0_3 h2_0_4 x) (bU PV.kp PV.kx c)=(VK h2_0_0 h2_0_1 h2_0_3 h2_0_4 x).run (bV (aeE z2_0 z2_1 h2_0_0 h2_0_1 h2_0_3 h2_0_4) (Rp z2_0 z2_1 h2_0_0 h2_0_1 h2_0_3 h2_0_4) c):=fun _ _ _ _ _ _ _ _=>by
 kernel_rfl
theorem auD:bS aqg ate (aY atg 0) PV:=bA fun s e s' h=>by
 generalize hs:restrict PV.kp s=s1 at h
 have h:(aqh s1).run some=some (e,s'):=h
 obtain ⟨z3,d2,e1,h_0⟩:=aD h
 obtain ⟨e4,h_1⟩:=nK h_0
 obtain ⟨d6,e5,h_2⟩:=ak h_1
 obtain ⟨d8,e7,h_3⟩:=ak h_2
 obtain ⟨m10,d11,e9,h_4⟩:=aH h_3
 obtain ⟨rfl,h_5⟩:=aQ h_4
 obtain ⟨m13,d14,e12,h_6⟩:=aH h_5
 obtain ⟨z15,rfl,h_7⟩:=fH h_6
 obtain ⟨y,hy,hz⟩:=jR h_7
 refine ⟨_,_,aeE z3 z15 d2 d6 d11 d14,Rp z3 z15 d2 d6 d11 d14,VK d2 d6 d11 d14,d8,y,?_,hy,?_,aqi z3 z15 d2 d6 d11 d14⟩
 ·subst hs;exact aT (T:=[(0,(.imm z3 (.sl (.sl (.int .i64))) d2)),(1,(.fn 120 [(0,0),(0,1)])),(7,(.imm true (.int .i64) d6)),(8,(.imm true (.int .i64) d8))]) (U:=[((0,0),some ⟨true,aL,.own,d11⟩),((0,1),some ⟨true,(.sl (.sl (.int .i64))),(.imm z15),d14⟩)]) rfl rfl ⟨e1,e4,e5,e7,trivial⟩ ⟨e9,e12,trivial⟩
 ·rcases y with x|x<;>exact Option.some.inj hz
def azy:FnI:=⟨atg,Tryz.f122.results.toList,Tryz.f122.resultTypes.toList,ate⟩
def ath (_zp0:Bool) (zp1:Bool) (_p0:(List (List Int))) (p1:(Int×(Int×Unit))) (p2:(List (List Int))):Int→aB:=fun r=>⟨(.imm true (.int .i64) r),[⟨true,aL,.own,p1⟩,⟨true,(.sl (.sl (.int .i64))),(.imm zp1),p2⟩],[]⟩
theorem aAA:∀(zp0:Bool)(zp1:Bool)(p0:(List (List Int)))(p1:(Int×(Int×Unit)))(p2:(List (List Int))),bN aqg azy ⟨[(.imm zp0 (.sl (.sl (.int .i64))) p0),(.fn 120 [(0,0),(0,1)])],[⟨true,aL,.own,p1⟩,⟨true,(.sl (.sl (.int .i64))),(.imm zp1),p2⟩]⟩=(nm2 p0 p1 p2).run fun r=>some (ath zp0 zp1 p0 p1 p2 r):=fun _ _ _ _ _=>by kernel_rfl
def azx (av:List AV) (rs:List Root):Tre aB:=
 aJ av fun a0_ av0=>
 aJ av0 fun a1_ av1=>
 aU av1<|
 aJ rs fun r0_ rs0=>
 aJ rs0 fun r1_ rs1=>
 aU rs1<|
 bE (.sl (.sl (.int .i64))) a0_ fun z2 d1=>
 aa4 120 [(0,0),(0,1)] a1_<|
 Js true aL r0_ fun m3 d4=>
 asM .own m3<|
 Js true (.sl (.sl (.int .i64))) r1_ fun m5 d6=>
 vQ m5 fun z7=>
 .mat (atf d1 d4 d6) fun r=>.ret (ath z2 z7 d1 d4 d6 r)
def azz:Ctr:=⟨[],fun ci=>azx ci.args ci.roots,false⟩
theorem aym:bM Tryz.prog .none aqg:=(aA JY az8 aN)
theorem aAB:Contract Tryz.prog .none 122 azz:=by
 have hl:aZ aqg ate atg:=(bC (n:=1) (by kernel_rfl) fun k hk=>by
   match k,hk with
   |0,_=>exact bq (id:=2) (L:=PV) (by kernel_rfl) (by kernel_rfl) auD)
 refine (aI (F:=azy) bg aym Tryz.func122 (by kernel_rfl) (by kernel_rfl) (by kernel_rfl) hl []).weaken ?_
 rintro ⟨av,rs⟩ co h
 have h:(azx av rs).run some=some co:=h
 obtain ⟨a0_,av0,rfl,h_0⟩:=au h
 obtain ⟨a1_,av1,rfl,h_1⟩:=au h_0
 obtain ⟨rfl,h_2⟩:=ay h_1
 obtain ⟨r0_,rs0,rfl,h_3⟩:=au h_2
 obtain ⟨r1_,rs1,rfl,h_4⟩:=au h_3
 obtain ⟨rfl,h_5⟩:=ay h_4
 obtain ⟨z2,d1,rfl,h_6⟩:=aD h_5
 obtain ⟨rfl,h_7⟩:=nK h_6
 obtain ⟨m3,d4,rfl,h_8⟩:=eY h_7
 obtain ⟨rfl,h_9⟩:=aQ h_8
 obtain ⟨m5,d6,rfl,h_10⟩:=eY h_9
 obtain ⟨z7,rfl,h_11⟩:=fH h_10
 exact bJ (aAA z2 z7 d1 d4 d6) h_11
def nm0 (p0:(List (List Int))) (p1:(Int×(Int×Unit))) (p2:(List (List Int))):Tre Bool:=
 .mat (atf p0 p1 p2) fun r1=>
 .ret (decide (r1 ≥ 0))
def as8 (p0:(List (List Int))) (p1:(Int×(Int×Unit))) (p2:(List (List Int))):Option Bool:=(nm0 p0 p1 p2).run some
def awK:Env:=⟨tau,[(122,azz)],[]⟩
def azs:Code:=(Tryz.f119.body).getD .skip
def azr:FnI:=⟨azs,Tryz.f119.results.toList,Tryz.f119.resultTypes.toList,[]⟩
def as9 (_zp0:Bool) (zp1:Bool) (_p0:(List (List Int))) (p1:(Int×(Int×Unit))) (p2:(List (List Int))):Bool→aB:=fun r=>⟨(.imm true .bool r),[⟨true,aL,.own,p1⟩,⟨true,(.sl (.sl (.int .i64))),(.imm zp1),p2⟩],[]⟩
theorem aAw:∀(zp0:Bool)(zp1:Bool)(p0:(List (List Int)))(p1:(Int×(Int×Unit)))(p2:(List (List Int))),bN awK azr ⟨[(.imm zp0 (.sl (.sl (.int .i64))) p0),(.fn 120 [(0,0),(0,1)])],[⟨true,aL,.own,p1⟩,⟨true,(.sl (.sl (.int .i64))),(.imm zp1),p2⟩]⟩=(nm0 p0 p1 p2).run fun r=>some (as9 zp0 zp1 p0 p1 p2 r):=fun _ _ _ _ _=>by kernel_rfl
def azq (av:List AV) (rs:List Root):Tre aB:=
 aJ av fun a0_ av0=>
 aJ av0 fun a1_ av1=>
 aU av1<|
 aJ rs fun r0_ rs0=>
 aJ rs0 fun r1_ rs1=>
 aU rs1<|
 bE (.sl (.sl (.int .i64))) a0_ fun z2 d1=>
 aa4 120 [(0,0),(0,1)] a1_<|
 Js true aL r0_ fun m3 d4=>
 asM .own m3<|
 Js true (.sl (.sl (.int .i64))) r1_ fun m5 d6=>
 vQ m5 fun z7=>
 .mat (as8 d1 d4 d6) fun r=>.ret (as9 z2 z7 d1 d4 d6 r)
def azt:Ctr:=⟨[],fun ci=>azq ci.args ci.roots,false⟩
theorem ayk:bM Tryz.prog .none awK:=(aA aAB avU aN)
theorem aAx:Contract Tryz.prog .none 119 azt:=by
 have hl:aZ awK [] azs:=bB (by kernel_rfl)
 refine (aI (F:=azr) bg ayk Tryz.func119 (by kernel_rfl) (by kernel_rfl) (by kernel_rfl) hl []).weaken ?_
 rintro ⟨av,rs⟩ co h
 have h:(azq av rs).run some=some co:=h
 obtain ⟨a0_,av0,rfl,h_0⟩:=au h
 obtain ⟨a1_,av1,rfl,h_1⟩:=au h_0
 obtain ⟨rfl,h_2⟩:=ay h_1
 obtain ⟨r0_,rs0,rfl,h_3⟩:=au h_2
 obtain ⟨r1_,rs1,rfl,h_4⟩:=au h_3
 obtain ⟨rfl,h_5⟩:=ay h_4
 obtain ⟨z2,d1,rfl,h_6⟩:=aD h_5
 obtain ⟨rfl,h_7⟩:=nK h_6
 obtain ⟨m3,d4,rfl,h_8⟩:=eY h_7
 obtain ⟨rfl,h_9⟩:=aQ h_8
 obtain ⟨m5,d6,rfl,h_10⟩:=eY h_9
 obtain ⟨z7,rfl,h_11⟩:=fH h_10
 exact bJ (aAw z2 z7 d1 d4 d6) h_11
def xJ (p0:(Int×(Int×Unit))) (p1:(List (List Int))):Tre Int:=
 .mat (wz p0) fun r1=>
 .cond (!r1)
  (.ret 1)
  (.mat (as8 p1 p0 p1) fun r2=>
  .cond r2
   (.ret 2)
   (.ret 0))
def jX (p0:(Int×(Int×Unit))) (p1:(List (List Int))):Option Int:=(xJ p0 p1).run some
def zR:Env:=⟨tau,[(118,Vd),(119,azt)],[]⟩
def JV:Code:=(Tryz.f90.body).getD .skip
def JU:FnI:=⟨JV,Tryz.f90.results.toList,Tryz.f90.resultTypes.toList,[]⟩
def Fg (_zp0:Bool) (_p0:(Int×(Int×Unit))) (_p1:(List (List Int))):Int→aB:=fun r=>⟨(.imm true (.int .i64) r),[],[]⟩
theorem X0:∀(zp0:Bool)(p0:(Int×(Int×Unit)))(p1:(List (List Int))),bN zR JU ⟨[(.imm true aL p0),(.imm zp0 (.sl (.sl (.int .i64))) p1)],[]⟩=(xJ p0 p1).run fun r=>some (Fg zp0 p0 p1 r):=fun _ _ _=>by kernel_rfl
def JR (av:List AV) (rs:List Root):Tre aB:=
 aJ av fun a0_ av0=>
 aJ av0 fun a1_ av1=>
 aU av1<|
 aU rs<|
 aC true aL a0_ fun d1=>
 bE (.sl (.sl (.int .i64))) a1_ fun z3 d2=>
 .mat (jX d1 d2) fun r=>.ret (Fg z3 d1 d2 r)
def JW:Ctr:=⟨[],fun ci=>JR ci.args ci.roots,false⟩
theorem U4:bM Tryz.prog .none zR:=(aA ahr az6 (aA aAx az7 aN))
theorem X3:Contract Tryz.prog .none 90 JW:=by
 have hl:aZ zR [] JV:=bB (by kernel_rfl)
 refine (aI (F:=JU) bg U4 Tryz.func90 (by kernel_rfl) (by kernel_rfl) (by kernel_rfl) hl []).weaken ?_
 rintro ⟨av,rs⟩ co h
 have h:(JR av rs).run some=some co:=h
 obtain ⟨a0_,av0,rfl,h_0⟩:=au h
 obtain ⟨a1_,av1,rfl,h_1⟩:=au h_0
 obtain ⟨rfl,h_2⟩:=ay h_1
 obtain ⟨rfl,h_3⟩:=ay h_2
 obtain ⟨d1,rfl,h_4⟩:=ak h_3
 obtain ⟨z3,d2,rfl,h_5⟩:=aD h_4
 exact bJ (X0 z3 d1 d2) h_5
def Dy (p0:List Int):Tre Bool:=
 .mat (auh p0) fun r1=>
 .ret (decide ((r1.length:Int)=(p0.length:Int)))
def Kk (p0:List Int):Option Bool:=(Dy p0).run some
def ayg (xs:List Int):Option Bool:=ak1 (KH 62 xs) (decide (((adY xs).length:Int)=(xs.length:Int)))
theorem Ui(p0:List Int)(y:Bool)(h:ayg p0=some y):Kk p0=some y:=by
 obtain ⟨hok,rfl⟩:=Ao h
 unfold Kk Dy
 rw [ah (show auh p0=some _ from pV hok)]
 rfl
def zX:Env:=⟨tau,[(64,Vh)],[]⟩
def Kn:Code:=(Tryz.f91.body).getD .skip
def Km:FnI:=⟨Kn,Tryz.f91.results.toList,Tryz.f91.resultTypes.toList,[]⟩
def FR (_zp0:Bool) (_p0:List Int):Bool→aB:=fun r=>⟨(.imm true .bool r),[],[]⟩
theorem Yb:∀(zp0:Bool)(p0:List Int),bN zX Km ⟨[(.imm zp0 (.sl (.int .i64)) p0)],[]⟩=(Dy p0).run fun r=>some (FR zp0 p0 r):=fun _ _=>by kernel_rfl
def Kl (av:List AV) (rs:List Root):Tre aB:=
 aJ av fun a0_ av0=>
 aU av0<|
 aU rs<|
 bE (.sl (.int .i64)) a0_ fun z2 d1=>
 .mat (ayg d1) fun r=>.ret (FR z2 d1 r)
def Ko:Ctr:=⟨[],fun ci=>Kl ci.args ci.roots,false⟩
theorem Vf:bM Tryz.prog .none zX:=(aA abz azi aN)
theorem Yc:Contract Tryz.prog .none 91 Ko:=by
 have hl:aZ zX [] Kn:=bB (by kernel_rfl)
 refine (aI (F:=Km) bg Vf Tryz.func91 (by kernel_rfl) (by kernel_rfl) (by kernel_rfl) hl []).weaken ?_
 rintro ⟨av,rs⟩ co h
 have h:(Kl av rs).run some=some co:=h
 obtain ⟨a0_,av0,rfl,h_0⟩:=au h
 obtain ⟨rfl,h_1⟩:=ay h_0
 obtain ⟨rfl,h_2⟩:=ay h_1
 obtain ⟨z2,d1,rfl,h_3⟩:=aD h_2
 exact xg (Yb z2 d1) (Ui d1) h_3
def Dx (p0:aM):Tre Bool:=
 .mat (jX p0.1 ([p0.2.1])) fun r1=>
 .cond (decide (r1=0))
  (.mat (ayg p0.2.1) fun r2=>
  .cond r2
   (let v3:=inR p0.2.2.1 1 (p0.2.1.length:Int)
   .ret v3)
   (.ret false))
  (.ret false)
def rV (p0:aM):Option Bool:=(Dx p0).run some
def zV:Env:=⟨tau,[(90,JW),(91,Ko),(45,qp),(92,KD)],[]⟩
def Kh:Code:=(Tryz.f59.body).getD .skip
def Kg:FnI:=⟨Kh,Tryz.f59.results.toList,Tryz.f59.resultTypes.toList,[]⟩
def FQ (_zp0:Bool) (_p0:aM):Bool→aB:=fun r=>⟨(.imm true .bool r),[],[]⟩
theorem X9:∀(zp0:Bool)(p0:aM),bN zV Kg ⟨[(.imm zp0 aX p0)],[]⟩=(Dx p0).run fun r=>some (FQ zp0 p0 r):=fun _ _=>by kernel_rfl
def Ke (av:List AV) (rs:List Root):Tre aB:=
 aJ av fun a0_ av0=>
 aU av0<|
 aU rs<|
 bE aX a0_ fun z2 d1=>
 .mat (rV d1) fun r=>.ret (FQ z2 d1 r)
def Ki:Ctr:=⟨[],fun ci=>Ke ci.args ci.roots,false⟩
theorem Ve:bM Tryz.prog .none zV:=(aA X3 aBH (aA Yc aBI (aA tJ apy (aA MO asT aN))))
theorem Ya:Contract Tryz.prog .none 59 Ki:=by
 have hl:aZ zV [] Kh:=bB (by kernel_rfl)
 refine (aI (F:=Kg) bg Ve Tryz.func59 (by kernel_rfl) (by kernel_rfl) (by kernel_rfl) hl []).weaken ?_
 rintro ⟨av,rs⟩ co h
 have h:(Ke av rs).run some=some co:=h
 obtain ⟨a0_,av0,rfl,h_0⟩:=au h
 obtain ⟨rfl,h_1⟩:=ay h_0
 obtain ⟨rfl,h_2⟩:=ay h_1
 obtain ⟨z2,d1,rfl,h_3⟩:=aD h_2
 exact bJ (X9 z2 d1) h_3
def zU (p0:aM) (p1:List Int):Tre Int:=
 .mat (rV p0) fun r1=>
 .cond (!r1)
  (.ret 1)
  (.cond (!decide ((p1.length:Int)=(p0.2.1.length:Int)))
   (.ret 2)
   (.mat (y9 p0.1 p1) fun r2=>
   .cond (!r2)
    (.ret 2)
    (.ret 0)))
def oh (p0:aM) (p1:List Int):Option Int:=(zU p0 p1).run some
-- more
theorem ar6{f:TF3}(hf:aO f=true)(c:List Int):xB f c=some (inR (c.length:Int) 1 5&&pE f c):=by
 unfold xB JF
 dsimp only
 rw [Tre.aG]
 cases hi:inR (c.length:Int) 1 5
 ·rfl
 ·have:=kF.1 hi
  rw [cond_true,ah (UQ hf c (by omega)),Tre.aK,Bool.true_and]
theorem anZ{f:TF3}(hf:aO f=true)(c:List Int):jX f [c]=some (if inR (c.length:Int) 1 5=true∧pE f c=true then 0 else 2):=by
 have h1:gF c f [c]=some (!(inR (c.length:Int) 1 5&&pE f c)):=by
  unfold gF qg
  rw [ah (ar6 hf c),Tre.aG]
  cases inR (c.length:Int) 1 5&&pE f c
  ·rfl
  ·rw [Bool.not_true,cond_false,Tre.run_ite,if_pos ⟨by omega,by simp⟩,ah (show [c][0]?=some c from rfl),Tre.aK,decide_eq_true rfl]
   rfl
 have h2:atf [c] f [c]=some (if inR (c.length:Int) 1 5=true∧pE f c=true then -1 else 0):=by
  unfold atf nm2
  by_cases hc:inR (c.length:Int) 1 5=true∧pE f c=true
  ·rw [hc.1,hc.2] at h1
   rw [ah (show aR (VK [c] (([c]:List (List Int)).length:Int) f [c]) 0=some (.inr ()) from ?_),if_pos hc]
   ·rfl
   refine cO (fun i=>(i:Int)) 1 _ (fun i hi=>?_) ?_
   ·obtain rfl:i=0:=by omega
    unfold VK
    rw [dP (i:=0) (show [c][0]?=some c from rfl),ah h1]
    rfl
   ·rfl
  ·have h3:(inR (c.length:Int) 1 5&&pE f c)=false:=by
    cases h:(inR (c.length:Int) 1 5&&pE f c)
    ·rfl
    ·rw [Bool.and_eq_true] at h;exact absurd h hc
   rw [h3] at h1
   rw [ah (show aR (VK [c] (([c]:List (List Int)).length:Int) f [c]) 0=some (.inl 0) from ?_),if_neg hc]
   ·rfl
   refine fB ?_
   unfold VK
   have:=dP (i:=0) (xs:=[c]) (x:=c) (show [c][0]?=some c from rfl) (k:=fun x1=>Tre.mat (gF x1 f [c]) fun r2=>Tre.cond r2 (Tre.ret (Sum.inr (Sum.inl (0:Int)))) (Tre.ret (Sum.inl (aP .i64 ((0:Int)+1))))) (e:=Tre.ret (Sum.inr (Sum.inr ()))) (c:=some)
   refine Eq.trans this ?_
   rw [ah h1]
   rfl
 have h4:as8 [c] f [c]=some (!decide (inR (c.length:Int) 1 5=true∧pE f c=true)):=by
  unfold as8 nm0
  rw [ah h2,Tre.aK]
  by_cases hc:inR (c.length:Int) 1 5=true∧pE f c=true
  ·rw [if_pos hc,decide_eq_true hc];rfl
  ·rw [if_neg hc,decide_eq_false hc];rfl
 unfold jX xJ
 rw [ah (Sv f),hf,Tre.aG,Bool.not_true,cond_false,ah h4,Tre.aG]
 by_cases hc:inR (c.length:Int) 1 5=true∧pE f c=true
 ·rw [decide_eq_true hc,if_pos hc];rfl
 ·rw [decide_eq_false hc,if_neg hc];rfl
theorem anY(g:TF3×List Int×Int×Unit):rV g=some (ahk g):=by
 unfold rV Dx ahk
 cases hf:aO g.1
 ·have:jX g.1 [g.2.1]=some 1:=by
   unfold jX xJ
   rw [ah (Sv g.1),hf]
   rfl
  rw [ah this]
  rfl
 rw [ah (anZ hf g.2.1),Tre.aG,Bool.true_and]
 by_cases hc:inR (g.2.1.length:Int) 1 5=true∧pE g.1 g.2.1=true
 ·have hl:=kF.1 hc.1
  have h5:=(Xt hf).2
  rw [if_pos hc,decide_eq_true rfl,cond_true,ah (show ayg g.2.1=some _ from pV (apx hf hc.2 (by omega) (by omega))),Tre.aG,hc.1,hc.2,Bool.true_and,Bool.true_and]
  cases decide (((adY g.2.1).length:Int)=(g.2.1.length:Int))
  ·rfl
  ·rfl
 ·have h3:(inR (g.2.1.length:Int) 1 5&&(pE g.1 g.2.1&&(decide (((adY g.2.1).length:Int)=(g.2.1.length:Int))&&inR g.2.2.1 1 (g.2.1.length:Int))))=false:=by
   cases h:inR (g.2.1.length:Int) 1 5
   ·rfl
   ·cases h2:pE g.1 g.2.1
    ·rfl
    ·exact absurd ⟨h,h2⟩ hc
  rw [if_neg hc,decide_eq_false (by decide),cond_false,h3]
  rfl
theorem asc(g:TF3×List Int×Int×Unit)(w:List Int)(hw:w.length≤1048576):oh g w=some (HV g w):=by
 unfold oh zU HV
 rw [ah (anY g),Tre.aG]
 cases hg:ahk g
 ·rfl
 ·have hf:aO g.1=true:=by unfold ahk at hg;simp only [Bool.and_eq_true] at hg;exact hg.1
  rw [Bool.not_true,cond_false,if_pos rfl,Tre.aG]
  by_cases h1:w.length=g.2.1.length
  ·rw [decide_eq_true (by omega),Bool.not_true,cond_false,ah (UQ hf w (by omega)),Tre.aG]
   cases he:pE g.1 w
   ·rw [if_neg (by simp)];rfl
   ·rw [if_pos ⟨h1,rfl⟩];rfl
  ·rw [decide_eq_false (by omega),Bool.not_false,cond_true,if_neg fun h=>h1 h.1];rfl
def wo:Env:=⟨tau,[(59,Ki),(60,NZ)],[]⟩
def FE:Code:=(Tryz.f31.body).getD .skip
def FD:FnI:=⟨FE,Tryz.f31.results.toList,Tryz.f31.resultTypes.toList,[]⟩
def Bz (_zp0:Bool) (_zp1:Bool) (_p0:aM) (_p1:List Int):Int→aB:=fun r=>⟨(.imm true (.int .i64) r),[],[]⟩
theorem Ud:∀(zp0:Bool)(zp1:Bool)(p0:aM)(p1:List Int),bN wo FD ⟨[(.imm zp0 aX p0),(.imm zp1 (.sl (.int .i64)) p1)],[]⟩=(zU p0 p1).run fun r=>some (Bz zp0 zp1 p0 p1 r):=fun _ _ _ _=>by kernel_rfl
def FC (av:List AV) (rs:List Root):Tre aB:=
 aJ av fun a0_ av0=>
 aJ av0 fun a1_ av1=>
 aU av1<|
 aU rs<|
 bE aX a0_ fun z2 d1=>
 bE (.sl (.int .i64)) a1_ fun z4 d3=>
 .mat (oh d1 d3) fun r=>.ret (Bz z2 z4 d1 d3 r)
def FH:Ctr:=⟨[],fun ci=>FC ci.args ci.roots,false⟩
theorem QZ:bM Tryz.prog .none wo:=(aA Ya aBu (aA UR azh aN))
theorem Ue:Contract Tryz.prog .none 31 FH:=by
 have hl:aZ wo [] FE:=bB (by kernel_rfl)
 refine (aI (F:=FD) bg QZ Tryz.func31 (by kernel_rfl) (by kernel_rfl) (by kernel_rfl) hl []).weaken ?_
 rintro ⟨av,rs⟩ co h
 have h:(FC av rs).run some=some co:=h
 obtain ⟨a0_,av0,rfl,h_0⟩:=au h
 obtain ⟨a1_,av1,rfl,h_1⟩:=au h_0
 obtain ⟨rfl,h_2⟩:=ay h_1
 obtain ⟨rfl,h_3⟩:=ay h_2
 obtain ⟨z2,d1,rfl,h_4⟩:=aD h_3
 obtain ⟨z4,d3,rfl,h_5⟩:=aD h_4
 exact bJ (Ud z2 z4 d1 d3) h_5
def Bl (p0:aM) (p1:List Int):Tre (Int×Int×(List Int)):=
 .mat (oh p0 p1) fun r1=>
 .cond (!decide (r1=0))
  (.ret (0,r1,[]))
  (.mat (kK p0 p1) fun r2=>
  .cond (!r2.1)
   (.ret (0,6,[]))
   (.mat (iY p0 r2.2) fun r3=>
   .mat (Jo p1 r3) fun r4=>
   .mat (Ky r4) fun r5=>
   .ret (r5,0,r2.2)))
def pG (p0:aM) (p1:List Int):Option (Int×Int×(List Int)):=(Bl p0 p1).run some
-- more
def arA (g:TF3×List Int×Int×Unit) (w:List Int):Int×Int×List Int:=by
 classical
 exact if HV g w=0 then (if h:∃m:List Int×Int,m.1.length≤5∧∃(hf:aO g.1=true) (P W M:List Nat) (k:Nat),g=(g.1,aS P,(k:Int),())∧w=aS W∧XT hf P W k ((P.length-k)/2)=some M∧m=(aS M,(rkN ((FOf g.1 hf).Bb P W M):Int)) then ((Classical.choose h).2,0,(Classical.choose h).1) else (0,6,[])) else (0,HV g w,[])
theorem abP{a b:List Nat}(h:aS a=aS b):a=b:=by
 have:=congrArg (List.map Int.toNat) h
 rwa [abQ,abQ] at this
theorem amk{g:TF3×List Int×Int×Unit}{w:List Int}(h:HV g w≠0):arA g w=(0,HV g w,[]):=by
 unfold arA;rw [if_neg h]
theorem aml{f:TF3}{hf:aO f=true}{P W:List Nat}{k:Nat}(h0:HV (f,aS P,(k:Int),()) (aS W)=0)(h:XT hf P W k ((P.length-k)/2)=none):arA (f,aS P,(k:Int),()) (aS W)=(0,6,[]):=by
 unfold arA
 rw [if_pos h0,dif_neg]
 rintro ⟨m,_,hf',P',W',M,k',h1,h2,h3,_⟩
 simp only [Prod.mk.injEq,true_and,and_true] at h1
 have hP:=abP h1.1
 have hW:=abP h2
 have hk:k=k':=by omega
 subst hP hW hk
 rw [h] at h3
 cases h3
theorem amm{f:TF3}{hf:aO f=true}{P W M:List Nat}{k:Nat}(h0:HV (f,aS P,(k:Int),()) (aS W)=0)(hM:M.length≤5)(h:XT hf P W k ((P.length-k)/2)=some M):arA (f,aS P,(k:Int),()) (aS W)=((rkN ((FOf f hf).Bb P W M):Int),0,aS M):=by
 have hex:∃m:List Int×Int,m.1.length≤5∧∃(hf:aO (f,aS P,(k:Int),()).1=true) (P' W' M:List Nat) (k':Nat),(f,aS P,(k:Int),())=((f,aS P,(k:Int),()).1,aS P',(k':Int),())∧aS W=aS W'∧XT hf P' W' k' ((P'.length-k')/2)=some M∧m=(aS M,(rkN ((FOf (f,aS P,(k:Int),()).1 hf).Bb P' W' M):Int)):=
  ⟨(aS M,(rkN ((FOf f hf).Bb P W M):Int)),by rw [aW];exact hM,hf,P,W,M,k,rfl,rfl,h,rfl⟩
 unfold arA
 rw [if_pos h0,dif_pos hex]
 obtain ⟨_,hf',P',W',M',k',h1,h2,h3,h4⟩:=Classical.choose_spec hex
 simp only [Prod.mk.injEq,true_and,and_true] at h1
 have hP:=abP h1.1
 have hW:=abP h2
 have hk:k=k':=by omega
 subst hP hW hk
 rw [h] at h3
 obtain rfl:=Option.some.inj h3
 rw [h4]
theorem aiH(g:TF3×List Int×Int×Unit)(w:List Int):HV g w≠0∨∃(hf:aO g.1=true) (P W:List Nat) (k:Nat),g=(g.1,aS P,(k:Int),())∧w=aS W∧FO.yZ P∧inL (FOf g.1 hf) P∧inL (FOf g.1 hf) W∧W.length=P.length∧P.length≤5∧1≤k∧k≤P.length∧HV (g.1,aS P,(k:Int),()) (aS W)=0:=by
 by_cases h:HV g w=0
 ·right
  obtain ⟨h1,h2,h3⟩:=awj h
  obtain ⟨hf,P,k,hg,hP,hi,hl,hk1,hk2⟩:=arU h1
  obtain ⟨W,hw,hW⟩:=aic hf (adZ h3)
  refine ⟨hf,P,W,k,hg,hw,hi,hP,hW,?_,hl,hk1,hk2,by rw [←hg,←hw];exact h⟩
  rw [hg,hw] at h2
  simpa only [aW] using h2
 ·exact .inl h
theorem awo(g:TF3×List Int×Int×Unit)(w:List Int)(hw:w.length≤1048576):pG g w=some (arA g w):=by
 unfold pG Bl
 rw [ah (asc g w hw),Tre.aG]
 rcases aiH g w with h|⟨hf,P,W,k,hg,rfl,hi,hP,hW,hl,hn,hk1,hk2,h0⟩
 ·rw [decide_eq_false h,amk h];rfl
 ·obtain ⟨f,g2⟩:=g
  dsimp only at hf hg hP hW h0
  simp only [Prod.mk.injEq,true_and] at hg
  subst hg
  rw [h0,decide_eq_true rfl,Bool.not_true,cond_false]
  rcases ar4 hf hi hP hW hl (by omega) hk1 hk2 with ⟨m,h1,h2⟩|⟨h1,M,h2⟩
  ·have hnear:=ami h1
   have hml:=hnear.1
   have hel:=(FOf f hf).Jv (m:=m) hl
   rw [ah h2,Tre.aG,Bool.not_true,cond_false,ah (aaj hf hnear.2.1 (by omega) hP (by omega) _),ah (aek hf hW hl (by omega)),ah (as1 hf ((FOf f hf).aa9 hW) (by omega)),Tre.aK,amm h0 (by omega) h1]
  ·rw [ah h2,Tre.aG,Bool.not_false,cond_true,Tre.aK,aml h0 h1]
def yF:Env:=⟨tau,[(31,FH),(32,Fp),(35,og),(34,Xy),(33,aae)],[]⟩
def H6:Code:=(Tryz.f11.body).getD .skip
def HZ:FnI:=⟨H6,Tryz.f11.results.toList,Tryz.f11.resultTypes.toList,[]⟩
def CO (_zp0:Bool) (_zp1:Bool) (_p0:aM) (_p1:List Int):(Int×Int×(List Int))→aB:=fun r=>⟨(.tcons (.ref (1,0) []) (.tcons (.imm true (.int .i64) r.1) (.tcons (.imm true (.int .i64) r.2.1) .tnil))),[],[⟨false,(.sl (.int .i64)),.own,r.2.2⟩]⟩
theorem UL:∀(zp0:Bool)(zp1:Bool)(p0:aM)(p1:List Int),bN yF HZ ⟨[(.imm zp0 aX p0),(.imm zp1 (.sl (.int .i64)) p1)],[]⟩=(Bl p0 p1).run fun r=>some (CO zp0 zp1 p0 p1 r):=fun _ _ _ _=>by kernel_rfl
def HY (av:List AV) (rs:List Root):Tre aB:=
 aJ av fun a0_ av0=>
 aJ av0 fun a1_ av1=>
 aU av1<|
 aU rs<|
 bE aX a0_ fun z2 d1=>
 bE (.sl (.int .i64)) a1_ fun z4 d3=>
 .mat (pG d1 d3) fun r=>.ret (CO z2 z4 d1 d3 r)
def H7:Ctr:=⟨[],fun ci=>HY ci.args ci.roots,false⟩
theorem TM:bM Tryz.prog .none yF:=(aA Ue aBh (aA T9 aBi (aA uS avX (aA Z8 avW (aA afW aze aN)))))
theorem UM:Contract Tryz.prog .none 11 H7:=by
 have hl:aZ yF [] H6:=bB (by kernel_rfl)
 refine (aI (F:=HZ) bg TM Tryz.func11 (by kernel_rfl) (by kernel_rfl) (by kernel_rfl) hl []).weaken ?_
 rintro ⟨av,rs⟩ co h
 have h:(HY av rs).run some=some co:=h
 obtain ⟨a0_,av0,rfl,h_0⟩:=au h
 obtain ⟨a1_,av1,rfl,h_1⟩:=au h_0
 obtain ⟨rfl,h_2⟩:=ay h_1
 obtain ⟨rfl,h_3⟩:=ay h_2
 obtain ⟨z2,d1,rfl,h_4⟩:=aD h_3
 obtain ⟨z4,d3,rfl,h_5⟩:=aD h_4
 exact bJ (UL z2 z4 d1 d3) h_5
end Go.Proofs.YtihiobjhogpmdaaGreat
