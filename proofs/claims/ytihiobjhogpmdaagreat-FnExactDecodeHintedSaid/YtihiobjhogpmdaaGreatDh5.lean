/- Part 5 of the proof of FnExactDecodeHinted. -/
import Derived.Test.YtihiobjhogpmdaaGreatDh4
set_option maxRecDepth 100000
noncomputable section
namespace Go.Proofs.YtihiobjhogpmdaaGreat
open Go Go.Abs Go.Proofs
def jN (dS:Int) (eT:Int) (Qq:List Int) (UM:Int) (Iz:(Int×(Int×Unit))):(Int×(List Int))→Tre ((Int×(List Int)) ⊕ (List Int)):=fun s8=>
 .cond (decide (s8.1<UM))
  (.ite (0≤s8.1∧s8.1<(Qq.length:Int))<|
  .mat (Qq[s8.1.toNat]?) fun x3=>
  let v4:=aI .i64 (dS+s8.1)
  .ite (0≤v4∧v4<(s8.2.length:Int))<|
  .mat (s8.2[v4.toNat]?) fun x5=>
  .mat (gG Iz x3 dS) fun r6=>
  .mat (cO Iz eT r6) fun r7=>
  .ite (0≤v4∧v4<(s8.2.length:Int))<|
  .mat (s8.2[v4.toNat]?) fun _=>
  let v9:=s8.2.set v4.toNat (jw .i64 x5 r7)
  .ret (.inl (aI .i64 (s8.1+1),v9)))
  (.ret (.inr s8.2))
def jM (fG:List Int) (jL:List Int) (UH:Int) (UK:(Int×(Int×Unit))):(Int×(List Int))→Tre ((Int×(List Int)) ⊕ (List Int)):=fun s5=>
 .cond (decide (s5.1<UH))
  (.ite (0≤s5.1∧s5.1<(jL.length:Int))<|
  .mat (jL[s5.1.toNat]?) fun x2=>
  .mat (aO (jN s5.1 x2 fG (fG.length:Int) UK) (0,s5.2)) fun l10=>
  .ret (.inl (aI .i64 (s5.1+1),l10)))
  (.ret (.inr s5.2))
def Fw (p0:(Int×(Int×Unit))) (p1:List Int) (p2:List Int):Tre (List Int):=
 .cond (decide ((p1.length:Int)=0))
  (.ret [])
  (.cond (decide ((p2.length:Int)=0))
   (.ret [])
   (let v1:=aI .i64 ((p1.length:Int)+(p2.length:Int))
   .ite ((.n:K)=.n∧0≤aI .i64 (v1-1)∧aI .i64 (v1-1)=aI .i64 (v1-1)∧aI .i64 (v1-1)*(8:Nat)≤140737488355328∧1≤8)<|
   .mat (aO (jM p2 p1 (p1.length:Int) p0) (0,List.replicate (aI .i64 (v1-1)).toNat (0:Int))) fun l11=>
   .mat (sw l11) fun r12=>
   .alt r12
    (fun a13=>
     .ret a13)
    (fun b14=>
     .ret ((b14.2.2.drop b14.1).take b14.2.1))))
def jc (p0:(Int×(Int×Unit))) (p1:List Int) (p2:List Int):Option (List Int):=(Fw p0 p1 p2).run some
-- more
theorem avB(F:FO):∀(V:List Nat)(x:Nat→Nat)(i:Nat),(∀i,x i=0)→F.fH V x i=0:=by
 intro V
 induction V with
 |nil=>intro x i _;simp [FO.fH]
 |cons v vs ih=>
  intro x i hx
  simp only [FO.fH]
  rw [hx,F.mul_zero,Nat.zero_xor]
  cases i with
  |zero=>rfl
  |succ i=>exact ih _ i fun j=>by rw [hx,F.Ia]
theorem avC{f:TF3}(hf:aN f=true){A Y:List Nat}(hA:inL (FOf f hf) A)(hY:inL (FOf f hf) Y){i:Nat}(hl:i+Y.length≤A.length){j:Nat}(hj:j<Y.length) :
  (aQ (jC A (List.replicate i 0++Y.take j)))[i+j]?=some (cf A (i+j):Int)∧jw .i64 (cf A (i+j):Int) (cf Y j:Int)=((cf A (i+j)^^^cf Y j:Nat):Int) ∧
  (aQ (jC A (List.replicate i 0++Y.take j))).set (i+j) (((cf A (i+j)^^^cf Y j:Nat):Int))=aQ (jC A (List.replicate i 0++Y.take (j+1))):=by
 have hti:(List.replicate i 0++Y.take j).length=i+j:=by rw [List.length_append,List.length_replicate,List.length_take];omega
 obtain ⟨h1,h2⟩:=aqG (List.replicate i 0++Y.take j) A (cf Y j) (by omega)
 rw [hti] at h1 h2
 refine ⟨dL h1,Xq hf (kC hA _) (kC hY j),?_⟩
 rw [←Vz,h2,List.take_add_one,eO hj,List.append_assoc];rfl
theorem avy(A:List Nat)(i:Nat)(h:i≤A.length):jC A (List.replicate i 0)=A:=atX (avx (by rw [List.length_replicate];exact h)) fun s=>by rw [xK,aqV,Nat.xor_zero]
theorem awC(F:FO)(i c:Nat)(q:List Nat):inL F (F.ac7 i c q):=by
 intro x hx
 obtain ⟨d,_,rfl⟩:=List.mem_map.1 hx
 exact F.lt _ _
theorem awz(F:FO){i c:Nat}{q:List Nat}(j:Nat):cf (F.ac7 i c q) j=F.mul c (F.sqn i (cf q j)):=by
 unfold FO.ac7
 rw [aoM (by rw [F.atv,F.mul_zero])]
theorem agM{f:TF3}(hf:aN f=true){P Q:List Nat}(hP:inL (FOf f hf) P)(hQ:inL (FOf f hf) Q)(hp:P.length≤400)(hq:Q.length≤400):jc f (aQ P) (aQ Q)=some (aQ (cB ((FOf f hf).oJ P Q))):=by
 unfold jc Fw
 rw [Tre.aA,aS,aS]
 by_cases h1:P=[]
 ·subst h1;rfl
 have hpl:0<P.length:=List.length_pos_iff.2 h1
 rw [decide_eq_false (by omega),cond_false,Tre.aA]
 by_cases h2:Q=[]
 ·subst h2
  rw [decide_eq_true (show ((([]:List Nat).length:Nat):Int)=0 from rfl),cond_true,Tre.aF,aoA fun i=>by rw [FO.ND,avB _ _ _ _ zR]]
  rfl
 have hql:0<Q.length:=List.length_pos_iff.2 h2
 have hw1:aI .i64 ((P.length:Int)+(Q.length:Int))=((P.length+Q.length:Nat):Int):=by rw [dP (by omega) (by omega)];omega
 have hw2:aI .i64 (((P.length+Q.length:Nat):Int)-1)=((P.length+Q.length-1:Nat):Int):=gQ (by omega) (by omega)
 have holen:=(FOf f hf).asy P Q h2
 have hoin:=(FOf f hf).awu P Q
 obtain ⟨r,hr1,hr2⟩:=afa (l:=(FOf f hf).Hz P Q P.length) (by rw [holen _ (Nat.le_refl _)];omega)
 rw [decide_eq_false (by omega),cond_false]
 dsimp only
 rw [hw1,hw2,Tre.run_ite,if_pos ⟨rfl,by omega,rfl,by omega,by omega⟩,Int.toNat_natCast,←yL]
 rw [ah (show aO (jM (aQ Q) (aQ P) (P.length:Int) f) (0,aQ (List.replicate (P.length+Q.length-1) 0))=some (aQ ((FOf f hf).Hz P Q P.length)) from ?_),ah hr1]
 ·rw [←(FOf f hf).aog,←hr2]
  cases r<;>rfl
 refine dh (fun i=>((i:Int),aQ ((FOf f hf).Hz P Q i))) P.length _ (fun i hi=>?_) ?_
 ·have hpi:=dL (eO hi)
  have hplen:(P.length:Int)=((aQ P).length:Int):=by rw [aS]
  have hrl:((FOf f hf).ac7 i (cf P i) Q).length=Q.length:=by unfold FO.ac7;rw [List.length_map]
  unfold jM
  dsimp only
  rw [hplen,dX hpi,aS]
  rw [ah (show aO (jN (i:Int) (cf P i:Int) (aQ Q) (Q.length:Int) f) (0,aQ ((FOf f hf).Hz P Q i))=some (aQ ((FOf f hf).Hz P Q (i+1))) from ?_),Tre.aF,aR (by omega)]
  have h0:(FOf f hf).Hz P Q i=jC ((FOf f hf).Hz P Q i) (List.replicate i 0++((FOf f hf).ac7 i (cf P i) Q).take 0):=by rw [List.take_zero,List.append_nil,avy _ _ (by rw [holen _ (by omega)];omega)]
  conv=>lhs;rw [h0]
  refine dh (fun j=>((j:Int),aQ (jC ((FOf f hf).Hz P Q i) (List.replicate i 0++((FOf f hf).ac7 i (cf P i) Q).take j)))) Q.length _ (fun j hj=>?_) ?_
  ·obtain ⟨c1,c2,c3⟩:=avC hf (hoin i) (awC _ i (cf P i) Q) (i:=i) (by rw [holen _ (by omega),hrl];omega) (j:=j) (by omega)
   have hqlen:(Q.length:Int)=((aQ Q).length:Int):=by rw [aS]
   have hij:aI .i64 ((i:Int)+(j:Int))=((i+j:Nat):Int):=by rw [dP (by omega) (by omega)];omega
   have hqj:=kC hQ j
   unfold jN
   dsimp only
   rw [hqlen,dX (dL (eO hj)),hij,dN c1,ah (akF hf hqj i),ah (ao8 hf (kC hP i) ((FOf f hf).F8 i hqj)),dN c1,←awz,c2,Int.toNat_natCast,c3,Tre.aF,aR (by omega)]
  ·unfold jN
   dsimp only
   rw [dF,Tre.aF,List.take_of_length_le (by omega)]
   rfl
 ·unfold jM
  dsimp only
  rw [dF,Tre.aF]
def kQ:Env:=⟨tau,[(62,mD),(75,oC),(48,DJ)],[]⟩
def tJ:Code:=(Tryz.f70.body).getD .skip
def BM (BG:Bool) (yV:Bool) (agp:Bool) (dH:List Int) (dS:Int) (eT:Int) (dV:List Int) (fE:Int) (mI:Int) (Qq:List Int) (UM:Int) (Iz:(Int×(Int×Unit))):(Int×(List Int))→St:=fun x=>bP [(2,(.imm BG .il dH)),(3,(.ptr (5,0) [])),(7,(.ref (9,0) [])),(8,(.i dS)),(9,(.i eT)),(27,(.imm yV .il dV)),(28,(.i fE)),(29,(.i mI)),(34,(.imm agp .il Qq)),(35,(.i UM)),(36,(.i x.1))] [((5,0),some ⟨true,aL,.own,Iz⟩),((9,0),some ⟨false,.il,.own,x.2⟩)]
def Aa (BG:Bool) (yV:Bool) (_:Bool) (dH:List Int) (_:Int) (_:Int) (dV:List Int) (fE:Int) (mI:Int) (_:List Int) (_:Int) (Iz:(Int×(Int×Unit))):(List Int)→Ex×St:=fun x=>(.exit 2,bP [(2,(.imm BG .il dH)),(3,(.ptr (5,0) [])),(7,(.ref (9,0) [])),(27,(.imm yV .il dV)),(28,(.i fE)),(29,(.i mI))] [((5,0),some ⟨true,aL,.own,Iz⟩),((9,0),some ⟨false,.il,.own,x⟩)])
def UQ (s:St):Tre (Ex×St):=
 aZ .il (s.tmps 2) fun z3 d2=>
 eF (5,0) [] (s.tmps 3)<|
 dI (9,0) [] (s.tmps 7)<|
 ay true .n (s.tmps 8) fun d7=>
 ay true .n (s.tmps 9) fun d9=>
 aZ .il (s.tmps 27) fun z12 d11=>
 ay true .n (s.tmps 28) fun d14=>
 ay true .n (s.tmps 29) fun d16=>
 aZ .il (s.tmps 34) fun z19 d18=>
 ay true .n (s.tmps 35) fun d21=>
 ay true .n (s.tmps 36) fun d23=>
 bg true aL (s.roots (5,0)) fun m25 d26=>
 asM .own m25<|
 bg false .il (s.roots (9,0)) fun m28 d29=>
 asM .own m28<|
 .mat (aO (jN d7 d9 d18 d21 d26) (d23,d29)) fun x=>.ret (Aa z3 z12 z19 d2 d7 d9 d11 d14 d16 d18 d21 d26 x)
def nL:bq:=⟨([2,3,7,8,9,27,28,29,34,35,36],[(5,0),(9,0)]),([2,3,7,27,28,29],[(5,0),(9,0)]),UQ⟩
def BL (Xt:Bool) (amj:Bool) (fG:List Int) (jL:List Int) (UH:Int) (UK:(Int×(Int×Unit))):(Int×(List Int))→St:=fun x=>bP [(2,(.imm Xt .il fG)),(3,(.ptr (5,0) [])),(7,(.ref (9,0) [])),(27,(.imm amj .il jL)),(28,(.i UH)),(29,(.i x.1))] [((5,0),some ⟨true,aL,.own,UK⟩),((9,0),some ⟨false,.il,.own,x.2⟩)]
def zZ (_:Bool) (_:Bool) (_:List Int) (_:List Int) (_:Int) (_:(Int×(Int×Unit))):(List Int)→Ex×St:=fun x=>(.exit 0,bP [(7,(.ref (9,0) []))] [((9,0),some ⟨false,.il,.own,x⟩)])
def UO (s:St):Tre (Ex×St):=
 aZ .il (s.tmps 2) fun z3 d2=>
 eF (5,0) [] (s.tmps 3)<|
 dI (9,0) [] (s.tmps 7)<|
 aZ .il (s.tmps 27) fun z8 d7=>
 ay true .n (s.tmps 28) fun d10=>
 ay true .n (s.tmps 29) fun d12=>
 bg true aL (s.roots (5,0)) fun m14 d15=>
 asM .own m14<|
 bg false .il (s.roots (9,0)) fun m17 d18=>
 asM .own m17<|
 .mat (aO (jM d2 d7 d10 d15) (d12,d18)) fun x=>.ret (zZ z3 z8 d2 d7 d10 d15 x)
def nK:bq:=⟨([2,3,7,27,28,29],[(5,0),(9,0)]),([7],[(9,0)]),UO⟩
def nJ:List (Nat×bq):=[(8,nL),(5,nK)]
theorem NP:∀(BG yV agp:Bool)(dH:List Int)(dS eT:Int)(dV:List Int)(fE mI:Int)(Qq:List Int)(UM:Int)(Iz:(Int×(Int×Unit)))(x:(Int×(List Int)))(c:St→Option (Ex×St)),den kQ nJ (aT tJ 1) (BM BG yV agp dH dS eT dV fE mI Qq UM Iz x) (bR nL.kp nL.kx c)=(jN dS eT Qq UM Iz x).run (bS (BM BG yV agp dH dS eT dV fE mI Qq UM Iz) (Aa BG yV agp dH dS eT dV fE mI Qq UM Iz) c):=fun _ _ _ _ _ _ _ _ _ _ _ _ _ _=>by
 kernel_rfl
theorem Tv:bQ kQ nJ (aT tJ 1) nL:=bX fun _ _ _=>bY fun _ _=>jD<|fI<|aJ fun _=>aJ fun _=>bY fun _ _=>aJ fun _=>aJ fun _=>bY fun _ _=>aJ fun _=>aJ fun _=>bV fun _ _=>tM<|bV fun _ _=>tM<|fun h _ e27 _ e24 e22 e20 e17 e15 e13 e10 e8 e6 e5 e4 e1=>bO (NP _ _ _ _ _ _ _ _ _ _ _ _) h (by subst_vars;exact aP rfl rfl ⟨e1,e4,e5,e6,e8,e10,e13,e15,e17,e20,e22,trivial⟩ ⟨e24,e27,trivial⟩)
theorem NM:∀(Xt amj:Bool)(fG jL:List Int)(UH:Int)(UK:(Int×(Int×Unit)))(x:(Int×(List Int)))(c:St→Option (Ex×St)),den kQ nJ (aT tJ 0) (BL Xt amj fG jL UH UK x) (bR nK.kp nK.kx c)=(jM fG jL UH UK x).run (bS (BL Xt amj fG jL UH UK) (zZ Xt amj fG jL UH UK) c):=fun _ _ _ _ _ _ _ _=>by
 kernel_rfl
theorem Tt:bQ kQ nJ (aT tJ 0) nK:=bX fun _ _ _=>bY fun _ _=>jD<|fI<|bY fun _ _=>aJ fun _=>aJ fun _=>bV fun _ _=>tM<|bV fun _ _=>tM<|fun h _ e16 _ e13 e11 e9 e6 e5 e4 e1=>bO (NM _ _ _ _ _ _) h (by subst_vars;exact aP rfl rfl ⟨e1,e4,e5,e6,e9,e11,trivial⟩ ⟨e13,e16,trivial⟩)
def abT:FnI:=fnI Tryz.f70 nJ
def Gb (_:Bool) (_:Bool) (_:(Int×(Int×Unit))) (_:List Int) (_:List Int):(List Int)→au:=fun r=>⟨(.ref (1,0) []),[],[⟨false,.il,.own,r⟩]⟩
theorem Z8:∀(zp0 zp1:Bool)(p0:(Int×(Int×Unit)))(p1 p2:List Int),bJ kQ abT ⟨[(.imm true aL p0),(.imm zp0 .il p1),(.imm zp1 .il p2)],[]⟩=(Fw p0 p1 p2).run fun r=>some (Gb zp0 zp1 p0 p1 p2 r):=fun _ _ _ _ _=>by kernel_rfl
def abS (av:List AV) (rs:List Root):Tre au:=
 aC av fun a0_ av0=>
 aC av0 fun a1_ av1=>
 aC av1 fun a2_ av2=>
 aM av2<|
 aM rs<|
 ay true aL a0_ fun d1=>
 aZ .il a1_ fun z3 d2=>
 aZ .il a2_ fun z5 d4=>
 .mat (jc d1 d2 d4) fun r=>.ret (Gb z3 z5 d1 d2 d4 r)
def zY:Ctr:=dD [] abS
theorem IJ:Contract Tryz.prog .none 70 zY:=aD (V:=kQ) aW (ak nQ ari (ak pK anQ (ak Jq avG aH))) Tryz.func70 (bF (n:=2) fun k hk=>by
 match k,hk with
 |0,_=>exact bH (id:=5) Tt
 |1,_=>exact bH (id:=8) Tv) fun _ _ _=>aK fun _ _=>aK fun _ _=>aK fun _ _=>bf<|bf<|aJ fun _=>bY fun _ _=>bY fun _ _=>fun h=>by intros;subst_vars;exact bn (Z8 _ _ _ _ _) h
def nE (dH:List Int) (dS:List Int) (eT:Int) (fE:(Int×(Int×Unit))):(Int×(List Int))→Tre ((Int×(List Int)) ⊕ (List Int)):=fun s8=>
 .cond (decide (s8.1<(dS.length:Int)))
  (let v2:=aI .i64 (eT+s8.1)
  .ite (0≤v2∧v2<(s8.2.length:Int))<|
  .mat (s8.2[v2.toNat]?) fun x3=>
  .ite (0≤eT∧eT<(dH.length:Int))<|
  .mat (dH[eT.toNat]?) fun x4=>
  .ite (0≤s8.1∧s8.1<(dS.length:Int))<|
  .mat (dS[s8.1.toNat]?) fun x5=>
  .mat (ko fE x5 eT) fun r6=>
  .mat (dW fE x4 r6) fun r7=>
  .ite (0≤v2∧v2<(s8.2.length:Int))<|
  .mat (s8.2[v2.toNat]?) fun _=>
  let v9:=s8.2.set v2.toNat (jw .i64 x3 r7)
  .ret (.inl (aI .i64 (s8.1+1),v9)))
  (.ret (.inr s8.2))
def nD (fG:List Int) (jL:List Int) (UJ:(Int×(Int×Unit))):(Int×(List Int))→Tre ((Int×(List Int)) ⊕ (List Int)):=fun s5=>
 .cond (decide (s5.1<(fG.length:Int)))
  (.mat (aO (nE fG jL s5.1 UJ) (0,s5.2)) fun l10=>
  .ret (.inl (aI .i64 (s5.1+1),l10)))
  (.ret (.inr s5.2))
def Rs (p0:(Int×(Int×Unit))) (p1:List Int) (p2:List Int):Tre (List Int):=
 .cond (decide ((p1.length:Int)=0))
  (.ret [])
  (.cond (decide ((p2.length:Int)=0))
   (.ret [])
   (let v1:=aI .i64 ((p1.length:Int)+(p2.length:Int))
   .ite ((.n:K)=.n∧0≤aI .i64 (v1-1)∧aI .i64 (v1-1)=aI .i64 (v1-1)∧aI .i64 (v1-1)*(8:Nat)≤140737488355328∧1≤8)<|
   .mat (aO (nD p1 p2 p0) (0,List.replicate (aI .i64 (v1-1)).toNat (0:Int))) fun l11=>
   .mat (EX l11) fun r12=>
   .ret r12))
def qh (p0:(Int×(Int×Unit))) (p1:List Int) (p2:List Int):Option (List Int):=(Rs p0 p1 p2).run some
-- more
theorem ahv{f:TF3}(hf:aN f=true){P Q:List Nat}(hP:inL (FOf f hf) P)(hQ:inL (FOf f hf) Q)(hp:P.length≤400)(hq:Q.length≤400):qh f (aQ P) (aQ Q)=some (aQ (cB ((FOf f hf).oJ P Q))):=by
 unfold qh Rs
 rw [Tre.aA,aS,aS]
 by_cases h1:P=[]
 ·subst h1;rfl
 have hpl:0<P.length:=List.length_pos_iff.2 h1
 rw [decide_eq_false (by omega),cond_false,Tre.aA]
 by_cases h2:Q=[]
 ·subst h2
  rw [decide_eq_true (show ((([]:List Nat).length:Nat):Int)=0 from rfl),cond_true,Tre.aF,aoA fun i=>by rw [FO.ND,avB _ _ _ _ zR]]
  rfl
 have hql:0<Q.length:=List.length_pos_iff.2 h2
 have hw1:aI .i64 ((P.length:Int)+(Q.length:Int))=((P.length+Q.length:Nat):Int):=by rw [dP (by omega) (by omega)];omega
 have hw2:aI .i64 (((P.length+Q.length:Nat):Int)-1)=((P.length+Q.length-1:Nat):Int):=gQ (by omega) (by omega)
 have holen:=(FOf f hf).asy P Q h2
 have hoin:=(FOf f hf).awu P Q
 rw [decide_eq_false (by omega),cond_false]
 dsimp only
 rw [hw1,hw2,Tre.run_ite,if_pos ⟨rfl,by omega,rfl,by omega,by omega⟩,Int.toNat_natCast,←yL]
 rw [ah (show aO (nD (aQ P) (aQ Q) f) (0,aQ (List.replicate (P.length+Q.length-1) 0))=some (aQ ((FOf f hf).Hz P Q P.length)) from ?_),ah (atw (by rw [holen _ (Nat.le_refl _)];omega)),Tre.aF,FO.aog]
 refine dh (fun i=>((i:Int),aQ ((FOf f hf).Hz P Q i))) P.length _ (fun i hi=>?_) ?_
 ·have hpi:=dL (eO hi)
  have hrl:((FOf f hf).ac7 i (cf P i) Q).length=Q.length:=by unfold FO.ac7;rw [List.length_map]
  unfold nD
  dsimp only
  rw [Tre.aA,decide_eq_true (by rw [aS];omega),cond_true]
  rw [ah (show aO (nE (aQ P) (aQ Q) (i:Int) f) (0,aQ ((FOf f hf).Hz P Q i))=some (aQ ((FOf f hf).Hz P Q (i+1))) from ?_),Tre.aF,aR (by omega)]
  have h0:(FOf f hf).Hz P Q i=jC ((FOf f hf).Hz P Q i) (List.replicate i 0++((FOf f hf).ac7 i (cf P i) Q).take 0):=by rw [List.take_zero,List.append_nil,avy _ _ (by rw [holen _ (by omega)];omega)]
  conv=>lhs;rw [h0]
  refine dh (fun j=>((j:Int),aQ (jC ((FOf f hf).Hz P Q i) (List.replicate i 0++((FOf f hf).ac7 i (cf P i) Q).take j)))) Q.length _ (fun j hj=>?_) ?_
  ·obtain ⟨c1,c2,c3⟩:=avC hf (hoin i) (awC _ i (cf P i) Q) (i:=i) (by rw [holen _ (by omega),hrl];omega) (j:=j) (by omega)
   have hij:aI .i64 ((i:Int)+(j:Int))=((i+j:Nat):Int):=by rw [dP (by omega) (by omega)];omega
   have hqj:=kC hQ j
   unfold nE
   dsimp only
   rw [Tre.aA,decide_eq_true (by rw [aS];omega),cond_true,hij,dN c1,dN hpi,dN (dL (eO hj)),ah (agm hf hqj i),ah (agl hf (kC hP i) ((FOf f hf).F8 i hqj)),dN c1,←awz,c2,Int.toNat_natCast,c3,Tre.aF,aR (by omega)]
  ·unfold nE
   dsimp only
   rw [aS,dF,Tre.aF,List.take_of_length_le (by omega)]
   rfl
 ·unfold nD
  dsimp only
  rw [aS,dF,Tre.aF]
def qj:Env:=⟨tau,[(56,sI),(68,qW),(126,W9)],[]⟩
def Bg:Code:=(Tryz.f102.body).getD .skip
def JO (BG:Bool) (yV:Bool) (dH:List Int) (dS:List Int) (eT:Int) (fE:(Int×(Int×Unit))):(Int×(List Int))→St:=fun x=>bP [(1,(.imm BG .il dH)),(2,(.imm yV .il dS)),(3,(.ptr (5,0) [])),(7,(.ref (9,0) [])),(8,(.i eT)),(9,(.i x.1))] [((5,0),some ⟨true,aL,.own,fE⟩),((9,0),some ⟨false,.il,.own,x.2⟩)]
def GI (BG:Bool) (yV:Bool) (dH:List Int) (dS:List Int) (eT:Int) (fE:(Int×(Int×Unit))):(List Int)→Ex×St:=fun x=>(.exit 2,bP [(1,(.imm BG .il dH)),(2,(.imm yV .il dS)),(3,(.ptr (5,0) [])),(7,(.ref (9,0) [])),(8,(.i eT))] [((5,0),some ⟨true,aL,.own,fE⟩),((9,0),some ⟨false,.il,.own,x⟩)])
def adH (s:St):Tre (Ex×St):=
 aZ .il (s.tmps 1) fun z3 d2=>
 aZ .il (s.tmps 2) fun z6 d5=>
 eF (5,0) [] (s.tmps 3)<|
 dI (9,0) [] (s.tmps 7)<|
 ay true .n (s.tmps 8) fun d10=>
 ay true .n (s.tmps 9) fun d12=>
 bg true aL (s.roots (5,0)) fun m14 d15=>
 asM .own m14<|
 bg false .il (s.roots (9,0)) fun m17 d18=>
 asM .own m17<|
 .mat (aO (nE d2 d5 d10 d15) (d12,d18)) fun x=>.ret (GI z3 z6 d2 d5 d10 d15 x)
def um:bq:=⟨([1,2,3,7,8,9],[(5,0),(9,0)]),([1,2,3,7,8],[(5,0),(9,0)]),adH⟩
def JN (Xt:Bool) (amj:Bool) (fG:List Int) (jL:List Int) (UJ:(Int×(Int×Unit))):(Int×(List Int))→St:=fun x=>bP [(1,(.imm Xt .il fG)),(2,(.imm amj .il jL)),(3,(.ptr (5,0) [])),(7,(.ref (9,0) [])),(8,(.i x.1))] [((5,0),some ⟨true,aL,.own,UJ⟩),((9,0),some ⟨false,.il,.own,x.2⟩)]
def GH (_:Bool) (_:Bool) (_:List Int) (_:List Int) (_:(Int×(Int×Unit))):(List Int)→Ex×St:=fun x=>(.exit 0,bP [(7,(.ref (9,0) []))] [((9,0),some ⟨false,.il,.own,x⟩)])
def adG (s:St):Tre (Ex×St):=
 aZ .il (s.tmps 1) fun z3 d2=>
 aZ .il (s.tmps 2) fun z6 d5=>
 eF (5,0) [] (s.tmps 3)<|
 dI (9,0) [] (s.tmps 7)<|
 ay true .n (s.tmps 8) fun d10=>
 bg true aL (s.roots (5,0)) fun m12 d13=>
 asM .own m12<|
 bg false .il (s.roots (9,0)) fun m15 d16=>
 asM .own m15<|
 .mat (aO (nD d2 d5 d13) (d10,d16)) fun x=>.ret (GH z3 z6 d2 d5 d13 x)
def uj:bq:=⟨([1,2,3,7,8],[(5,0),(9,0)]),([7],[(9,0)]),adG⟩
def uZ:List (Nat×bq):=[(8,um),(5,uj)]
theorem WV:∀(BG yV:Bool)(dH dS:List Int)(eT:Int)(fE:(Int×(Int×Unit)))(x:(Int×(List Int)))(c:St→Option (Ex×St)),den qj uZ (aT Bg 1) (JO BG yV dH dS eT fE x) (bR um.kp um.kx c)=(nE dH dS eT fE x).run (bS (JO BG yV dH dS eT fE) (GI BG yV dH dS eT fE) c):=fun _ _ _ _ _ _ _ _=>by
 kernel_rfl
theorem abf:bQ qj uZ (aT Bg 1) um:=bX fun _ _ _=>bY fun _ _=>bY fun _ _=>jD<|fI<|aJ fun _=>aJ fun _=>bV fun _ _=>tM<|bV fun _ _=>tM<|fun h _ e16 _ e13 e11 e9 e8 e7 e4 e1=>bO (WV _ _ _ _ _ _) h (by subst_vars;exact aP rfl rfl ⟨e1,e4,e7,e8,e9,e11,trivial⟩ ⟨e13,e16,trivial⟩)
theorem WU:∀(Xt amj:Bool)(fG jL:List Int)(UJ:(Int×(Int×Unit)))(x:(Int×(List Int)))(c:St→Option (Ex×St)),den qj uZ (aT Bg 0) (JN Xt amj fG jL UJ x) (bR uj.kp uj.kx c)=(nD fG jL UJ x).run (bS (JN Xt amj fG jL UJ) (GH Xt amj fG jL UJ) c):=fun _ _ _ _ _ _ _=>by
 kernel_rfl
theorem abe:bQ qj uZ (aT Bg 0) uj:=bX fun _ _ _=>bY fun _ _=>bY fun _ _=>jD<|fI<|aJ fun _=>bV fun _ _=>tM<|bV fun _ _=>tM<|fun h _ e14 _ e11 e9 e8 e7 e4 e1=>bO (WU _ _ _ _ _) h (by subst_vars;exact aP rfl rfl ⟨e1,e4,e7,e8,e9,trivial⟩ ⟨e11,e14,trivial⟩)
def alL:FnI:=fnI Tryz.f102 uZ
def O5 (_:Bool) (_:Bool) (_:(Int×(Int×Unit))) (_:List Int) (_:List Int):(List Int)→au:=fun r=>⟨(.ref (1,0) []),[],[⟨false,.il,.own,r⟩]⟩
theorem aiI:∀(zp0 zp1:Bool)(p0:(Int×(Int×Unit)))(p1 p2:List Int),bJ qj alL ⟨[(.imm true aL p0),(.imm zp0 .il p1),(.imm zp1 .il p2)],[]⟩=(Rs p0 p1 p2).run fun r=>some (O5 zp0 zp1 p0 p1 p2 r):=fun _ _ _ _ _=>by kernel_rfl
def alK (av:List AV) (rs:List Root):Tre au:=
 aC av fun a0_ av0=>
 aC av0 fun a1_ av1=>
 aC av1 fun a2_ av2=>
 aM av2<|
 aM rs<|
 ay true aL a0_ fun d1=>
 aZ .il a1_ fun z3 d2=>
 aZ .il a2_ fun z5 d4=>
 .mat (qh d1 d2 d4) fun r=>.ret (O5 z3 z5 d1 d2 d4 r)
def JM:Ctr:=dD [] alK
theorem SK:Contract Tryz.prog .none 102 JM:=aD (V:=qj) aW (ak uY arh (ak qw agz (ak adL ay7 aH))) Tryz.func102 (bF (n:=2) fun k hk=>by
 match k,hk with
 |0,_=>exact bH (id:=5) abe
 |1,_=>exact bH (id:=8) abf) fun _ _ _=>aK fun _ _=>aK fun _ _=>aK fun _ _=>bf<|bf<|aJ fun _=>bY fun _ _=>bY fun _ _=>fun h=>by intros;subst_vars;exact bn (aiI _ _ _ _ _) h
def jo (aV:List Int) (bW:(Int×(Int×Unit))):(Int×(List Int))→Tre ((Int×(List Int)) ⊕ (List Int)):=fun s3=>
 .cond (decide (s3.1<(aV.length:Int)))
  (.ite (0≤s3.1∧s3.1<(aV.length:Int))<|
  .mat (aV[s3.1.toNat]?) fun x1=>
  .mat (H6 bW s3.2 x1) fun r2=>
  .cond (!decide (r2=0))
   (.mat (qh bW ([r2,1]) s3.2) fun r3=>
   .ret (.inl (aI .i64 (s3.1+1),r3)))
   (.ret (.inl (aI .i64 (s3.1+1),s3.2))))
  (.ret (.inr s3.2))
def Df (p0:(Int×(Int×Unit))) (p1:List Int):Tre (List Int):=
 .mat (aO (jo p1 p0) (0,[1])) fun l4=>
 .ret l4
def qZ (p0:(Int×(Int×Unit))) (p1:List Int):Option (List Int):=(Df p0 p1).run some
def q8:Env:=⟨tau,[(101,adN),(102,JM)],[]⟩
def JK:Code:=(Tryz.f67.body).getD .skip
def Bf (dZ:Bool) (aV:List Int) (bW:(Int×(Int×Unit))):(Int×(List Int))→St:=fun x=>bP [(1,(.imm dZ .il aV)),(2,(.ptr (4,0) [])),(5,(.ref (7,0) [])),(6,(.i x.1))] [((4,0),some ⟨true,aL,.own,bW⟩),((7,0),some ⟨false,.il,.own,x.2⟩)]
def zC (_:Bool) (_:List Int) (_:(Int×(Int×Unit))):(List Int)→Ex×St:=fun x=>(.exit 0,bP [(5,(.ref (7,0) []))] [((7,0),some ⟨false,.il,.own,x⟩)])
def Uf (s:St):Tre (Ex×St):=
 aZ .il (s.tmps 1) fun z3 d2=>
 eF (4,0) [] (s.tmps 2)<|
 dI (7,0) [] (s.tmps 5)<|
 ay true .n (s.tmps 6) fun d7=>
 bg true aL (s.roots (4,0)) fun m9 d10=>
 asM .own m9<|
 bg false .il (s.roots (7,0)) fun m12 d13=>
 asM .own m12<|
 .mat (aO (jo d2 d10) (d7,d13)) fun x=>.ret (zC z3 d2 d10 x)
def mZ:bq:=⟨([1,2,5,6],[(4,0),(7,0)]),([5],[(7,0)]),Uf⟩
def yR:List (Nat×bq):=[(3,mZ)]
theorem Nq:∀(dZ:Bool)(aV:List Int)(bW:(Int×(Int×Unit)))(x:(Int×(List Int)))(c:St→Option (Ex×St)),den q8 yR (aT JK 0) (Bf dZ aV bW x) (bR mZ.kp mZ.kx c)=(jo aV bW x).run (bS (Bf dZ aV bW) (zC dZ aV bW) c):=fun _ _ _ _ _=>by
 kernel_rfl
theorem Rq:bQ q8 yR (aT JK 0) mZ:=bX fun _ _ _=>bY fun _ _=>jD<|fI<|aJ fun _=>bV fun _ _=>tM<|bV fun _ _=>tM<|fun h _ e11 _ e8 e6 e5 e4 e1=>bO (Nq _ _ _) h (by subst_vars;exact aP rfl rfl ⟨e1,e4,e5,e6,trivial⟩ ⟨e8,e11,trivial⟩)
def abd:FnI:=fnI Tryz.f67 yR
def EW (_:Bool) (_:(Int×(Int×Unit))) (_:List Int):(List Int)→au:=fun r=>⟨(.ref (1,0) []),[],[⟨false,.il,.own,r⟩]⟩
theorem Yz:∀(zp0:Bool)(p0:(Int×(Int×Unit)))(p1:List Int),bJ q8 abd ⟨[(.imm true aL p0),(.imm zp0 .il p1)],[]⟩=(Df p0 p1).run fun r=>some (EW zp0 p0 p1 r):=fun _ _ _=>by kernel_rfl
def abb (av:List AV) (rs:List Root):Tre au:=
 aC av fun a0_ av0=>
 aC av0 fun a1_ av1=>
 aM av1<|
 aM rs<|
 ay true aL a0_ fun d1=>
 aZ .il a1_ fun z3 d2=>
 .mat (qZ d1 d2) fun r=>.ret (EW z3 d1 d2 r)
def JL:Ctr:=dD [] abb
theorem YA:Contract Tryz.prog .none 67 JL:=aD (V:=q8) aW (ak ank aCW (ak SK ay1 aH)) Tryz.func67 (bF (n:=1) fun k hk=>by
 match k,hk with
 |0,_=>exact bH (id:=3) Rq) fun _ _ _=>aK fun _ _=>aK fun _ _=>bf<|bf<|aJ fun _=>bY fun _ _=>fun h=>by intros;subst_vars;exact bn (Yz _ _ _) h
def gF (aV:List Int) (bA:Int) (dY:(Int×(Int×Unit))):(Int×(List Int))→Tre ((Int×(List Int)) ⊕ (List Int)):=fun s3=>
 .cond (decide (s3.1<bA))
  (.ite (0≤s3.1∧s3.1<(aV.length:Int))<|
  .mat (aV[s3.1.toNat]?) fun x1=>
  .mat (rQ dY s3.2 x1) fun r2=>
  .cond (!decide (r2=0))
   (.mat (jc dY ([r2,1]) s3.2) fun r3=>
   .ret (.inl (aI .i64 (s3.1+1),r3)))
   (.ret (.inl (aI .i64 (s3.1+1),s3.2))))
  (.ret (.inr s3.2))
def wL (p0:(Int×(Int×Unit))) (p1:List Int):Tre (List Int):=
 .mat (aO (gF p1 (p1.length:Int) p0) (0,[1])) fun l4=>
 .ret l4
def mU (p0:(Int×(Int×Unit))) (p1:List Int):Option (List Int):=(wL p0 p1).run some
-- more
def qA(F:FO)(out:List Nat)(x:Nat):List Nat:=if F.lp out x=0 then out else cB (F.oJ [F.lp out x,1] out)
def zQ(F:FO)(xs:List Nat):List Nat:=xs.foldl (qA F) [1]
theorem atN{F:FO}{out:List Nat}{n x:Nat}(h:inL F out∧out.length≤n+1∧out≠[]):inL F (qA F out x)∧(qA F out x).length≤n+2:=by
 unfold qA
 split
 ·exact ⟨h.1,by omega⟩
 ·have h1:=F.NG [F.lp out x,1] out (by simp) h.2.2
  have h2:=iP (F.oJ [F.lp out x,1] out)
  simp only [List.length_cons,List.length_nil] at h1
  exact ⟨pV (acu _ _),by omega⟩
theorem atM{F:FO}{out:List Nat}{x:Nat}(hi:inL F out)(h:tq out)(hn:out≠[]):tq (qA F out x)∧qA F out x≠[]:=by
 unfold qA
 split
 ·exact ⟨h,hn⟩
 ·refine ⟨oI _,fun h0=>?_⟩
  have:=F.ams (V:=[F.lp out x,1]) (fun y hy=>by
   rcases List.mem_cons.1 hy with rfl|hy
   ·exact F.Y9 _ _
   ·rw [List.mem_singleton.1 hy];exact F.hq) hi (by simp) hn (by simp [cf]) (h hn)
  rw [h0] at this
  simp only [List.length_nil,List.length_cons] at this
  have:=List.length_pos_iff.2 hn
  omega
theorem aoG(F:FO):∀(xs:List Nat),inL F (zQ F xs)∧(zQ F xs).length≤xs.length+1∧tq (zQ F xs)∧zQ F xs≠[]:=by
 have key:∀(xs out:List Nat)(n:Nat),inL F out→out.length≤n+1→tq out→out≠[]→inL F (xs.foldl (qA F) out)∧(xs.foldl (qA F) out).length≤n+xs.length+1∧tq (xs.foldl (qA F) out)∧xs.foldl (qA F) out≠[]:=by
  intro xs
  induction xs with
  |nil=>intro out n h1 h2 h3 h4;exact ⟨h1,by simpa using h2,h3,h4⟩
  |cons x xs ih=>
   intro out n h1 h2 h3 h4
   obtain ⟨a,b⟩:=atN (x:=x) ⟨h1,h2,h4⟩
   obtain ⟨c,d⟩:=atM (x:=x) h1 h3 h4
   obtain ⟨e1,e2,e3,e4⟩:=ih (qA F out x) (n+1) a (by omega) c d
   exact ⟨e1,by simp only [List.foldl_cons,List.length_cons];omega,e3,e4⟩
 intro xs
 have:=key xs [1] 0 (fun y hy=>by rw [List.mem_singleton.1 hy];exact F.hq) (by simp) (fun _=>by simp [cf]) (by simp)
 refine ⟨this.1,?_,this.2.2⟩
 have h2:=this.2.1
 unfold zQ
 omega
theorem anD{F:FO}{xs:List Nat}{i:Nat}(hi:i<xs.length):zQ F (xs.take (i+1))=qA F (zQ F (xs.take i)) (cf xs i):=by
 unfold zQ
 rw [List.take_add_one,eO hi,Option.toList_some,List.foldl_append]
 rfl
theorem aAW{f:TF3}(hf:aN f=true){xs:List Nat}(hx:inL (FOf f hf) xs)(hl:xs.length≤100):mU f (aQ xs)=some (aQ (zQ (FOf f hf) xs)):=by
 unfold mU wL
 rw [ah (show aO (gF (aQ xs) ((aQ xs).length:Int) f) (0,[1])=some (aQ (zQ (FOf f hf) xs)) from ?_),Tre.aF]
 refine dh (fun i=>((i:Int),aQ (zQ (FOf f hf) (xs.take i)))) xs.length _ (fun i hi=>?_) ?_
 ·obtain ⟨a1,a2,_,_⟩:=aoG (FOf f hf) (xs.take i)
  rw [List.length_take] at a2
  have hv:=(FOf f hf).Y9 (zQ (FOf f hf) (xs.take i)) (cf xs i)
  unfold gF
  dsimp only
  rw [dX (dL (eO hi)),ah (an2 hf a1 (by omega) (kC hx i)),Tre.aA,anD hi]
  unfold qA
  by_cases h0:(FOf f hf).lp (zQ (FOf f hf) (xs.take i)) (cf xs i)=0
  ·rw [decide_eq_true (by omega),Bool.not_true,cond_false,Tre.aF,aR (by omega),if_pos h0]
  ·rw [decide_eq_false (by omega),Bool.not_false,cond_true,if_neg h0]
   have hc:=agM hf (P:=[(FOf f hf).lp (zQ (FOf f hf) (xs.take i)) (cf xs i),1]) (Q:=zQ (FOf f hf) (xs.take i)) (fun y hy=>by
    rcases List.mem_cons.1 hy with rfl|hy
    ·exact hv
    ·rw [List.mem_singleton.1 hy];exact (FOf f hf).hq) a1 (by simp) (by omega)
   rw [ah (show jc f [(((FOf f hf).lp (zQ (FOf f hf) (xs.take i)) (cf xs i):Nat):Int),1] (aQ (zQ (FOf f hf) (xs.take i)))=_ from hc),Tre.aF,aR (by omega)]
 ·unfold gF
  dsimp only
  rw [aS,dF,Tre.aF,List.take_length]
def mV:Env:=⟨tau,[(69,FC),(70,zY)],[]⟩
def BJ:Code:=(Tryz.f40.body).getD .skip
def wm (dZ:Bool) (aV:List Int) (bA:Int) (dY:(Int×(Int×Unit))):(Int×(List Int))→St:=fun x=>bP [(2,(.ptr (4,0) [])),(5,(.ref (7,0) [])),(10,(.imm dZ .il aV)),(11,(.i bA)),(12,(.i x.1))] [((4,0),some ⟨true,aL,.own,dY⟩),((7,0),some ⟨false,.il,.own,x.2⟩)]
def uK (_:Bool) (_:List Int) (_:Int) (_:(Int×(Int×Unit))):(List Int)→Ex×St:=fun x=>(.exit 0,bP [(5,(.ref (7,0) []))] [((7,0),some ⟨false,.il,.own,x⟩)])
def MJ (s:St):Tre (Ex×St):=
 eF (4,0) [] (s.tmps 2)<|
 dI (7,0) [] (s.tmps 5)<|
 aZ .il (s.tmps 10) fun z5 d4=>
 ay true .n (s.tmps 11) fun d7=>
 ay true .n (s.tmps 12) fun d9=>
 bg true aL (s.roots (4,0)) fun m11 d12=>
 asM .own m11<|
 bg false .il (s.roots (7,0)) fun m14 d15=>
 asM .own m14<|
 .mat (aO (gF d4 d7 d12) (d9,d15)) fun x=>.ret (uK z5 d4 d7 d12 x)
def j4:bq:=⟨([2,5,10,11,12],[(4,0),(7,0)]),([5],[(7,0)]),MJ⟩
def sO:List (Nat×bq):=[(3,j4)]
theorem G9:∀(dZ:Bool)(aV:List Int)(bA:Int)(dY:(Int×(Int×Unit)))(x:(Int×(List Int)))(c:St→Option (Ex×St)),den mV sO (aT BJ 0) (wm dZ aV bA dY x) (bR j4.kp j4.kx c)=(gF aV bA dY x).run (bS (wm dZ aV bA dY) (uK dZ aV bA dY) c):=fun _ _ _ _ _ _=>by
 kernel_rfl
theorem Kr:bQ mV sO (aT BJ 0) j4:=bX fun _ _ _=>jD<|fI<|bY fun _ _=>aJ fun _=>aJ fun _=>bV fun _ _=>tM<|bV fun _ _=>tM<|fun h _ e13 _ e10 e8 e6 e3 e2 e1=>bO (G9 _ _ _ _) h (by subst_vars;exact aP rfl rfl ⟨e1,e2,e3,e6,e8,trivial⟩ ⟨e10,e13,trivial⟩)
def Tq:FnI:=fnI Tryz.f40 sO
def yZ (_:Bool) (_:(Int×(Int×Unit))) (_:List Int):(List Int)→au:=fun r=>⟨(.ref (1,0) []),[],[⟨false,.il,.own,r⟩]⟩
theorem Qr:∀(zp0:Bool)(p0:(Int×(Int×Unit)))(p1:List Int),bJ mV Tq ⟨[(.imm true aL p0),(.imm zp0 .il p1)],[]⟩=(wL p0 p1).run fun r=>some (yZ zp0 p0 p1 r):=fun _ _ _=>by kernel_rfl
def Tp (av:List AV) (rs:List Root):Tre au:=
 aC av fun a0_ av0=>
 aC av0 fun a1_ av1=>
 aM av1<|
 aM rs<|
 ay true aL a0_ fun d1=>
 aZ .il a1_ fun z3 d2=>
 .mat (mU d1 d2) fun r=>.ret (yZ z3 d1 d2 r)
def BK:Ctr:=dD [] Tp
theorem Qs:Contract Tryz.prog .none 40 BK:=aD (V:=mV) aW (ak N9 aCl (ak IJ aCm aH)) Tryz.func40 (bF (n:=1) fun k hk=>by
 match k,hk with
 |0,_=>exact bH (id:=3) Kr) fun _ _ _=>aK fun _ _=>aK fun _ _=>bf<|bf<|aJ fun _=>bY fun _ _=>fun h=>by intros;subst_vars;exact bn (Qr _ _ _) h
def FL (p0:(Int×(Int×Unit))) (p1:List Int):Tre (Int×(List Int)):=
 .mat (LY p0 p1) fun r1=>
 .cond (!decide (r1=0))
  (.ret (r1,[]))
  (.mat (qZ p0 p1) fun r2=>
  .ret (0,r2))
def tV (p0:(Int×(Int×Unit))) (p1:List Int):Option (Int×(List Int)):=(FL p0 p1).run some
-- more
theorem aBA{f:TF3}(hf:aN f=true){xs:List Nat}(hx:inL (FOf f hf) xs)(hl:xs.length≤100):qZ f (aQ xs)=some (aQ (zQ (FOf f hf) xs)):=by
 unfold qZ Df
 rw [ah (show aO (jo (aQ xs) f) (0,[1])=some (aQ (zQ (FOf f hf) xs)) from ?_),Tre.aF]
 refine dh (fun i=>((i:Int),aQ (zQ (FOf f hf) (xs.take i)))) xs.length _ (fun i hi=>?_) ?_
 ·obtain ⟨a1,a2,_,_⟩:=aoG (FOf f hf) (xs.take i)
  rw [List.length_take] at a2
  have hv:=(FOf f hf).Y9 (zQ (FOf f hf) (xs.take i)) (cf xs i)
  unfold jo
  dsimp only
  rw [dX (dL (eO hi)),ah (avk hf a1 (by omega) (kC hx i)),Tre.aA,anD hi]
  unfold qA
  by_cases h0:(FOf f hf).lp (zQ (FOf f hf) (xs.take i)) (cf xs i)=0
  ·rw [decide_eq_true (by omega),Bool.not_true,cond_false,Tre.aF,aR (by omega),if_pos h0]
  ·rw [decide_eq_false (by omega),Bool.not_false,cond_true,if_neg h0]
   have hc:=ahv hf (P:=[(FOf f hf).lp (zQ (FOf f hf) (xs.take i)) (cf xs i),1]) (Q:=zQ (FOf f hf) (xs.take i)) (fun y hy=>by
    rcases List.mem_cons.1 hy with rfl|hy
    ·exact hv
    ·rw [List.mem_singleton.1 hy];exact (FOf f hf).hq) a1 (by simp) (by omega)
   rw [ah (show qh f [(((FOf f hf).lp (zQ (FOf f hf) (xs.take i)) (cf xs i):Nat):Int),1] (aQ (zQ (FOf f hf) (xs.take i)))=_ from hc),Tre.aF,aR (by omega)]
 ·unfold jo
  dsimp only
  rw [aS,dF,Tre.aF,List.take_length]
theorem aAi{f:TF3}(hf:aN f=true){L:List Nat}(h:inL (FOf f hf) L)(hl:L.length≤1000):LY f (aQ L)=some 0:=by
 unfold LY afL
 rw [ah (aaZ f),hf,Tre.aA,Bool.not_true,cond_false,ah (show aO (qV (aQ L) f) 0=some (.inr ()) from ?_)]
 ·rfl
 refine dh (fun i=>(i:Int)) L.length _ (fun i hi=>?_) ?_
 ·have hc:=kC h i
  have hin:inR (cf L i:Int) 0 (Ut f)=true:=by
   rw [ajl] at hc
   rw [gV]
   unfold Ut
   have:((cf L i:Nat):Int)<((2 ^ f.1.toNat:Nat):Int):=by exact_mod_cast hc
   have h2:((2 ^ f.1.toNat:Nat):Int)=(2:Int) ^ f.1.toNat:=by rw [Int.natCast_pow];rfl
   omega
  unfold qV
  rw [dX (dL (eO hi)),ah (Rn hf),ajk hf]
  dsimp only
  rw [Tre.aA,hin,Bool.not_true,cond_false,Tre.aF,aR (by omega)]
 ·unfold qV
  rw [aS,dF,Tre.aF]
theorem ax6{f:TF3}(hf:aN f=true){xs:List Nat}(hx:inL (FOf f hf) xs)(hl:xs.length≤100):tV f (aQ xs)=some (0,aQ (zQ (FOf f hf) xs)):=by
 unfold tV FL
 rw [ah (aAi hf hx (by omega)),Tre.aA,decide_eq_true rfl,Bool.not_true,cond_false,ah (aBA hf hx hl),Tre.aF]
def LH:Env:=⟨tau,[(66,ag6),(67,JL)],[]⟩
def adf:FnI:=fnI Tryz.f37 []
def Gu (_:Bool) (_:(Int×(Int×Unit))) (_:List Int):(Int×(List Int))→au:=fun r=>⟨(.tcons (.ref (1,0) []) (.tcons (.i r.1) .tnil)),[],[⟨false,.il,.own,r.2⟩]⟩
theorem aaP:∀(zp0:Bool)(p0:(Int×(Int×Unit)))(p1:List Int),bJ LH adf ⟨[(.imm true aL p0),(.imm zp0 .il p1)],[]⟩=(FL p0 p1).run fun r=>some (Gu zp0 p0 p1 r):=fun _ _ _=>by kernel_rfl
def ade (av:List AV) (rs:List Root):Tre au:=
 aC av fun a0_ av0=>
 aC av0 fun a1_ av1=>
 aM av1<|
 aM rs<|
 ay true aL a0_ fun d1=>
 aZ .il a1_ fun z3 d2=>
 .mat (tV d1 d2) fun r=>.ret (Gu z3 d1 d2 r)
def LJ:Ctr:=dD [] ade
theorem aaQ:Contract Tryz.prog .none 37 LJ:=aD (V:=LH) aW (ak apX aEG (ak YA aEH aH)) Tryz.func37 bI fun _ _ _=>aK fun _ _=>aK fun _ _=>bf<|bf<|aJ fun _=>bY fun _ _=>fun h=>by intros;subst_vars;exact bn (aaP _ _ _) h
def sM (aV:List Int) (bA:Int) (dB:(Int×(Int×Unit))):(Int×Int)→Tre ((Int×Int) ⊕ Int):=fun s3=>
 .cond (decide (s3.2<(aV.length:Int)))
  (.ite (0≤s3.2∧s3.2<(aV.length:Int))<|
  .mat (aV[s3.2.toNat]?) fun x1=>
  .mat (ko dB bA s3.2) fun r2=>
  .mat (dW dB x1 r2) fun r3=>
  .ret (.inl (jw .i64 s3.1 r3,aI .i64 (s3.2+1))))
  (.ret (.inr s3.1))
def abv (p0:(Int×(Int×Unit))) (p1:List Int) (p2:Int):Tre Int:=
 .mat (aO (sM p1 p2 p0) (0,0)) fun l4=>
 .ret l4
def Bu (p0:(Int×(Int×Unit))) (p1:List Int) (p2:Int):Option Int:=(abv p0 p1 p2).run some
-- more
theorem aox{f:TF3}(hf:aN f=true){P:List Nat}(hP:inL (FOf f hf) P)(hl:P.length≤1000){x:Nat}(hx:x<(FOf f hf).q):Bu f (aQ P) (x:Int)=some (((FOf f hf).lp P x:Nat):Int):=by
 unfold Bu abv
 rw [ah (show aO (sM (aQ P) (x:Int) f) (0,0)=some (((FOf f hf).lp P x:Nat):Int) from ?_),Tre.aF]
 refine dh (fun i=>((((FOf f hf).lp (P.take i) x:Nat):Int),(i:Int))) P.length _ (fun i hi=>?_) ?_
 ·have hs:=(FOf f hf).F8 i hx
  have hti:(P.take i).length=i:=by rw [List.length_take];omega
  unfold sM
  dsimp only
  rw [dX (dL (eO hi)),ah (agm hf hx i),ah (agl hf (kC hP i) hs),Tre.aF,aR (by omega),Xq hf ((FOf f hf).Y9 _ _) ((FOf f hf).lt _ _),List.take_add_one,eO hi,Option.toList_some,apB,hti]
 ·unfold sM
  dsimp only
  rw [aS,dF,Tre.aF,List.take_length]
def H9:Env:=⟨tau,[(56,sI),(68,qW)],[]⟩
def ad3:Code:=(Tryz.f42.body).getD .skip
def Pw (dZ:Bool) (aV:List Int) (bA:Int) (dB:(Int×(Int×Unit))):(Int×Int)→St:=fun x=>bP [(1,(.imm dZ .il aV)),(2,(.i bA)),(3,(.ptr (5,0) [])),(7,(.i x.1)),(8,(.i x.2))] [((5,0),some ⟨true,aL,.own,dB⟩)]
def MC (_:Bool) (_:List Int) (_:Int) (_:(Int×(Int×Unit))):Int→Ex×St:=fun x=>(.exit 0,bP [(7,(.i x))] [])
def ai0 (s:St):Tre (Ex×St):=
 aZ .il (s.tmps 1) fun z3 d2=>
 ay true .n (s.tmps 2) fun d5=>
 eF (5,0) [] (s.tmps 3)<|
 ay true .n (s.tmps 7) fun d8=>
 ay true .n (s.tmps 8) fun d10=>
 bg true aL (s.roots (5,0)) fun m12 d13=>
 asM .own m12<|
 .mat (aO (sM d2 d5 d13) (d8,d10)) fun x=>.ret (MC z3 d2 d5 d13 x)
def yw:bq:=⟨([1,2,3,7,8],[(5,0)]),([7],[]),ai0⟩
def RD:List (Nat×bq):=[(3,yw)]
theorem abw:∀(dZ:Bool)(aV:List Int)(bA:Int)(dB:(Int×(Int×Unit)))(x:(Int×Int))(c:St→Option (Ex×St)),den H9 RD (aT ad3 0) (Pw dZ aV bA dB x) (bR yw.kp yw.kx c)=(sM aV bA dB x).run (bS (Pw dZ aV bA dB) (MC dZ aV bA dB) c):=fun _ _ _ _ _ _=>by
 kernel_rfl
theorem agh:bQ H9 RD (aT ad3 0) yw:=bX fun _ _ _=>bY fun _ _=>aJ fun _=>jD<|aJ fun _=>aJ fun _=>bV fun _ _=>tM<|fun h _ e11 e9 e7 e6 e4 e1=>bO (abw _ _ _ _) h (by subst_vars;exact aP rfl rfl ⟨e1,e4,e6,e7,e9,trivial⟩ ⟨e11,trivial⟩)
def aqr:FnI:=fnI Tryz.f42 RD
def Xj (_:Bool) (_:(Int×(Int×Unit))) (_:List Int) (_:Int):Int→au:=fun r=>⟨(.i r),[],[]⟩
theorem ant:∀(zp0:Bool)(p0:(Int×(Int×Unit)))(p1:List Int)(p2:Int),bJ H9 aqr ⟨[(.imm true aL p0),(.imm zp0 .il p1),(.i p2)],[]⟩=(abv p0 p1 p2).run fun r=>some (Xj zp0 p0 p1 p2 r):=fun _ _ _ _=>by kernel_rfl
def aqp (av:List AV) (rs:List Root):Tre au:=
 aC av fun a0_ av0=>
 aC av0 fun a1_ av1=>
 aC av1 fun a2_ av2=>
 aM av2<|
 aM rs<|
 ay true aL a0_ fun d1=>
 aZ .il a1_ fun z3 d2=>
 ay true .n a2_ fun d4=>
 .mat (Bu d1 d2 d4) fun r=>.ret (Xj z3 d1 d2 d4 r)
def RG:Ctr:=dD [] aqp
theorem ZA:Contract Tryz.prog .none 42 RG:=aD (V:=H9) aW (ak uY arh (ak qw agz aH)) Tryz.func42 (bF (n:=1) fun k hk=>by
 match k,hk with
 |0,_=>exact bH (id:=3) agh) fun _ _ _=>aK fun _ _=>aK fun _ _=>aK fun _ _=>bf<|bf<|aJ fun _=>bY fun _ _=>aJ fun _=>fun h=>by intros;subst_vars;exact bn (ant _ _ _ _) h
def ahr (p0:Int) (p1:Int):Tre Int:=
 let v1:=aI .i64 (Int.tdiv (aI .i64 (p0-p1)) 2)
 .ret v1
def anp (p0:Int) (p1:Int):Option Int:=(ahr p0 p1).run some
def xI(p0 p1:Int):Int:=
 let v1:=aI .i64 (Int.tdiv (aI .i64 (p0-p1)) 2)
 v1
theorem agd(p0 p1:Int):anp p0 p1=some (xI p0 p1):=rfl
def Zx:Env:=⟨tau,[],[]⟩
def anr:FnI:=fnI Tryz.f55 []
def Ti (_:Int) (_:Int):Int→au:=fun r=>⟨(.i r),[],[]⟩
theorem al3:∀(p0 p1:Int),bJ Zx anr ⟨[(.i p0),(.i p1)],[]⟩=(ahr p0 p1).run fun r=>some (Ti p0 p1 r):=fun _ _=>by kernel_rfl
def anq (av:List AV) (rs:List Root):Tre au:=
 aC av fun a0_ av0=>
 aC av0 fun a1_ av1=>
 aM av1<|
 aM rs<|
 ay true .n a0_ fun d1=>
 ay true .n a1_ fun d2=>
 .ret (Ti d1 d2 (xI d1 d2))
def Zy:Ctr:=dD [] anq
theorem al4:Contract Tryz.prog .none 55 Zy:=aD (V:=Zx) aW aH Tryz.func55 bI fun _ _ _=>aK fun _ _=>aK fun _ _=>bf<|bf<|aJ fun _=>aJ fun _=>fun h=>by intros;subst_vars;exact tC (al3 _ _) (agd _ _) h
def afI (p0:List Int):Tre (List Int):=
 .ite ((0+p0.length)*8≤bM∧1≤8)<|
 .ret ([]++p0)
def LV (p0:List Int):Option (List Int):=(afI p0).run some
-- more
theorem aBt{p0:List Int}(h:p0.length≤1048576):LV p0=some p0:=by
 unfold LV afI
 rw [Tre.run_ite,if_pos (by unfold bM;omega)]
 rfl
def agZ:Env:=⟨tau,[],[(1000000,[((4,0),[],false)])]⟩
def asL:FnI:=fnI Tryz.f108 []
def Zg (_:Bool) (_:List Int):(List Int)→au:=fun r=>⟨(.imm true .il r),[],[]⟩
theorem apS:∀(zp0:Bool)(p0:List Int),bJ agZ asL ⟨[(.imm zp0 .il p0)],[]⟩=(afI p0).run fun r=>some (Zg zp0 p0 r):=fun _ _=>by kernel_rfl
def asK (av:List AV) (rs:List Root):Tre au:=
 aC av fun a0_ av0=>
 aM av0<|
 aM rs<|
 aZ .il a0_ fun z2 d1=>
 .mat (LV d1) fun r=>.ret (Zg z2 d1 r)
def ag0:Ctr:=dD [] asK
theorem apT:Contract Tryz.prog .none 108 ag0:=aD (V:=agZ) aW aH Tryz.func108 bI fun _ _ _=>aK fun _ _=>bf<|bf<|bY fun _ _=>fun h=>by intros;subst_vars;exact bn (apS _ _) h
def Nn (aU:Int) (bK:(Int×(Int×Unit))):(Int×Int)→Tre ((Int×Int) ⊕ Int):=fun s2=>
 .cond (decide (s2.1>0))
  (.mat (dW bK s2.2 aU) fun r1=>
  .ret (.inl (aI .i64 (s2.1-1),r1)))
  (.ret (.inr s2.2))
def aly (p0:(Int×(Int×Unit))) (p1:Int) (p2:Int):Tre Int:=
 .mat (aO (Nn p1 p0) (p2,1)) fun l2=>
 .ret l2
def ads (p0:(Int×(Int×Unit))) (p1:Int) (p2:Int):Option Int:=(aly p0 p1 p2).run some
def HY:Env:=⟨tau,[(68,qW)],[]⟩
def adt:Code:=(Tryz.f135.body).getD .skip
def OY (aU:Int) (bK:(Int×(Int×Unit))):(Int×Int)→St:=fun x=>bP [(1,(.i aU)),(2,(.i x.1)),(3,(.ptr (5,0) [])),(7,(.i x.2))] [((5,0),some ⟨true,aL,.own,bK⟩)]
def L6 (_:Int) (_:(Int×(Int×Unit))):Int→Ex×St:=fun x=>(.exit 0,bP [(7,(.i x))] [])
def aiC (s:St):Tre (Ex×St):=
 ay true .n (s.tmps 1) fun d2=>
 ay true .n (s.tmps 2) fun d4=>
 eF (5,0) [] (s.tmps 3)<|
 ay true .n (s.tmps 7) fun d7=>
 bg true aL (s.roots (5,0)) fun m9 d10=>
 asM .own m9<|
 .mat (aO (Nn d2 d10) (d4,d7)) fun x=>.ret (L6 d2 d10 x)
def xY:bq:=⟨([1,2,3,7],[(5,0)]),([7],[]),aiC⟩
def Rl:List (Nat×bq):=[(2,xY)]
theorem aa1:∀(aU:Int)(bK:(Int×(Int×Unit)))(x:(Int×Int))(c:St→Option (Ex×St)),den HY Rl (aT adt 0) (OY aU bK x) (bR xY.kp xY.kx c)=(Nn aU bK x).run (bS (OY aU bK) (L6 aU bK) c):=fun _ _ _ _=>by
 kernel_rfl
theorem afN:bQ HY Rl (aT adt 0) xY:=bX fun _ _ _=>aJ fun _=>aJ fun _=>jD<|aJ fun _=>bV fun _ _=>tM<|fun h _ e8 e6 e5 e3 e1=>bO (aa1 _ _) h (by subst_vars;exact aP rfl rfl ⟨e1,e3,e5,e6,trivial⟩ ⟨e8,trivial⟩)
def apZ:FnI:=fnI Tryz.f135 Rl
def WG (_:(Int×(Int×Unit))) (_:Int) (_:Int):Int→au:=fun r=>⟨(.i r),[],[]⟩
theorem ana:∀(p0:(Int×(Int×Unit)))(p1 p2:Int),bJ HY apZ ⟨[(.imm true aL p0),(.i p1),(.i p2)],[]⟩=(aly p0 p1 p2).run fun r=>some (WG p0 p1 p2 r):=fun _ _ _=>by kernel_rfl
def apY (av:List AV) (rs:List Root):Tre au:=
 aC av fun a0_ av0=>
 aC av0 fun a1_ av1=>
 aC av1 fun a2_ av2=>
 aM av2<|
 aM rs<|
 ay true aL a0_ fun d1=>
 ay true .n a1_ fun d2=>
 ay true .n a2_ fun d3=>
 .mat (ads d1 d2 d3) fun r=>.ret (WG d1 d2 d3 r)
def adu:Ctr:=dD [] apY
theorem anb:Contract Tryz.prog .none 135 adu:=aD (V:=HY) aW (ak qw agz aH) Tryz.func135 (bF (n:=1) fun k hk=>by
 match k,hk with
 |0,_=>exact bH (id:=2) afN) fun _ _ _=>aK fun _ _=>aK fun _ _=>aK fun _ _=>bf<|bf<|aJ fun _=>aJ fun _=>aJ fun _=>fun h=>by intros;subst_vars;exact bn (ana _ _ _) h
def adp (p0:(Int×(Int×Unit))) (p1:Int):Tre Int:=
 .mat (uX p0) fun r1=>
 .mat (ads p0 p1 (aI .i64 (r1-2))) fun r2=>
 .ret r2
def dR (p0:(Int×(Int×Unit))) (p1:Int):Option Int:=(adp p0 p1).run some
-- more
set_option maxRecDepth 100000
theorem aDW:zS dR sU 1 2=true:=by kernel_rfl
theorem aDX:zS dR sU 1 3=true:=by kernel_rfl
theorem aDY:zS dR sU 2 7=true:=by kernel_rfl
theorem aBE:zS dR sU 3 11=true:=by kernel_rfl
theorem aBF:zS dR sU 3 13=true:=by kernel_rfl
theorem aBG:zS dR sU 4 19=true:=by kernel_rfl
theorem aBH:zS dR sU 4 25=true:=by kernel_rfl
theorem aBI:zS dR sU 4 31=true:=by kernel_rfl
theorem aBJ:zS dR sU 5 37=true:=by kernel_rfl
theorem aBK:zS dR sU 5 41=true:=by kernel_rfl
theorem aBL:zS dR sU 5 47=true:=by kernel_rfl
theorem aBM:zS dR sU 5 55=true:=by kernel_rfl
theorem aBN:zS dR sU 5 59=true:=by kernel_rfl
theorem aBO:zS dR sU 5 61=true:=by kernel_rfl
theorem awE{f:TF3}(hf:aN f=true){a:Int}(ha:inF f a):dR f a=some (zO f a):=by
 refine azY (fun q hq=>?_) hf ha
 simp only [iW,List.mem_cons,List.not_mem_nil,or_false] at hq
 rcases hq with rfl|rfl|rfl|rfl|rfl|rfl|rfl|rfl|rfl|rfl|rfl|rfl|rfl|rfl
 ·exact aDW
 ·exact aDX
 ·exact aDY
 ·exact aBE
 ·exact aBF
 ·exact aBG
 ·exact aBH
 ·exact aBI
 ·exact aBJ
 ·exact aBK
 ·exact aBL
 ·exact aBM
 ·exact aBN
 ·exact aBO
def Wz:Env:=⟨tau,[(87,ES),(135,adu)],[]⟩
def alu:FnI:=fnI Tryz.f117 []
def OW (_:(Int×(Int×Unit))) (_:Int):Int→au:=fun r=>⟨(.i r),[],[]⟩
theorem aiA:∀(p0:(Int×(Int×Unit)))(p1:Int),bJ Wz alu ⟨[(.imm true aL p0),(.i p1)],[]⟩=(adp p0 p1).run fun r=>some (OW p0 p1 r):=fun _ _=>by kernel_rfl
def als (av:List AV) (rs:List Root):Tre au:=
 aC av fun a0_ av0=>
 aC av0 fun a1_ av1=>
 aM av1<|
 aM rs<|
 ay true aL a0_ fun d1=>
 ay true .n a1_ fun d2=>
 .mat (dR d1 d2) fun r=>.ret (OW d1 d2 r)
def JB:Ctr:=dD [] als
theorem SE:Contract Tryz.prog .none 117 JB:=aD (V:=Wz) aW (ak HZ avI (ak anb aDl aH)) Tryz.func117 bI fun _ _ _=>aK fun _ _=>aK fun _ _=>bf<|bf<|aJ fun _=>aJ fun _=>fun h=>by intros;subst_vars;exact bn (aiA _ _) h
def ru (aV:List Int) (bA:List Int) (bW:Int) (dB:(Int×(Int×Unit))):(Int×(List Int))→Tre ((Int×(List Int)) ⊕ (List Int)):=fun s3=>
 .cond (decide (s3.1<(aV.length:Int)))
  (.ite (0≤s3.1∧s3.1<(aV.length:Int))<|
  .mat (aV[s3.1.toNat]?) fun x1=>
  .ite (0≤s3.1∧s3.1<(bA.length:Int))<|
  .mat (bA[s3.1.toNat]?) fun x2=>
  .mat (dW dB x2 bW) fun r3=>
  .ite ((s3.2.length+1)*8≤bM∧1≤8)<|
  let v4:=s3.2++([jw .i64 x1 r3])
  .ret (.inl (aI .i64 (s3.1+1),v4)))
  (.ret (.inr s3.2))
def af2 (p0:(Int×(Int×Unit))) (p1:List Int) (p2:List Int) (p3:Int):Tre (List Int):=
 .mat (aO (ru p1 p2 p3 p0) (0,[])) fun l5=>
 .ret l5
def EY (p0:(Int×(Int×Unit))) (p1:List Int) (p2:List Int) (p3:Int):Option (List Int):=(af2 p0 p1 p2 p3).run some
-- more
theorem adO{f:TF3}(hf:aN f=true){u w:List Int}(hl:u.length=w.length)(hs:u.length≤1000000)(hw:∀y∈w,inF f y){x:Int}(hx:inF f x):EY f u w x=some (ael f u w x):=by
 have key:=kN (xs:=u.zip w) (step:=ru u w x f) (fun (i:Nat) (acc:List Int)=>((i:Int),acc)) (fun _ acc p=>.inl (acc++[jw .i64 p.1 (gJ f p.2 x)])) id (fun i acc=>acc.length=i) (by
  intro i acc p hp hi
  have hlt:=(List.getElem?_eq_some_iff.1 hp).1
  rw [List.length_zip] at hlt
  obtain ⟨p1,p2⟩:=p
  rw [List.getElem?_zip_eq_some] at hp
  obtain ⟨h1,h2⟩:=hp
  refine ⟨?_,fun a ha=>?_⟩
  ·unfold ru
   dsimp only
   rw [Tre.aA,decide_eq_true (by omega),cond_true,Tre.run_ite,if_pos (by omega),Int.toNat_natCast,ah h1,Tre.run_ite,if_pos (by omega),ah h2,ah (awG hf (hw _ (List.mem_of_getElem? h2)) hx),Tre.run_ite,if_pos (by unfold bM;omega),Tre.aF,aR (by omega)]
  ·cases ha;simp [hi]) (by
  intro acc _
  unfold ru
  dsimp only
  rw [Tre.aA,decide_eq_false (by rw [List.length_zip];omega),cond_false]
  rfl) (u.zip w) 0 [] rfl (Nat.zero_le _) rfl
 rw [aeF] at key
 have key:aO (ru u w x f) (0,[])=some (ael f u w x):=key
 unfold EY af2
 rw [ah key]
 rfl
def Ms:Env:=⟨tau,[(68,qW)],[(1000000,[((10,0),[],false)])]⟩
def ahm:Code:=(Tryz.f38.body).getD .skip
def SY (dZ:Bool) (BF:Bool) (aV:List Int) (bA:List Int) (bW:Int) (dB:(Int×(Int×Unit))):(Int×(List Int))→St:=fun x=>bP [(1,(.imm dZ .il aV)),(2,(.imm BF .il bA)),(3,(.i bW)),(4,(.ptr (6,0) [])),(9,(.ref (11,0) [])),(10,(.i x.1))] [((6,0),some ⟨true,aL,.own,dB⟩),((11,0),some ⟨false,.il,.own,x.2⟩)]
def O9 (_:Bool) (_:Bool) (_:List Int) (_:List Int) (_:Int) (_:(Int×(Int×Unit))):(List Int)→Ex×St:=fun x=>(.exit 0,bP [(9,(.ref (11,0) []))] [((11,0),some ⟨false,.il,.own,x⟩)])
def alT (s:St):Tre (Ex×St):=
 aZ .il (s.tmps 1) fun z3 d2=>
 aZ .il (s.tmps 2) fun z6 d5=>
 ay true .n (s.tmps 3) fun d8=>
 eF (6,0) [] (s.tmps 4)<|
 dI (11,0) [] (s.tmps 9)<|
 ay true .n (s.tmps 10) fun d12=>
 bg true aL (s.roots (6,0)) fun m14 d15=>
 asM .own m14<|
 bg false .il (s.roots (11,0)) fun m17 d18=>
 asM .own m17<|
 .mat (aO (ru d2 d5 d8 d15) (d12,d18)) fun x=>.ret (O9 z3 z6 d2 d5 d8 d15 x)
def Bl:bq:=⟨([1,2,3,4,9,10],[(6,0),(11,0)]),([9],[(11,0)]),alT⟩
def Xb:List (Nat×bq):=[(3,Bl)]
theorem adP:∀(dZ BF:Bool)(aV bA:List Int)(bW:Int)(dB:(Int×(Int×Unit)))(x:(Int×(List Int)))(c:St→Option (Ex×St)),den Ms Xb (aT ahm 0) (SY dZ BF aV bA bW dB x) (bR Bl.kp Bl.kx c)=(ru aV bA bW dB x).run (bS (SY dZ BF aV bA bW dB) (O9 dZ BF aV bA bW dB) c):=fun _ _ _ _ _ _ _ _=>by
 kernel_rfl
theorem aiO:bQ Ms Xb (aT ahm 0) Bl:=bX fun _ _ _=>bY fun _ _=>bY fun _ _=>aJ fun _=>jD<|fI<|aJ fun _=>bV fun _ _=>tM<|bV fun _ _=>tM<|fun h _ e16 _ e13 e11 e10 e9 e7 e4 e1=>bO (adP _ _ _ _ _ _) h (by subst_vars;exact aP rfl rfl ⟨e1,e4,e7,e9,e10,e11,trivial⟩ ⟨e13,e16,trivial⟩)
def atf:FnI:=fnI Tryz.f38 Xb
def Zu (_:Bool) (_:Bool) (_:(Int×(Int×Unit))) (_:List Int) (_:List Int) (_:Int):(List Int)→au:=fun r=>⟨(.imm true .il r),[],[]⟩
theorem aqf:∀(zp0 zp1:Bool)(p0:(Int×(Int×Unit)))(p1 p2:List Int)(p3:Int),bJ Ms atf ⟨[(.imm true aL p0),(.imm zp0 .il p1),(.imm zp1 .il p2),(.i p3)],[]⟩=(af2 p0 p1 p2 p3).run fun r=>some (Zu zp0 zp1 p0 p1 p2 p3 r):=fun _ _ _ _ _ _=>by kernel_rfl
def ate (av:List AV) (rs:List Root):Tre au:=
 aC av fun a0_ av0=>
 aC av0 fun a1_ av1=>
 aC av1 fun a2_ av2=>
 aC av2 fun a3_ av3=>
 aM av3<|
 aM rs<|
 ay true aL a0_ fun d1=>
 aZ .il a1_ fun z3 d2=>
 aZ .il a2_ fun z5 d4=>
 ay true .n a3_ fun d6=>
 .mat (EY d1 d2 d4 d6) fun r=>.ret (Zu z3 z5 d1 d2 d4 d6 r)
def ahn:Ctr:=dD [] ate
theorem aqg:Contract Tryz.prog .none 38 ahn:=aD (V:=Ms) aW (ak qw agz aH) Tryz.func38 (bF (n:=1) fun k hk=>by
 match k,hk with
 |0,_=>exact bH (id:=3) aiO) fun _ _ _=>aK fun _ _=>aK fun _ _=>aK fun _ _=>aK fun _ _=>bf<|bf<|aJ fun _=>bY fun _ _=>bY fun _ _=>aJ fun _=>fun h=>by intros;subst_vars;exact bn (aqf _ _ _ _ _ _) h
def lJ (bA:(List (List Int))):(Int×(List (List Int)))→Tre ((Int×(List (List Int))) ⊕ (List (List Int))):=fun s3=>
 .cond (decide (s3.1<(bA.length:Int)))
  (.ite (0≤s3.1∧s3.1<(bA.length:Int))<|
  .mat (bA[s3.1.toNat]?) fun x1=>
  .mat (LV x1) fun r2=>
  .ite ((s3.2.length+1)*24≤bM∧1≤24)<|
  .ret (.inl (aI .i64 (s3.1+1),s3.2++([r2]))))
  (.ret (.inr s3.2))
def jT (jX:Int) (xL:(List (List Int))):Int→Tre (Int ⊕ Int):=fun s11=>
 .cond (decide (s11<(xL.length:Int)))
  (.ite (0≤s11∧s11<(xL.length:Int))<|
  .mat (xL[s11.toNat]?) fun x4=>
  .ite (0≤jX∧jX<(x4.length:Int))<|
  .mat (x4[jX.toNat]?) fun x5=>
  .cond (decide (x5=0))
   (.ret (.inl (aI .i64 (s11+1))))
   (.ret (.inr s11)))
  (.ret (.inr s11))
def jU (vE:Int) (qH:Int) (Du:(Int×(Int×Unit))):(Int×(List (List Int)))→Tre ((Int×(List (List Int))) ⊕ (List (List Int))):=fun s18=>
 .cond (decide (s18.1<(s18.2.length:Int)))
  (.cond (!decide (s18.1=vE))
   (.ite (0≤s18.1∧s18.1<(s18.2.length:Int))<|
   .mat (s18.2[s18.1.toNat]?) fun x15=>
   .ite (0≤qH∧qH<(x15.length:Int))<|
   .mat (x15[qH.toNat]?) fun x16=>
   .cond (!decide (x16=0))
    (.ite (0≤s18.1∧s18.1<(s18.2.length:Int))<|
    .mat (s18.2[s18.1.toNat]?) fun x17=>
    .ite (0≤vE∧vE<(s18.2.length:Int))<|
    .mat (s18.2[vE.toNat]?) fun x18=>
    .ite (0≤s18.1∧s18.1<(s18.2.length:Int))<|
    .mat (s18.2[s18.1.toNat]?) fun x19=>
    .ite (0≤qH∧qH<(x19.length:Int))<|
    .mat (x19[qH.toNat]?) fun x20=>
    .mat (EY Du x17 x18 x20) fun r21=>
    .ite (0≤s18.1∧s18.1<(s18.2.length:Int))<|
    .mat (s18.2[s18.1.toNat]?) fun _=>
    let v23:=s18.2.set s18.1.toNat r21
    .ret (.inl (aI .i64 (s18.1+1),v23)))
    (.ret (.inl (aI .i64 (s18.1+1),s18.2))))
   (.ret (.inl (aI .i64 (s18.1+1),s18.2))))
  (.ret (.inr s18.2))
def jB (dH:Int) (dV:(Int×(Int×Unit))):(Int×Int×(List (List Int)))→Tre ((Int×Int×(List (List Int))) ⊕ (Int×(List (List Int)))):=fun s8=>
 .cond (decide (s8.2.1<dH))
  (.mat (aO (jT s8.2.1 s8.2.2) s8.1) fun l6=>
  .cond (decide (l6=(s8.2.2.length:Int)))
   (.ret (.inl (s8.1,aI .i64 (s8.2.1+1),s8.2.2)))
   (.ite (0≤l6∧l6<(s8.2.2.length:Int))<|
   .mat (s8.2.2[l6.toNat]?) fun x7=>
   .ite (0≤s8.1∧s8.1<(s8.2.2.length:Int))<|
   .mat (s8.2.2[s8.1.toNat]?) fun x8=>
   .ite (0≤l6∧l6<(s8.2.2.length:Int))<|
   .mat (s8.2.2[l6.toNat]?) fun _=>
   .ite ((.n:K)=.n∧0≤dH∧dH=dH∧dH*(8:Nat)≤140737488355328∧1≤8)<|
   .ite (0≤s8.2.1∧s8.2.1<(x7.length:Int))<|
   .mat (x7[s8.2.1.toNat]?) fun x10=>
   .mat (dR dV x10) fun r11=>
   .mat (EY dV (List.replicate dH.toNat (0:Int)) x7 r11) fun r12=>
   .ite (0≤s8.1∧s8.1<((s8.2.2.set l6.toNat x8).length:Int))<|
   .mat ((s8.2.2.set l6.toNat x8)[s8.1.toNat]?) fun _=>
   let v14:=(s8.2.2.set l6.toNat x8).set s8.1.toNat r12
   .mat (aO (jU s8.1 s8.2.1 dV) (0,v14)) fun l24=>
   .ret (.inl (aI .i64 (s8.1+1),aI .i64 (s8.2.1+1),l24))))
  (.ret (.inr (s8.1,s8.2.2)))
def Rx (p0:(Int×(Int×Unit))) (p1:Int) (p2:(List (List Int))):Tre (List (List Int)):=
 .mat (aO (lJ p2) (0,[])) fun l3=>
 .mat (aO (jB p1 p0) (0,0,l3)) fun l25=>
 .ite (0≤(0:Int)∧(0:Int)≤l25.1∧l25.1≤(l25.2.length:Int))<|
 .ret ((l25.2.drop 0).take ((l25.1-0).toNat))
def Bn (p0:(Int×(Int×Unit))) (p1:Int) (p2:(List (List Int))):Option (List (List Int)):=(Rx p0 p1 p2).run some
-- more
theorem ayc{rows:List (List Int)}(hl:rows.length≤1000000)(hr:∀r∈rows,r.length≤1000000):aO (lJ rows) (0,[])=some rows:=by
 have key:=kN (xs:=rows) (step:=lJ rows) (fun (i:Nat) (acc:List (List Int))=>((i:Int),acc)) (fun _ acc r=>.inl (acc++[id r])) id (fun i acc=>acc.length=i) (by
  intro i acc r h hi
  have hlt:=(List.getElem?_eq_some_iff.1 h).1
  refine ⟨?_,fun a ha=>?_⟩
  ·unfold lJ
   dsimp only
   rw [Tre.aA,decide_eq_true (by omega),cond_true,Tre.run_ite,if_pos (by omega),Int.toNat_natCast,ah h,ah (aBt (by have:=hr r (List.mem_of_getElem? h);omega)),Tre.run_ite,if_pos (by unfold bM;omega),Tre.aF,aR (by omega)]
   rfl
  ·cases ha;simp [hi]) (by
  intro acc _
  unfold lJ
  dsimp only
  rw [Tre.aA,decide_eq_false (by omega),cond_false]
  rfl) rows 0 [] rfl (Nat.zero_le _) rfl
 rw [aeF,List.map_id] at key
 exact key
theorem ayd{c:Nat}{L:List (List Int)}(hc:∀r∈L,c<r.length)(hL:L.length≤1000000):∀(l:List (List Int))(i:Nat),L.drop i=l→i≤L.length →
  aO (jT (c:Int) L) (i:Int)=some (if ny (C8 c) i l<0 then (L.length:Int) else ny (C8 c) i l):=by
 intro l
 induction l with
 |nil=>
  intro i hl hi
  have:i=L.length:=by have:=List.drop_eq_nil_iff.1 hl;omega
  subst this
  refine fO ?_
  unfold jT
  exact dF
 |cons x l ih=>
  intro i hl hi
  have hx:L[i]?=some x:=by
   have:=congrArg (·[0]?) hl
   simpa using this
  have hlt:=(List.getElem?_eq_some_iff.1 hx).1
  have hcx:=hc x (List.mem_of_getElem? hx)
  obtain ⟨y,hy⟩:∃y,x[c]?=some y:=⟨_,List.getElem?_eq_getElem hcx⟩
  have hn:C8 c x = !decide (y=0):=by unfold C8;rw [hy]
  by_cases h0:y=0
  ·have e:ny (C8 c) i (x::l)=ny (C8 c) (i+1) l:=by simp [ny,hn,h0]
   rw [e,←ih (i+1) (by rw [←List.drop_drop,hl];rfl) (by omega)]
   refine mM ?_
   unfold jT
   rw [dX hx,Tre.run_ite,if_pos (by omega),Int.toNat_natCast,ah hy,Tre.aA,decide_eq_true h0,cond_true,Tre.aF,aR (by omega)]
  ·have e:ny (C8 c) i (x::l)=(i:Int):=by simp [ny,hn,h0]
   rw [e,if_neg (by omega)]
   refine fO ?_
   unfold jT
   rw [dX hx,Tre.run_ite,if_pos (by omega),Int.toNat_natCast,ah hy,Tre.aA,decide_eq_false h0,cond_false,Tre.aF]
theorem ave{f:TF3}(hf:aN f=true){n c a:Nat}{own:List Int}{L:List (List Int)}(hc:c<n)(hn:n≤1000000)(h:GR f n L)(hk:L[a]?=some own)(hL:L.length≤1000000) :
  aO (jU (a:Int) (c:Int) f) (0,L)=some (L.mapIdx (oz f c a own)):=by
 obtain ⟨hol,hof⟩:=D5 h hk
 have hak:=(List.getElem?_eq_some_iff.1 hk).1
 have key:=kN (xs:=L) (step:=jU (a:Int) (c:Int) f) (fun (i:Nat) (acc:List (List Int))=>((i:Int),acc)) (fun i acc r=>.inl (acc.set i (oz f c a own i r))) id (fun i acc=>acc.length=L.length∧acc.drop i=L.drop i∧acc[a]?=some own) (by
  intro i acc r hr hi
  have hlt:=(List.getElem?_eq_some_iff.1 hr).1
  obtain ⟨hr1,hr2⟩:=D5 h hr
  have hai:acc[i]?=some r:=by
   have:=congrArg (·[0]?) hi.2.1
   simpa [hr] using this
  obtain ⟨x,hx⟩:∃x,r[c]?=some x:=⟨_,List.getElem?_eq_getElem (by omega)⟩
  have hxf:=hr2 x (List.mem_of_getElem? hx)
  have hset:acc.set i r=acc:=by
   apply List.ext_getElem?
   intro j
   rw [List.getElem?_set]
   split
   ·rename_i h;subst h;simp [show i<acc.length by omega,←hai]
   ·rfl
  refine ⟨?_,fun b hb=>?_⟩
  ·unfold jU
   dsimp only
   rw [Tre.aA,decide_eq_true (by omega),cond_true,Tre.aA]
   by_cases h1:i=a
   ·rw [decide_eq_true (show (i:Int)=(a:Int) by omega),Bool.not_true,cond_false,Tre.aF,aR (by omega)]
    simp only [oz,hx,h1,decide_true,Bool.true_or,cond_true]
    rw [←h1,hset]
   ·rw [decide_eq_false (show ¬(i:Int)=(a:Int) by omega),Bool.not_false,cond_true,Tre.run_ite,if_pos (by omega),Int.toNat_natCast,ah hai,Tre.run_ite,if_pos (by omega),Int.toNat_natCast,ah hx,Tre.aA]
    by_cases h2:x=0
    ·rw [decide_eq_true h2,Bool.not_true,cond_false,Tre.aF,aR (by omega)]
     simp only [oz,hx,h2,decide_true,Bool.or_true,cond_true]
     rw [hset]
    ·rw [decide_eq_false h2,Bool.not_false,cond_true,Tre.run_ite,if_pos (by omega),ah hai,Tre.run_ite,if_pos (by omega),Int.toNat_natCast,ah hi.2.2,Tre.run_ite,if_pos (by omega),ah hai,Tre.run_ite,if_pos (by omega),ah hx,ah (adO hf (by omega) (by omega) hof hxf),Tre.run_ite,if_pos (by omega),ah hai,Tre.aF,aR (by omega)]
     simp only [oz,hx,h1,h2,decide_false,Bool.or_self,cond_false]
     have:ael f r own x=(r.zip own).map fun p=>jw .i64 p.1 (gJ f x p.2):=by
      unfold ael
      refine List.map_congr_left fun p hp=>?_
      have h1:=List.of_mem_zip (a:=p.1) (b:=p.2) hp
      rw [(CZ hf (hof _ h1.2) hxf).2]
     rw [this]
  ·cases hb
   refine ⟨by simp [hi.1],?_,?_⟩
   ·rw [List.drop_set_of_lt (by omega),←List.drop_drop,←List.drop_drop,hi.2.1]
   ·by_cases h1:i=a
    ·subst h1
     rw [List.getElem?_set_self (by omega)]
     rw [hr] at hk;cases hk
     simp only [oz,hx,decide_true,Bool.true_or,cond_true]
    ·rw [List.getElem?_set_ne h1];exact hi.2.2) (by
  rintro acc ⟨hl,_⟩
  unfold jU
  dsimp only
  rw [Tre.aA,decide_eq_false (by omega),cond_false]
  rfl) L 0 L rfl (Nat.zero_le _) ⟨rfl,rfl,hk⟩
 rw [ajV _ _ _ _ _ (by simp)] at key
 simpa using key
theorem awQ{f:TF3}(hf:aN f=true){x:Int}(hx:inF f x):∀{w:List Int},(∀y∈w,inF f y)→ael f (List.replicate w.length 0) w x=w.map fun y=>gJ f y x:=by
 intro w
 induction w with
 |nil=>intro _;rfl
 |cons y w ih=>
  intro h
  have:=ih (fun z hz=>h z (List.mem_cons_of_mem _ hz))
  unfold ael at this ⊢
  simp only [List.length_cons,List.replicate_succ,List.zip_cons_cons,List.map_cons]
  rw [this,qo hf (CZ hf (h y (List.mem_cons_self ..)) hx).1]
theorem ayf{f:TF3}(hf:aN f=true){n c:Nat}(hc:c<n)(hn:n≤1000000)(s:Nat×List (List Int))(h:GR f n s.2)(hL:s.2.length≤1000000)(ha:s.1≤s.2.length) :
  (jB (n:Int) f ((s.1:Int),(c:Int),s.2)).run some=some (.inl (((iV f c s).1:Int),((c+1:Nat):Int),(iV f c s).2)):=by
 obtain ⟨a,L⟩:=s
 dsimp only at h hL ha
 have hfd:=ayd (c:=c) (fun r hr=>by rw [(h r hr).1];exact hc) hL (L.drop a) a rfl ha
 unfold jB
 dsimp only
 rw [Tre.aA,decide_eq_true (by omega),cond_true,ah hfd,Tre.aA]
 unfold iV
 dsimp only
 rcases yK (C8 c) (L.drop a) a with ⟨h1,_⟩|⟨k,row,h1,h2,h3⟩
 ·rw [h1,if_pos (by decide),decide_eq_true rfl,show decide ((-1:Int)<0)=true from rfl,cond_true,cond_true,Tre.aF,aR (by omega)]
 ·have hak:L[a+k]?=some row:=by rw [←h1,List.getElem?_drop]
  have hlt:=(List.getElem?_eq_some_iff.1 hak).1
  obtain ⟨r0,hr0⟩:∃r0,L[a]?=some r0:=⟨_,List.getElem?_eq_getElem (by omega)⟩
  obtain ⟨hrl,hrf⟩:=D5 h hak
  obtain ⟨x,hx,hx0⟩:=apG h2
  have hxf:=hrf x (List.mem_of_getElem? hx)
  have hxi:=(uO hf hxf).1
  rw [h3,if_neg (by omega),decide_eq_false (by omega),decide_eq_false (by omega),cond_false,cond_false]
  rw [Tre.run_ite,if_pos (by omega),Int.toNat_natCast,ah hak,Tre.run_ite,if_pos (by omega),Int.toNat_natCast,ah hr0,Tre.run_ite,if_pos (by omega),ah hak,Tre.run_ite,if_pos ⟨rfl,by omega,rfl,by omega,by decide⟩,Tre.run_ite,if_pos (by omega),Int.toNat_natCast,ah hx,ah (awE hf hxf),Int.toNat_natCast]
  rw [ah (adO hf (by simp [hrl]) (by simp;omega) hrf hxi),←hrl,awQ hf hxi hrf]
  have hg:(L.set (a+k) r0)[a]?=some r0:=by
   rw [List.getElem?_set]
   split
   ·first|rfl|rw [if_pos (by omega)]
   ·exact hr0
  simp only [List.length_set]
  rw [Tre.run_ite,if_pos (by omega),ah hg]
  have hp:Ub f c (a+k) a L=(L.set (a+k) r0).set a (row.map fun y=>gJ f y (zO f x)):=by
   unfold Ub abx
   rw [hak,hr0]
   simp only [hx]
  have hpg:=aje (c:=c) (k:=a+k) (a:=a) hf h
  rw [hp] at hpg ⊢
  have hpa:((L.set (a+k) r0).set a (row.map fun y=>gJ f y (zO f x)))[a]?=some (row.map fun y=>gJ f y (zO f x)):=List.getElem?_set_self (by simp;omega)
  generalize hG:(L.set (a+k) r0).set a (row.map fun y=>gJ f y (zO f x))=G at hpg hpa
  rw [ah (ave hf hc hn hpg.1 hpa (by omega)),Tre.aF,aR (by omega),aR (by omega)]
  unfold Fv
  rw [hpa]
theorem aye{f:TF3}(hf:aN f=true){n:Nat}(hn:n≤1000000):∀(m c:Nat)(s:Nat×List (List Int)),c+m=n→GR f n s.2→s.2.length≤1000000→s.1≤s.2.length→aO (jB (n:Int) f) ((s.1:Int),(c:Int),s.2)=some (((gT f c m s).1:Int),(gT f c m s).2):=by
 intro m
 induction m with
 |zero=>
  intro c s hc h hL ha
  have hc:c=n:=hc
  subst hc
  refine fO ?_
  unfold jB
  exact dF
 |succ m ih=>
  intro c s hc h hL ha
  rw [mM (ayf hf (by omega) hn s h hL ha)]
  have h1:=Ip (c:=c) hf h ha
  exact ih (c+1) _ (by omega) h1.1 (by omega) (by omega)
theorem aBB{f:TF3}(hf:aN f=true){n:Nat}(hn:n≤1000000){L:List (List Int)}(h:GR f n L)(hL:L.length≤1000000):Bn f (n:Int) L=some (D9 f n L):=by
 have hl:=aye hf hn n 0 (0,L) (by omega) h hL (Nat.zero_le _)
 have hk:=P5 hf n 0 (0,L) h (Nat.zero_le _)
 have hl:aO (jB (n:Int) f) (0,0,L)=_:=hl
 unfold Bn Rx
 rw [ah (ayc hL (fun r hr=>by rw [(h r hr).1];exact hn)),ah hl,Tre.run_ite,if_pos (by have:=hk.2.1;have:=hk.2.2;dsimp only at *;omega),Tre.aF]
 unfold D9
 simp
def iB:Env:=⟨tau,[(108,ag0),(117,JB),(38,ahn)],[(2,[((9,0),[],true)])]⟩
def kI:Code:=(Tryz.f88.body).getD .skip
def JV (dZ:Bool) (aV:Int) (bA:(List (List Int))) (dY:(Int×(Int×Unit))):(Int×(List (List Int)))→St:=fun x=>bP [(1,(.i aV)),(2,(.imm dZ (.sl .il) bA)),(3,(.ptr (5,0) [])),(7,(.ref (9,0) [])),(8,(.i x.1))] [((5,0),some ⟨true,aL,.own,dY⟩),((9,0),some ⟨false,(.sl .il),(.sl (.imm true)),x.2⟩)]
def GL (_:Bool) (aV:Int) (_:(List (List Int))) (dY:(Int×(Int×Unit))):(List (List Int))→Ex×St:=fun x=>(.exit 0,bP [(1,(.i aV)),(3,(.ptr (5,0) [])),(7,(.ref (9,0) []))] [((5,0),some ⟨true,aL,.own,dY⟩),((9,0),some ⟨false,(.sl .il),(.sl (.imm true)),x⟩)])
def adT (s:St):Tre (Ex×St):=
 ay true .n (s.tmps 1) fun d2=>
 aZ (.sl .il) (s.tmps 2) fun z5 d4=>
 eF (5,0) [] (s.tmps 3)<|
 dI (9,0) [] (s.tmps 7)<|
 ay true .n (s.tmps 8) fun d9=>
 bg true aL (s.roots (5,0)) fun m11 d12=>
 asM .own m11<|
 bg false (.sl .il) (s.roots (9,0)) fun m14 d15=>
 asM (.sl (.imm true)) m14<|
 .mat (aO (lJ d4) (d9,d15)) fun x=>.ret (GL z5 d2 d4 d12 x)
def uo:bq:=⟨([1,2,3,7,8],[(5,0),(9,0)]),([1,3,7],[(5,0),(9,0)]),adT⟩
def GJ (iY:Int) (P6:Int) (jX:Int) (P7:(Int×(Int×Unit))) (xL:(List (List Int))):Int→St:=fun x=>bP [(1,(.i iY)),(3,(.ptr (5,0) [])),(7,(.ref (9,0) [])),(9,(.i P6)),(10,(.i jX)),(11,(.i x))] [((5,0),some ⟨true,aL,.own,P7⟩),((9,0),some ⟨false,(.sl .il),(.sl (.imm true)),xL⟩)]
def EZ (iY:Int) (P6:Int) (jX:Int) (P7:(Int×(Int×Unit))) (xL:(List (List Int))):Int→Ex×St:=fun x=>(.exit 4,bP [(1,(.i iY)),(3,(.ptr (5,0) [])),(7,(.ref (9,0) [])),(9,(.i P6)),(10,(.i jX)),(11,(.i x))] [((5,0),some ⟨true,aL,.own,P7⟩),((9,0),some ⟨false,(.sl .il),(.sl (.imm true)),xL⟩)])
def abl (s:St):Tre (Ex×St):=
 ay true .n (s.tmps 1) fun d2=>
 eF (5,0) [] (s.tmps 3)<|
 dI (9,0) [] (s.tmps 7)<|
 ay true .n (s.tmps 9) fun d6=>
 ay true .n (s.tmps 10) fun d8=>
 ay true .n (s.tmps 11) fun d10=>
 bg true aL (s.roots (5,0)) fun m12 d13=>
 asM .own m12<|
 bg false (.sl .il) (s.roots (9,0)) fun m15 d16=>
 asM (.sl (.imm true)) m15<|
 .mat (aO (jT d8 d16) d10) fun x=>.ret (EZ d2 d6 d8 d13 d16 x)
def rz:bq:=⟨([1,3,7,9,10,11],[(5,0),(9,0)]),([1,3,7,9,10,11],[(5,0),(9,0)]),abl⟩
def GK (Qf:Int) (vE:Int) (qH:Int) (Du:(Int×(Int×Unit))):(Int×(List (List Int)))→St:=fun x=>bP [(1,(.i Qf)),(3,(.ptr (5,0) [])),(7,(.ref (9,0) [])),(9,(.i vE)),(10,(.i qH)),(13,(.i x.1))] [((5,0),some ⟨true,aL,.own,Du⟩),((9,0),some ⟨false,(.sl .il),(.sl (.imm true)),x.2⟩)]
def E5 (Qf:Int) (vE:Int) (qH:Int) (Du:(Int×(Int×Unit))):(List (List Int))→Ex×St:=fun x=>(.exit 6,bP [(1,(.i Qf)),(3,(.ptr (5,0) [])),(7,(.ref (9,0) [])),(9,(.i vE)),(10,(.i qH))] [((5,0),some ⟨true,aL,.own,Du⟩),((9,0),some ⟨false,(.sl .il),(.sl (.imm true)),x⟩)])
def abm (s:St):Tre (Ex×St):=
 ay true .n (s.tmps 1) fun d2=>
 eF (5,0) [] (s.tmps 3)<|
 dI (9,0) [] (s.tmps 7)<|
 ay true .n (s.tmps 9) fun d6=>
 ay true .n (s.tmps 10) fun d8=>
 ay true .n (s.tmps 13) fun d10=>
 bg true aL (s.roots (5,0)) fun m12 d13=>
 asM .own m12<|
 bg false (.sl .il) (s.roots (9,0)) fun m15 d16=>
 asM (.sl (.imm true)) m15<|
 .mat (aO (jU d6 d8 d13) (d10,d16)) fun x=>.ret (E5 d2 d6 d8 d13 x)
def rA:bq:=⟨([1,3,7,9,10,13],[(5,0),(9,0)]),([1,3,7,9,10],[(5,0),(9,0)]),abm⟩
def JW (dH:Int) (dV:(Int×(Int×Unit))):(Int×Int×(List (List Int)))→St:=fun x=>bP [(1,(.i dH)),(3,(.ptr (5,0) [])),(7,(.ref (9,0) [])),(9,(.i x.1)),(10,(.i x.2.1))] [((5,0),some ⟨true,aL,.own,dV⟩),((9,0),some ⟨false,(.sl .il),(.sl (.imm true)),x.2.2⟩)]
def GN (_:Int) (_:(Int×(Int×Unit))):(Int×(List (List Int)))→Ex×St:=fun x=>(.exit 2,bP [(7,(.ref (9,0) [])),(9,(.i x.1))] [((9,0),some ⟨false,(.sl .il),(.sl (.imm true)),x.2⟩)])
def adU (s:St):Tre (Ex×St):=
 ay true .n (s.tmps 1) fun d2=>
 eF (5,0) [] (s.tmps 3)<|
 dI (9,0) [] (s.tmps 7)<|
 ay true .n (s.tmps 9) fun d6=>
 ay true .n (s.tmps 10) fun d8=>
 bg true aL (s.roots (5,0)) fun m10 d11=>
 asM .own m10<|
 bg false (.sl .il) (s.roots (9,0)) fun m13 d14=>
 asM (.sl (.imm true)) m13<|
 .mat (aO (jB d2 d11) (d6,d8,d14)) fun x=>.ret (GN d2 d11 x)
def uq:bq:=⟨([1,3,7,9,10],[(5,0),(9,0)]),([7,9],[(9,0)]),adU⟩
def ji:List (Nat×bq):=[(3,uo),(11,rz),(18,rA),(8,uq)]
theorem Xf:∀(dZ:Bool)(aV:Int)(bA:(List (List Int)))(dY:(Int×(Int×Unit)))(x:(Int×(List (List Int))))(c:St→Option (Ex×St)),den iB ji (aT kI 0) (JV dZ aV bA dY x) (bR uo.kp uo.kx c)=(lJ bA x).run (bS (JV dZ aV bA dY) (GL dZ aV bA dY) c):=fun _ _ _ _ _ _=>by
 kernel_rfl
theorem abn:bQ iB ji (aT kI 0) uo:=bX fun _ _ _=>aJ fun _=>bY fun _ _=>jD<|fI<|aJ fun _=>bV fun _ _=>tM<|bV fun _ _=>tM<|fun h _ e13 _ e10 e8 e7 e6 e3 e1=>bO (Xf _ _ _ _) h (by subst_vars;exact aP rfl rfl ⟨e1,e3,e6,e7,e8,trivial⟩ ⟨e10,e13,trivial⟩)
theorem Uh:∀(iY P6 jX:Int)(P7:(Int×(Int×Unit)))(xL:(List (List Int)))(x:Int)(c:St→Option (Ex×St)),den iB ji (aT kI 2) (GJ iY P6 jX P7 xL x) (bR rz.kp rz.kx c)=(jT jX xL x).run (bS (GJ iY P6 jX P7 xL) (EZ iY P6 jX P7 xL) c):=fun _ _ _ _ _ _ _=>by
 kernel_rfl
theorem YC:bQ iB ji (aT kI 2) rz:=bX fun _ _ _=>aJ fun _=>jD<|fI<|aJ fun _=>aJ fun _=>aJ fun _=>bV fun _ _=>tM<|bV fun _ _=>tM<|fun h _ e14 _ e11 e9 e7 e5 e4 e3 e1=>bO (Uh _ _ _ _ _) h (by subst_vars;exact aP rfl rfl ⟨e1,e3,e4,e5,e7,e9,trivial⟩ ⟨e11,e14,trivial⟩)
theorem Ui:∀(Qf vE qH:Int)(Du:(Int×(Int×Unit)))(x:(Int×(List (List Int))))(c:St→Option (Ex×St)),den iB ji (aT kI 3) (GK Qf vE qH Du x) (bR rA.kp rA.kx c)=(jU vE qH Du x).run (bS (GK Qf vE qH Du) (E5 Qf vE qH Du) c):=fun _ _ _ _ _ _=>by
 kernel_rfl
theorem YD:bQ iB ji (aT kI 3) rA:=bX fun _ _ _=>aJ fun _=>jD<|fI<|aJ fun _=>aJ fun _=>aJ fun _=>bV fun _ _=>tM<|bV fun _ _=>tM<|fun h _ e14 _ e11 e9 e7 e5 e4 e3 e1=>bO (Ui _ _ _ _) h (by subst_vars;exact aP rfl rfl ⟨e1,e3,e4,e5,e7,e9,trivial⟩ ⟨e11,e14,trivial⟩)
theorem Xg:∀(dH:Int)(dV:(Int×(Int×Unit)))(x:(Int×Int×(List (List Int))))(c:St→Option (Ex×St)),den iB ji (aT kI 1) (JW dH dV x) (bR uq.kp uq.kx c)=(jB dH dV x).run (bS (JW dH dV) (GN dH dV) c):=fun _ _ _ _=>by
 kernel_rfl
theorem abo:bQ iB ji (aT kI 1) uq:=bX fun _ _ _=>aJ fun _=>jD<|fI<|aJ fun _=>aJ fun _=>bV fun _ _=>tM<|bV fun _ _=>tM<|fun h _ e12 _ e9 e7 e5 e4 e3 e1=>bO (Xg _ _) h (by subst_vars;exact aP rfl rfl ⟨e1,e3,e4,e5,e7,trivial⟩ ⟨e9,e12,trivial⟩)
def alY:FnI:=fnI Tryz.f88 ji
def Pb (_:Bool) (_:(Int×(Int×Unit))) (_:Int) (_:(List (List Int))):(List (List Int))→au:=fun r=>⟨(.ref (1,0) []),[],[⟨false,(.sl .il),(.sl (.imm true)),r⟩]⟩
theorem aiP:∀(zp0:Bool)(p0:(Int×(Int×Unit)))(p1:Int)(p2:(List (List Int))),bJ iB alY ⟨[(.imm true aL p0),(.i p1),(.imm zp0 (.sl .il) p2)],[]⟩=(Rx p0 p1 p2).run fun r=>some (Pb zp0 p0 p1 p2 r):=fun _ _ _ _=>by kernel_rfl
def alX (av:List AV) (rs:List Root):Tre au:=
 aC av fun a0_ av0=>
 aC av0 fun a1_ av1=>
 aC av1 fun a2_ av2=>
 aM av2<|
 aM rs<|
 ay true aL a0_ fun d1=>
 ay true .n a1_ fun d2=>
 aZ (.sl .il) a2_ fun z4 d3=>
 .mat (Bn d1 d2 d3) fun r=>.ret (Pb z4 d1 d2 d3 r)
def Xe:Ctr:=dD [] alX
theorem aiQ:Contract Tryz.prog .none 88 Xe:=aD (V:=iB) aW (ak apT aeD (ak SE ay4 (ak aqg aCc aH))) Tryz.func88 (bF (n:=4) fun k hk=>by
 match k,hk with
 |0,_=>exact bH (id:=3) abn
 |1,_=>exact bH (id:=8) abo
 |2,_=>exact bH (id:=11) YC
 |3,_=>exact bH (id:=18) YD) fun _ _ _=>aK fun _ _=>aK fun _ _=>aK fun _ _=>bf<|bf<|aJ fun _=>aJ fun _=>bY fun _ _=>fun h=>by intros;subst_vars;exact bn (aiP _ _ _ _) h
def zA (aU:List Int) (bG:Int):Int→Tre (Int ⊕ (Bool ⊕ Unit)):=fun s2=>
 .cond (decide (s2<(aU.length:Int)))
  (.ite (0≤s2∧s2<(aU.length:Int))<|
  .mat (aU[s2.toNat]?) fun x1=>
  .cond (decide (x1=bG))
   (.ret (.inr (.inl true)))
   (.ret (.inl (aI .i64 (s2+1)))))
  (.ret (.inr (.inr ())))
def ali (p0:List Int) (p1:Int):Tre Bool:=
 .mat (aO (zA p0 p1) 0) fun l2=>
 .alt l2
  (fun a3=>
   .ret a3)
  (fun _=>
   .ret false)
def Rh (p0:List Int) (p1:Int):Option Bool:=(ali p0 p1).run some
def Ri:Env:=⟨tau,[],[]⟩
def alj:Code:=(Tryz.f89.body).getD .skip
def Jw (eH:Bool) (aU:List Int) (bG:Int):Int→St:=fun x=>bP [(0,(.imm eH .il aU)),(1,(.i bG)),(5,(.i x))] []
def xX (_:Bool) (_:List Int) (_:Int):(Bool ⊕ Unit)→Ex×St
 |.inl x=>(.ret,bP [(4,(.imm true .bool x))] [])
 |.inr _=>(.exit 0,bP [(4,.dead)] [])
def Zf (s:St):Tre (Ex×St):=
 aZ .il (s.tmps 0) fun z3 d2=>
 ay true .n (s.tmps 1) fun d5=>
 ay true .n (s.tmps 5) fun d7=>
 .mat (aO (zA d2 d5) d7) fun x=>.alt x (fun a0=>.ret (xX z3 d2 d5 (.inl a0))) (fun b0=>.ret (xX z3 d2 d5 (.inr b0)))
def xG:bq:=⟨([0,1,5],[]),([4],[]),Zf⟩
def aaV:List (Nat×bq):=[(2,xG)]
theorem afH:∀(eH:Bool)(aU:List Int)(bG x:Int)(c:St→Option (Ex×St)),den Ri aaV (aT alj 0) (Jw eH aU bG x) (bR xG.kp xG.kx c)=(zA aU bG x).run (bS (Jw eH aU bG) (xX eH aU bG) c):=fun _ _ _ _ _=>by
 kernel_rfl
theorem alm:bQ Ri aaV (aT alj 0) xG:=fK fun s e s' h=>by
 generalize hs:restrict xG.kp s=s1 at h
 have h:(Zf s1).run some=some (e,s'):=h
 obtain ⟨z3,d2,e1,h_0⟩:=fA h
 obtain ⟨d5,e4,h_1⟩:=cu h_0
 obtain ⟨d7,e6,h_2⟩:=cu h_1
 obtain ⟨y,hy,hz⟩:=gN h_2
 refine ⟨_,_,Jw z3 d2 d5,xX z3 d2 d5,zA d2 d5,d7,y,?_,hy,?_,afH z3 d2 d5⟩
 ·subst hs;exact aP (T:=[(0,(.imm z3 .il d2)),(1,(.i d5)),(5,(.i d7))]) (U:=[]) rfl rfl ⟨e1,e4,e6,trivial⟩ trivial
 ·rcases y with x|x<;>exact Option.some.inj hz
def auY:FnI:=fnI Tryz.f89 aaV
def adk (_:Bool) (_:List Int) (_:Int):Bool→au:=fun r=>⟨(.imm true .bool r),[],[]⟩
theorem asI:∀(zp0:Bool)(p0:List Int)(p1:Int),bJ Ri auY ⟨[(.imm zp0 .il p0),(.i p1)],[]⟩=(ali p0 p1).run fun r=>some (adk zp0 p0 p1 r):=fun _ _ _=>by kernel_rfl
def auX (av:List AV) (rs:List Root):Tre au:=
 aC av fun a0_ av0=>
 aC av0 fun a1_ av1=>
 aM av1<|
 aM rs<|
 aZ .il a0_ fun z2 d1=>
 ay true .n a1_ fun d3=>
 .mat (Rh d1 d3) fun r=>.ret (adk z2 d1 d3 r)
def alk:Ctr:=dD [] auX
theorem asJ:Contract Tryz.prog .none 89 alk:=aD (V:=Ri) aW aH Tryz.func89 (bF (n:=1) fun k hk=>by
 match k,hk with
 |0,_=>exact bH (id:=2) alm) fun _ _ _=>aK fun _ _=>aK fun _ _=>bf<|bf<|bY fun _ _=>aJ fun _=>fun h=>by intros;subst_vars;exact bn (asI _ _ _) h
def sP (p0:List Int) (p1:Int):Tre Bool:=
 .ite (0≤p1∧p1<(p0.length:Int))<|
 .mat (p0[p1.toNat]?) fun x1=>
 .ret (!decide (x1=0))
def kS (p0:List Int) (p1:Int):Option Bool:=(sP p0 p1).run some
-- more
theorem aDS{r:List Int}{c:Nat}(h:c<r.length):kS r (c:Int)=some (C8 c r):=by
 unfold kS sP
 have hx:=List.getElem?_eq_getElem h
 rw [Tre.run_ite,if_pos ⟨by omega,by omega⟩,Int.toNat_natCast,ah hx,Tre.aF]
 unfold C8
 rw [hx]
def y5:Env:=⟨tau,[],[]⟩
def NZ:FnI:=fnI Tryz.f123 []
def wo (_:Bool) (_:List Int) (p1:Int):Bool→au:=fun r=>⟨(.imm true .bool r),[⟨true,.n,.own,p1⟩],[]⟩
theorem MN:∀(zp0:Bool)(p0:List Int)(p1:Int),bJ y5 NZ ⟨[(.imm zp0 .il p0),(.ptr (0,0) [])],[⟨true,.n,.own,p1⟩]⟩=(sP p0 p1).run fun r=>some (wo zp0 p0 p1 r):=fun _ _ _=>by kernel_rfl
def NY (av:List AV) (rs:List Root):Tre au:=
 aC av fun a0_ av0=>
 aC av0 fun a1_ av1=>
 aM av1<|
 aC rs fun r0_ rs0=>
 aM rs0<|
 aZ .il a0_ fun z2 d1=>
 eF (0,0) [] a1_<|
 wV true .n r0_ fun m3 d4=>
 asM .own m3<|
 .mat (kS d1 d4) fun r=>.ret (wo z2 d1 d4 r)
def y7:Ctr:=dD [] NY
theorem MO:Contract Tryz.prog .none 123 y7:=aD (V:=y5) aW aH Tryz.func123 bI fun _ _ _=>aK fun _ _=>aK fun _ _=>bf<|aK fun _ _=>bf<|bY fun _ _=>jD<|tRt fun _ _=>tM<|fun h=>by intros;subst_vars;exact bn (MN _ _ _) h
def afr (aU:(List (List Int))) (bG:Int) (bK:Int):Int→Tre (Int ⊕ (Int ⊕ Unit)):=fun s2=>
 .cond (decide (s2<bG))
  (.ite (0≤s2∧s2<(aU.length:Int))<|
  .mat (aU[s2.toNat]?) fun x1=>
  .mat (kS x1 bK) fun r2=>
  .cond r2
   (.ret (.inr (.inl s2)))
   (.ret (.inl (aI .i64 (s2+1)))))
  (.ret (.inr (.inr ())))
def nm4 (p0:(List (List Int))) (p1:Int):Tre Int:=
 .mat (aO (afr p0 (p0.length:Int) p1) 0) fun l3=>
 .alt l3
  (fun a4=>
   .ret a4)
  (fun _=>
   .ret (-1))
def awg (p0:(List (List Int))) (p1:Int):Option Int:=(nm4 p0 p1).run some
-- more
theorem aBw{xs:List (List Int)}{c:Nat}(hc:∀r∈xs,c<r.length)(hl:xs.length≤1048576):awg xs (c:Int)=some (ny (C8 c) 0 xs):=by
 unfold awg nm4
 rw [Tre.kg,vC (xs:=xs) (fun i x=>cond (C8 c x) (some (.inl (i:Int))) none) (.inr ())]
 ·rw [Option.bind_some,←NI (p:=fun x=>C8 c x)]
  generalize Ga _ _ _ _=r
  cases r<;>rfl
 ·intro i x hx
  have hi:i<xs.length:=(List.getElem?_eq_some_iff.1 hx).1
  unfold afr
  rw [dX hx,ah (aDS (hc x (List.mem_of_getElem? hx))),Tre.aA]
  cases C8 c x
  ·simp only [cond_false,Tre.aF,aR (show i<4611686018427387904 by omega)]
  ·rfl
 ·unfold afr
  exact dF
def awh:Env:=⟨tau,[(123,y7)],[]⟩
def aCC:Code:=(Tryz.f122.body).getD .skip
def afs (eH:Bool) (aU:(List (List Int))) (bG:Int) (bK:Int):Int→St:=fun x=>bP [(0,(.imm eH (.sl .il) aU)),(1,(.fn 123 [(0,0)])),(7,(.i bG)),(8,(.i x))] [((0,0),some ⟨true,.n,.own,bK⟩)]
def Q7 (_:Bool) (_:(List (List Int))) (_:Int) (bK:Int):(Int ⊕ Unit)→Ex×St
 |.inl x=>(.ret,bP [(4,(.i x))] [((0,0),some ⟨true,.n,.own,bK⟩)])
 |.inr _=>(.exit 0,bP [(4,.dead)] [((0,0),some ⟨true,.n,.own,bK⟩)])
def asl (s:St):Tre (Ex×St):=
 aZ (.sl .il) (s.tmps 0) fun z3 d2=>
 Tk 123 [(0,0)] (s.tmps 1)<|
 ay true .n (s.tmps 7) fun d6=>
 ay true .n (s.tmps 8) fun d8=>
 bg true .n (s.roots (0,0)) fun m10 d11=>
 asM .own m10<|
 .mat (aO (afr d2 d6 d11) d8) fun x=>.alt x (fun a0=>.ret (Q7 z3 d2 d6 d11 (.inl a0))) (fun b0=>.ret (Q7 z3 d2 d6 d11 (.inr b0)))
def V3:bq:=⟨([0,1,7,8],[(0,0)]),([4],[(0,0)]),asl⟩
def azN:List (Nat×bq):=[(2,V3)]
theorem asn:∀(eH:Bool)(aU:(List (List Int)))(bG bK x:Int)(c:St→Option (Ex×St)),den awh azN (aT aCC 0) (afs eH aU bG bK x) (bR V3.kp V3.kx c)=(afr aU bG bK x).run (bS (afs eH aU bG bK) (Q7 eH aU bG bK) c):=fun _ _ _ _ _ _=>by
 kernel_rfl
theorem axL:bQ awh azN (aT aCC 0) V3:=fK fun s e s' h=>by
 generalize hs:restrict V3.kp s=s1 at h
 have h:(asl s1).run some=some (e,s'):=h
 obtain ⟨z3,d2,e1,h_0⟩:=fA h
 obtain ⟨e4,h_1⟩:=Cq h_0
 obtain ⟨d6,e5,h_2⟩:=cu h_1
 obtain ⟨d8,e7,h_3⟩:=cu h_2
 obtain ⟨m10,d11,e9,h_4⟩:=fQ h_3
 obtain ⟨rfl,h_5⟩:=rO h_4
 obtain ⟨y,hy,hz⟩:=gN h_5
 refine ⟨_,_,afs z3 d2 d6 d11,Q7 z3 d2 d6 d11,afr d2 d6 d11,d8,y,?_,hy,?_,asn z3 d2 d6 d11⟩
 ·subst hs;exact aP (T:=[(0,(.imm z3 (.sl .il) d2)),(1,(.fn 123 [(0,0)])),(7,(.i d6)),(8,(.i d8))]) (U:=[((0,0),some ⟨true,.n,.own,d11⟩)]) rfl rfl ⟨e1,e4,e5,e7,trivial⟩ ⟨e9,trivial⟩
 ·rcases y with x|x<;>exact Option.some.inj hz
def aFa:FnI:=fnI Tryz.f122 azN
def awi (_:Bool) (_:(List (List Int))) (p1:Int):Int→au:=fun r=>⟨(.i r),[⟨true,.n,.own,p1⟩],[]⟩
theorem aDH:∀(zp0:Bool)(p0:(List (List Int)))(p1:Int),bJ awh aFa ⟨[(.imm zp0 (.sl .il) p0),(.fn 123 [(0,0)])],[⟨true,.n,.own,p1⟩]⟩=(nm4 p0 p1).run fun r=>some (awi zp0 p0 p1 r):=fun _ _ _=>by kernel_rfl
def aE9 (av:List AV) (rs:List Root):Tre au:=
 aC av fun a0_ av0=>
 aC av0 fun a1_ av1=>
 aM av1<|
 aC rs fun r0_ rs0=>
 aM rs0<|
 aZ (.sl .il) a0_ fun z2 d1=>
 Tk 123 [(0,0)] a1_<|
 wV true .n r0_ fun m3 d4=>
 asM .own m3<|
 .mat (awg d1 d4) fun r=>.ret (awi z2 d1 d4 r)
def aCD:Ctr:=dD [] aE9
theorem aDI:Contract Tryz.prog .none 122 aCD:=aD (V:=awh) aW (ak MO aDb aH) Tryz.func122 (bF (n:=1) fun k hk=>by
 match k,hk with
 |0,_=>exact bH (id:=2) axL) fun _ _ _=>aK fun _ _=>aK fun _ _=>bf<|aK fun _ _=>bf<|bY fun _ _=>tFn<|tRt fun _ _=>tM<|fun h=>by intros;subst_vars;exact bn (aDH _ _ _) h
def MK (p0:(Int×(Int×Unit))):Tre Int:=
 .ite (0≤p0.1)<|
 .ret (Ua .i64 1 p0.1)
def rP (p0:(Int×(Int×Unit))):Option Int:=(MK p0).run some
def RX:Env:=⟨tau,[],[]⟩
def ahK:FnI:=fnI Tryz.f95 []
def K3 (_:(Int×(Int×Unit))):Int→au:=fun r=>⟨(.i r),[],[]⟩
theorem aeK:∀(p0:(Int×(Int×Unit))),bJ RX ahK ⟨[(.imm true aL p0)],[]⟩=(MK p0).run fun r=>some (K3 p0 r):=fun _=>by kernel_rfl
def ahJ (av:List AV) (rs:List Root):Tre au:=
 aC av fun a0_ av0=>
 aM av0<|
 aM rs<|
 ay true aL a0_ fun d1=>
 .mat (rP d1) fun r=>.ret (K3 d1 r)
def Fx:Ctr:=dD [] ahJ
theorem NQ:Contract Tryz.prog .none 95 Fx:=aD (V:=RX) aW aH Tryz.func95 bI fun _ _ _=>aK fun _ _=>bf<|bf<|aJ fun _=>fun h=>by intros;subst_vars;exact bn (aeK _) h
def CB (bK:(Int×(Int×Unit))):(Int×Int×Int)→Tre ((Int×Int×Int) ⊕ Int):=fun s2=>
 .cond (decide (s2.2.1>0))
  (.cond (decide (ah7 .i64 s2.2.1 1=1))
   (.mat (cO bK s2.2.2 s2.1) fun r1=>
   .mat (cO bK s2.1 s2.1) fun r2=>
   .ret (.inl (r2,aaA .i64 s2.2.1 1,r1)))
   (.mat (cO bK s2.1 s2.1) fun r3=>
   .ret (.inl (r3,aaA .i64 s2.2.1 1,s2.2.2))))
  (.ret (.inr s2.2.2))
def YS (p0:(Int×(Int×Unit))) (p1:Int) (p2:Int):Tre Int:=
 .mat (aO (CB p0) (p1,p2,1)) fun l4=>
 .ret l4
def R4 (p0:(Int×(Int×Unit))) (p1:Int) (p2:Int):Option Int:=(YS p0 p1 p2).run some
def xP:Env:=⟨tau,[(75,oC)],[]⟩
def R5:Code:=(Tryz.f113.body).getD .skip
def Gd (bK:(Int×(Int×Unit))):(Int×Int×Int)→St:=fun x=>bP [(1,(.i x.1)),(2,(.i x.2.1)),(3,(.ptr (5,0) [])),(7,(.i x.2.2))] [((5,0),some ⟨true,aL,.own,bK⟩)]
def Ef (_:(Int×(Int×Unit))):Int→Ex×St:=fun x=>(.exit 0,bP [(7,(.i x))] [])
def aae (s:St):Tre (Ex×St):=
 ay true .n (s.tmps 1) fun d2=>
 ay true .n (s.tmps 2) fun d4=>
 eF (5,0) [] (s.tmps 3)<|
 ay true .n (s.tmps 7) fun d7=>
 bg true aL (s.roots (5,0)) fun m9 d10=>
 asM .own m9<|
 .mat (aO (CB d10) (d2,d4,d7)) fun x=>.ret (Ef d10 x)
def qI:bq:=⟨([1,2,3,7],[(5,0)]),([7],[]),aae⟩
def Fz:List (Nat×bq):=[(2,qI)]
theorem Tz:∀(bK:(Int×(Int×Unit)))(x:(Int×Int×Int))(c:St→Option (Ex×St)),den xP Fz (aT R5 0) (Gd bK x) (bR qI.kp qI.kx c)=(CB bK x).run (bS (Gd bK) (Ef bK) c):=fun _ _ _=>by
 kernel_rfl
theorem XY:bQ xP Fz (aT R5 0) qI:=bX fun _ _ _=>aJ fun _=>aJ fun _=>jD<|aJ fun _=>bV fun _ _=>tM<|fun h _ e8 e6 e5 e3 e1=>bO (Tz _) h (by subst_vars;exact aP rfl rfl ⟨e1,e3,e5,e6,trivial⟩ ⟨e8,trivial⟩)
def ahM:FnI:=fnI Tryz.f113 Fz
def K8 (_:(Int×(Int×Unit))) (_:Int) (_:Int):Int→au:=fun r=>⟨(.i r),[],[]⟩
theorem aeQ:∀(p0:(Int×(Int×Unit)))(p1 p2:Int),bJ xP ahM ⟨[(.imm true aL p0),(.i p1),(.i p2)],[]⟩=(YS p0 p1 p2).run fun r=>some (K8 p0 p1 p2 r):=fun _ _ _=>by kernel_rfl
def ahL (av:List AV) (rs:List Root):Tre au:=
 aC av fun a0_ av0=>
 aC av0 fun a1_ av1=>
 aC av1 fun a2_ av2=>
 aM av2<|
 aM rs<|
 ay true aL a0_ fun d1=>
 ay true .n a1_ fun d2=>
 ay true .n a2_ fun d3=>
 .mat (R4 d1 d2 d3) fun r=>.ret (K8 d1 d2 d3 r)
def R6:Ctr:=dD [] ahL
theorem aeR:Contract Tryz.prog .none 113 R6:=aD (V:=xP) aW (ak pK anQ aH) Tryz.func113 (bF (n:=1) fun k hk=>by
 match k,hk with
 |0,_=>exact bH (id:=2) XY) fun _ _ _=>aK fun _ _=>aK fun _ _=>aK fun _ _=>bf<|bf<|aJ fun _=>aJ fun _=>aJ fun _=>fun h=>by intros;subst_vars;exact bn (aeQ _ _ _) h
def RZ (p0:(Int×(Int×Unit))) (p1:Int):Tre Int:=
 .mat (rP p0) fun r1=>
 .mat (R4 p0 p1 (aI .i64 (r1-2))) fun r2=>
 .ret r2
def dn (p0:(Int×(Int×Unit))) (p1:Int):Option Int:=(RZ p0 p1).run some
-- more
set_option maxRecDepth 100000
theorem aDs:zS dn sU 1 2=true:=by kernel_rfl
theorem aDt:zS dn sU 1 3=true:=by kernel_rfl
theorem aDu:zS dn sU 2 7=true:=by kernel_rfl
theorem aAY:zS dn sU 3 11=true:=by kernel_rfl
theorem aAZ:zS dn sU 3 13=true:=by kernel_rfl
theorem aA0:zS dn sU 4 19=true:=by kernel_rfl
theorem aA1:zS dn sU 4 25=true:=by kernel_rfl
theorem aA2:zS dn sU 4 31=true:=by kernel_rfl
theorem aA3:zS dn sU 5 37=true:=by kernel_rfl
theorem aA4:zS dn sU 5 41=true:=by kernel_rfl
theorem aA5:zS dn sU 5 47=true:=by kernel_rfl
theorem aA6:zS dn sU 5 55=true:=by kernel_rfl
theorem aA7:zS dn sU 5 59=true:=by kernel_rfl
theorem aA8:zS dn sU 5 61=true:=by kernel_rfl
theorem avP{f:TF3}(hf:aN f=true){a:Int}(ha:inF f a):dn f a=some (zO f a):=by
 refine azY (fun q hq=>?_) hf ha
 simp only [iW,List.mem_cons,List.not_mem_nil,or_false] at hq
 rcases hq with rfl|rfl|rfl|rfl|rfl|rfl|rfl|rfl|rfl|rfl|rfl|rfl|rfl|rfl
 ·exact aDs
 ·exact aDt
 ·exact aDu
 ·exact aAY
 ·exact aAZ
 ·exact aA0
 ·exact aA1
 ·exact aA2
 ·exact aA3
 ·exact aA4
 ·exact aA5
 ·exact aA6
 ·exact aA7
 ·exact aA8
def K5:Env:=⟨tau,[(95,Fx),(113,R6)],[]⟩
def abW:FnI:=fnI Tryz.f76 []
def Gc (_:(Int×(Int×Unit))) (_:Int):Int→au:=fun r=>⟨(.i r),[],[]⟩
theorem Z9:∀(p0:(Int×(Int×Unit)))(p1:Int),bJ K5 abW ⟨[(.imm true aL p0),(.i p1)],[]⟩=(RZ p0 p1).run fun r=>some (Gc p0 p1 r):=fun _ _=>by kernel_rfl
def abV (av:List AV) (rs:List Root):Tre au:=
 aC av fun a0_ av0=>
 aC av0 fun a1_ av1=>
 aM av1<|
 aM rs<|
 ay true aL a0_ fun d1=>
 ay true .n a1_ fun d2=>
 .mat (dn d1 d2) fun r=>.ret (Gc d1 d2 r)
def Ac:Ctr:=dD [] abV
theorem IQ:Contract Tryz.prog .none 76 Ac:=aD (V:=K5) aW (ak NQ aCr (ak aeR aC4 aH)) Tryz.func76 bI fun _ _ _=>aK fun _ _=>aK fun _ _=>bf<|bf<|aJ fun _=>aJ fun _=>fun h=>by intros;subst_vars;exact bn (Z9 _ _) h
def je (bW:(List (List Int))) (dY:Int):(Int×(List (List Int)))→Tre ((Int×(List (List Int))) ⊕ (List (List Int))):=fun s3=>
 .cond (decide (s3.1<dY))
  (.ite (0≤s3.1∧s3.1<(bW.length:Int))<|
  .mat (bW[s3.1.toNat]?) fun x1=>
  .mat (fT x1) fun r2=>
  .ite ((s3.2.length+1)*24≤bM∧1≤24)<|
  .ret (.inl (aI .i64 (s3.1+1),s3.2++([r2]))))
  (.ret (.inr s3.2))
def iF (tH:Nat) (KT:Int) (KU:Int) (Dn:(Int×(Int×Unit))):(Int×(List (List Int)))→Tre ((Int×(List (List Int))) ⊕ (List (List Int))):=fun s15=>
 .cond (decide (s15.1<KU))
  (.mat (s15.2[tH]?) fun x15=>
  .ite (0≤s15.1∧s15.1<(x15.length:Int))<|
  .mat (s15.2[tH]?) fun x16=>
  .mat (x16[s15.1.toNat]?) fun x17=>
  .mat (cO Dn x17 KT) fun r18=>
  .mat (s15.2[tH]?) fun x19=>
  .ite (0≤s15.1∧s15.1<(x19.length:Int))<|
  .mat (s15.2[tH]?) fun x20=>
  .mat (x20[s15.1.toNat]?) fun _=>
  let v22:=x20.set s15.1.toNat r18
  .ret (.inl (aI .i64 (s15.1+1),s15.2.set tH v22)))
  (.ret (.inr s15.2))
def iG (zX:Nat) (xM:Nat) (KX:Int) (KY:Int) (wY:(Int×(Int×Unit))):(Int×(List (List Int)))→Tre ((Int×(List (List Int))) ⊕ (List (List Int))):=fun s25=>
 .cond (decide (s25.1<KY))
  (.mat (s25.2[xM]?) fun x29=>
  .ite (0≤s25.1∧s25.1<(x29.length:Int))<|
  .mat (s25.2[xM]?) fun x30=>
  .mat (x30[s25.1.toNat]?) fun x31=>
  .mat (s25.2[zX]?) fun x32=>
  .ite (0≤s25.1∧s25.1<(x32.length:Int))<|
  .mat (s25.2[zX]?) fun x33=>
  .mat (x33[s25.1.toNat]?) fun x34=>
  .mat (cO wY KX x34) fun r35=>
  .mat (s25.2[xM]?) fun x36=>
  .ite (0≤s25.1∧s25.1<(x36.length:Int))<|
  .mat (s25.2[xM]?) fun x37=>
  .mat (x37[s25.1.toNat]?) fun _=>
  let v39:=x37.set s25.1.toNat (jw .i64 x31 r35)
  .ret (.inl (aI .i64 (s25.1+1),s25.2.set xM v39)))
  (.ret (.inr s25.2))
def fU (Dv:Int) (KV:Nat) (KW:Int) (Dw:(Int×(Int×Unit))) (Dx:Int):(Int×(List (List Int)))→Tre ((Int×(List (List Int))) ⊕ (List (List Int))):=fun s20=>
 .cond (decide (s20.1<KW))
  (.ite (0≤s20.1∧s20.1<(s20.2.length:Int))<|
  .mat (s20.2[s20.1.toNat]?) fun _=>
  .mat (s20.2[s20.1.toNat]?) fun x25=>
  .ite (0≤Dx∧Dx<(x25.length:Int))<|
  .mat (s20.2[s20.1.toNat]?) fun x26=>
  .mat (x26[Dx.toNat]?) fun x27=>
  .cond (!decide (s20.1=Dv))
   (.cond (!decide (x27=0))
    (.mat (s20.2[s20.1.toNat]?) fun x28=>
    .mat (aO (iG KV s20.1.toNat x27 (x28.length:Int) Dw) (0,s20.2)) fun l40=>
    .ret (.inl (aI .i64 (s20.1+1),l40)))
    (.ret (.inl (aI .i64 (s20.1+1),s20.2))))
   (.ret (.inl (aI .i64 (s20.1+1),s20.2))))
  (.ret (.inr s20.2))
def gU (dS:Int) (dV:(Int×(Int×Unit))):(Int×Int×(List (List Int)))→Tre ((Int×Int×(List (List Int))) ⊕ (Int×(List (List Int)))):=fun s8=>
 .cond (decide (s8.2.1<dS))
  (.ite (0≤s8.1∧s8.1≤(s8.2.2.length:Int)∧(s8.2.2.length:Int)≤(s8.2.2.length:Int))<|
  .mat (awg ((s8.2.2.drop s8.1.toNat).take (((s8.2.2.length:Int)-s8.1).toNat)) s8.2.1) fun r4=>
  .cond (decide (r4<0))
   (.ret (.inl (s8.1,aI .i64 (s8.2.1+1),s8.2.2)))
   (.ite (0≤aI .i64 (s8.1+r4)∧aI .i64 (s8.1+r4)<(s8.2.2.length:Int))<|
   .mat (s8.2.2[(aI .i64 (s8.1+r4)).toNat]?) fun _=>
   .ite (0≤s8.1∧s8.1<(s8.2.2.length:Int))<|
   .mat (s8.2.2[s8.1.toNat]?) fun _=>
   .ite (0≤s8.1∧s8.1<(s8.2.2.length:Int))<|
   .ite (0≤aI .i64 (s8.1+r4)∧aI .i64 (s8.1+r4)<(s8.2.2.length:Int))<|
   .ite (Int.ofNat s8.1.toNat=Int.ofNat s8.1.toNat∧Int.ofNat ((aI .i64 (s8.1+r4)).toNat)=Int.ofNat ((aI .i64 (s8.1+r4)).toNat))<|
   let v7:=Fu ((aI .i64 (s8.1+r4)).toNat) s8.1.toNat s8.2.2
   .ite (0≤s8.1∧s8.1<(v7.length:Int))<|
   .mat (v7[s8.1.toNat]?) fun _=>
   .ite (0≤s8.1∧s8.1<(v7.length:Int))<|
   .mat (v7[s8.1.toNat]?) fun _=>
   .mat (v7[s8.1.toNat]?) fun x10=>
   .ite (0≤s8.2.1∧s8.2.1<(x10.length:Int))<|
   .mat (v7[s8.1.toNat]?) fun x11=>
   .mat (x11[s8.2.1.toNat]?) fun x12=>
   .mat (dn dV x12) fun r13=>
   .mat (v7[s8.1.toNat]?) fun x14=>
   .mat (aO (iF s8.1.toNat r13 (x14.length:Int) dV) (0,v7)) fun l23=>
   .mat (aO (fU s8.1 s8.1.toNat (l23.length:Int) dV s8.2.1) (0,l23)) fun l41=>
   .ret (.inl (aI .i64 (s8.1+1),aI .i64 (s8.2.1+1),l41))))
  (.ret (.inr (s8.1,s8.2.2)))
def IW (p0:(Int×(Int×Unit))) (p1:Int) (p2:(List (List Int))):Tre (List (List Int)):=
 .mat (aO (je p2 (p2.length:Int)) (0,[])) fun l3=>
 .mat (aO (gU p1 p0) (0,0,l3)) fun l42=>
 .ite (0≤(0:Int)∧(0:Int)≤l42.1∧l42.1≤(l42.2.length:Int))<|
 .ret ((l42.2.drop 0).take ((l42.1-0).toNat))
def pO (p0:(Int×(Int×Unit))) (p1:Int) (p2:(List (List Int))):Option (List (List Int)):=(IW p0 p1 p2).run some
-- more
theorem ajW{α β γ:Type}(g:α→γ)(fin:List γ→β):∀(l:List α)(i:Nat)(acc:List γ),acc.length=i+l.length→qp (fun i acc x=>(.inl (acc.set i (g x)):List γ ⊕ β)) fin i acc l=fin (acc.take i++l.map g):=by
 intro l
 induction l with
 |nil=>intro i acc h;simp only [qp,List.map_nil,List.append_nil];rw [List.take_of_length_le (by simp at h;omega)]
 |cons x l ih=>
  intro i acc h
  simp only [List.length_cons] at h
  simp only [qp]
  rw [ih (i+1) _ (by simp;omega),List.take_add_one]
  simp [show i<acc.length by omega,List.take_set_of_le (Nat.le_refl i)]
theorem axS{f:TF3}(hf:aN f=true){L:List (List Int)}{k:Nat}{row:List Int}(hk:L[k]?=some row)(hn:row.length≤1000000)(hr:∀y∈row,inF f y){x:Int}(hx:inF f x) :
  aO (iF k x (row.length:Int) f) (0,L)=some (L.set k (row.map fun y=>gJ f y x)):=by
 have hkl:=(List.getElem?_eq_some_iff.1 hk).1
 have key:=kN (xs:=row) (step:=iF k x (row.length:Int) f) (fun (i:Nat) (acc:List Int)=>((i:Int),L.set k acc)) (fun i acc y=>.inl (acc.set i (gJ f y x))) (fun acc=>L.set k acc) (fun i acc=>acc.length=row.length∧acc.drop i=row.drop i) (by
  intro i acc y hy hi
  have hlt:=(List.getElem?_eq_some_iff.1 hy).1
  have hg:(L.set k acc)[k]?=some acc:=by rw [List.getElem?_set_self hkl]
  have hai:acc[i]?=some y:=by
   have:=congrArg (·[0]?) hi.2
   simpa [hy] using this
  refine ⟨?_,fun a ha=>?_⟩
  ·unfold iF
   dsimp only
   rw [Tre.aA,decide_eq_true (by omega),cond_true,ah hg,Tre.run_ite,if_pos (by omega),ah hg,Int.toNat_natCast,ah hai,ah (ao9 hf (hr _ (List.mem_of_getElem? hy)) hx),ah hg,Tre.run_ite,if_pos (by omega),ah hg,ah hai,Tre.aF,aR (by omega),List.set_set]
  ·cases ha
   refine ⟨by simp [hi.1],?_⟩
   rw [List.drop_set_of_lt (by omega),←List.drop_drop,←List.drop_drop,hi.2]) (by
  intro acc _
  unfold iF
  dsimp only
  rw [Tre.aA,decide_eq_false (by omega),cond_false]
  rfl) row 0 row rfl (Nat.zero_le _) ⟨rfl,rfl⟩
 rw [ajW _ _ _ _ _ (by simp)] at key
 have h0:L.set k row=L:=by
  apply List.ext_getElem?
  intro j
  rw [List.getElem?_set]
  split
  ·rename_i h;subst h;exact hk.symm
  ·rfl
 rw [h0] at key
 simpa using key
theorem axR{f:TF3}(hf:aN f=true){L:List (List Int)}{k i2:Nat}(hne:k≠i2){own r:List Int}(hk:L[k]?=some own)(h2:L[i2]?=some r)(hl:r.length=own.length)(hn:r.length≤1000000)(hr:∀y∈own,inF f y){x:Int}(hx:inF f x) :
  aO (iG k i2 x (r.length:Int) f) (0,L)=some (L.set i2 ((r.zip own).map fun p=>jw .i64 p.1 (gJ f x p.2))):=by
 have hkl:=(List.getElem?_eq_some_iff.1 h2).1
 have key:=kN (xs:=r.zip own) (step:=iG k i2 x (r.length:Int) f) (fun (i:Nat) (acc:List Int)=>((i:Int),L.set i2 acc)) (fun i acc p=>.inl (acc.set i (jw .i64 p.1 (gJ f x p.2)))) (fun acc=>L.set i2 acc) (fun i acc=>acc.length=r.length∧acc.drop i=r.drop i) (by
  intro i acc p hp hi
  have hlt:=(List.getElem?_eq_some_iff.1 hp).1
  rw [List.length_zip] at hlt
  obtain ⟨p1,p2⟩:=p
  rw [List.getElem?_zip_eq_some] at hp
  obtain ⟨hp1,hp2⟩:=hp
  have hg:(L.set i2 acc)[i2]?=some acc:=by rw [List.getElem?_set_self hkl]
  have hgk:(L.set i2 acc)[k]?=some own:=by rw [List.getElem?_set_ne (Ne.symm hne)];exact hk
  have hai:acc[i]?=some p1:=by
   have:=congrArg (·[0]?) hi.2
   simpa [hp1] using this
  refine ⟨?_,fun a ha=>?_⟩
  ·unfold iG
   dsimp only
   rw [Tre.aA,decide_eq_true (by omega),cond_true,ah hg,Tre.run_ite,if_pos (by omega),ah hg,Int.toNat_natCast,ah hai,ah hgk,Tre.run_ite,if_pos (by omega),ah hgk,ah hp2,ah (ao9 hf hx (hr _ (List.mem_of_getElem? hp2))),ah hg,Tre.run_ite,if_pos (by omega),ah hg,ah hai,Tre.aF,aR (by omega),List.set_set]
  ·cases ha
   refine ⟨by simp [hi.1],?_⟩
   rw [List.drop_set_of_lt (by omega),←List.drop_drop,←List.drop_drop,hi.2]) (by
  intro acc _
  unfold iG
  dsimp only
  rw [Tre.aA,decide_eq_false (by rw [List.length_zip];omega),cond_false]
  rfl) (r.zip own) 0 r rfl (Nat.zero_le _) ⟨rfl,rfl⟩
 rw [ajW _ _ _ _ _ (by simp [hl])] at key
 have h0:L.set i2 r=L:=by
  apply List.ext_getElem?
  intro j
  rw [List.getElem?_set]
  split
  ·rename_i h;subst h;simp [hkl,←h2]
  ·rfl
 rw [h0] at key
 simpa using key
theorem aBu{f:TF3}(hf:aN f=true){L:List (List Int)}{k c:Nat}{own:List Int}(hk:L[k]?=some own)(hL:L.length≤1000000)(hn:own.length≤1000000)(hc:c<own.length)(hl:∀r∈L,r.length=own.length∧∀y∈r,inF f y) :
  aO (fU (k:Int) k (L.length:Int) f (c:Int)) (0,L)=some (L.mapIdx (oz f c k own)):=by
 have hown:=hl own (List.mem_of_getElem? hk)
 have key:=kN (xs:=L) (step:=fU (k:Int) k (L.length:Int) f (c:Int)) (fun (i:Nat) (acc:List (List Int))=>((i:Int),acc)) (fun i acc r=>.inl (acc.set i (oz f c k own i r))) id (fun i acc=>acc.length=L.length∧acc.drop i=L.drop i∧acc[k]?=some own) (by
  intro i acc r hr hi
  have hlt:=(List.getElem?_eq_some_iff.1 hr).1
  obtain ⟨hr1,hr2⟩:=hl r (List.mem_of_getElem? hr)
  have hai:acc[i]?=some r:=by
   have:=congrArg (·[0]?) hi.2.1
   simpa [hr] using this
  obtain ⟨x,hx⟩:∃x,r[c]?=some x:=⟨_,List.getElem?_eq_getElem (by omega)⟩
  have hset:acc.set i r=acc:=by
   apply List.ext_getElem?
   intro j
   rw [List.getElem?_set]
   split
   ·rename_i h;subst h;simp [show i<acc.length by omega,←hai]
   ·rfl
  refine ⟨?_,fun a ha=>?_⟩
  ·unfold fU
   dsimp only
   rw [Tre.aA,decide_eq_true (by omega),cond_true,Tre.run_ite,if_pos (by omega),Int.toNat_natCast,ah hai,ah hai,Tre.run_ite,if_pos (by omega),ah hai,Int.toNat_natCast,ah hx,Tre.aA]
   by_cases h1:i=k
   ·rw [decide_eq_true (show (i:Int)=(k:Int) by omega),Bool.not_true,cond_false,Tre.aF,aR (by omega)]
    simp only [oz,hx,h1,decide_true,Bool.true_or,cond_true]
    rw [←h1,hset]
   ·rw [decide_eq_false (show ¬(i:Int)=(k:Int) by omega),Bool.not_false,cond_true,Tre.aA]
    by_cases h2:x=0
    ·rw [decide_eq_true h2,Bool.not_true,cond_false,Tre.aF,aR (by omega)]
     simp only [oz,hx,h2,decide_true,Bool.or_true,cond_true]
     rw [hset]
    ·rw [decide_eq_false h2,Bool.not_false,cond_true,ah hai,ah (axR hf (fun h=>h1 h.symm) hi.2.2 hai hr1 (by omega) hown.2 (hr2 _ (List.mem_of_getElem? hx))),Tre.aF,aR (by omega)]
     simp only [oz,hx,h1,h2,decide_false,Bool.or_self,cond_false]
  ·cases ha
   refine ⟨by simp [hi.1],?_,?_⟩
   ·rw [List.drop_set_of_lt (by omega),←List.drop_drop,←List.drop_drop,hi.2.1]
   ·by_cases h1:i=k
    ·subst h1
     rw [List.getElem?_set_self (by omega)]
     rw [hr] at hk;cases hk
     simp only [oz,hx,decide_true,Bool.true_or,cond_true]
    ·rw [List.getElem?_set_ne h1];exact hi.2.2) (by
  intro acc _
  unfold fU
  dsimp only
  rw [Tre.aA,decide_eq_false (by omega),cond_false]
  rfl) L 0 L rfl (Nat.zero_le _) ⟨rfl,rfl,hk⟩
 rw [ajV _ _ _ _ _ (by simp)] at key
 simpa using key
theorem az4{rows:List (List Int)}(hl:rows.length≤1000000)(hr:∀r∈rows,r.length≤1000000):aO (je rows (rows.length:Int)) (0,[])=some rows:=by
 have key:=kN (xs:=rows) (step:=je rows (rows.length:Int)) (fun (i:Nat) (acc:List (List Int))=>((i:Int),acc)) (fun _ acc r=>.inl (acc++[id r])) id (fun i acc=>acc.length=i) (by
  intro i acc r h hi
  have hlt:=(List.getElem?_eq_some_iff.1 h).1
  refine ⟨?_,fun a ha=>?_⟩
  ·unfold je
   dsimp only
   rw [Tre.aA,decide_eq_true (by omega),cond_true,Tre.run_ite,if_pos (by omega),Int.toNat_natCast,ah h,ah (show fT r=some r from FH (by have:=hr r (List.mem_of_getElem? h);omega)),Tre.run_ite,if_pos (by unfold bM;omega),Tre.aF,aR (by omega)]
   rfl
  ·cases ha;simp [hi]) (by
  intro acc _
  unfold je
  dsimp only
  rw [Tre.aA,decide_eq_false (by omega),cond_false]
  rfl) rows 0 [] rfl (Nat.zero_le _) rfl
 rw [aeF,List.map_id] at key
 exact key
theorem az6{f:TF3}(hf:aN f=true){n c:Nat}(hc:c<n)(hn:n≤1000000)(s:Nat×List (List Int))(h:GR f n s.2)(hL:s.2.length≤1000000)(ha:s.1≤s.2.length) :
  (gU (n:Int) f ((s.1:Int),(c:Int),s.2)).run some=some (.inl (((iV f c s).1:Int),((c+1:Nat):Int),(iV f c s).2)):=by
 obtain ⟨a,L⟩:=s
 dsimp only at h hL ha
 unfold gU
 dsimp only
 have htk:(L.drop a).take (((L.length:Int)-(a:Int)).toNat)=L.drop a:=List.take_of_length_le (by rw [List.length_drop];omega)
 rw [Tre.aA,decide_eq_true (by omega),cond_true,Tre.run_ite,if_pos (by omega),Int.toNat_natCast,htk,ah (aBw (fun r hr=>by rw [(h r (List.mem_of_mem_drop hr)).1];exact hc) (by rw [List.length_drop];omega)),Tre.aA]
 unfold iV
 dsimp only
 rcases yK (C8 c) (L.drop a) 0 with ⟨h1,_⟩|⟨k,row,h1,h2,h3⟩
 ·have h4:=arO (C8 c) (L.drop a) a 0
  rw [h1,if_pos (by decide)] at h4
  simp only [Nat.add_zero] at h4
  rw [h1,h4]
  simp only [show decide ((-1:Int)<0)=true from rfl,cond_true]
  rw [Tre.aF,aR (by omega)]
 ·have h4:=arO (C8 c) (L.drop a) a 0
  rw [h3,if_neg (by omega)] at h4
  simp only [Nat.add_zero,Nat.zero_add] at h4
  have h4:ny (C8 c) a (L.drop a)=((a+k:Nat):Int):=by rw [h4];omega
  have hak:L[a+k]?=some row:=by rw [←h1,List.getElem?_drop]
  have hlt:=(List.getElem?_eq_some_iff.1 hak).1
  obtain ⟨r0,hr0⟩:∃r0,L[a]?=some r0:=⟨_,List.getElem?_eq_getElem (by omega)⟩
  obtain ⟨hrl,hrf⟩:=D5 h hak
  obtain ⟨x,hx,hx0⟩:=apG h2
  have hxf:=hrf x (List.mem_of_getElem? hx)
  have hsw:Fu (a+k) a L=(L.set (a+k) r0).set a row:=by unfold Fu;rw [hak,hr0]
  have hva:((L.set (a+k) r0).set a row)[a]?=some row:=List.getElem?_set_self (by simp;omega)
  rw [h3,h4]
  simp only [Nat.zero_add]
  have hw:aI .i64 ((a:Int)+(k:Int))=((a+k:Nat):Int):=by rw [dP (by omega) (by omega)];omega
  rw [hw,Int.toNat_natCast,hsw,decide_eq_false (by omega),decide_eq_false (by omega),cond_false,cond_false]
  rw [Tre.run_ite,if_pos (by omega),ah hak,Tre.run_ite,if_pos (by omega),ah hr0,Tre.run_ite,if_pos (by omega),Tre.run_ite,if_pos (by omega),Tre.run_ite,if_pos (by simp)]
  simp only [List.length_set]
  rw [Tre.run_ite,if_pos (by omega),ah hva,Tre.run_ite,if_pos (by omega),ah hva,ah hva,Tre.run_ite,if_pos (by omega),ah hva,Int.toNat_natCast,ah hx,ah (avP hf hxf),ah hva]
  rw [ah (axS hf hva (by omega) hrf (uO hf hxf).1),List.set_set]
  have hp:Ub f c (a+k) a L=(L.set (a+k) r0).set a (row.map fun y=>gJ f y (zO f x)):=by
   unfold Ub abx
   rw [hak,hr0]
   simp only [hx]
  have hpg:=aje (c:=c) (k:=a+k) (a:=a) hf h
  rw [hp] at hpg ⊢
  have hpa:((L.set (a+k) r0).set a (row.map fun y=>gJ f y (zO f x)))[a]?=some (row.map fun y=>gJ f y (zO f x)):=List.getElem?_set_self (by simp;omega)
  generalize hG:(L.set (a+k) r0).set a (row.map fun y=>gJ f y (zO f x))=G at hpg hpa
  have hown:=D5 hpg.1 hpa
  have hcl:aO (fU (a:Int) a (G.length:Int) f (c:Int)) (0,G)=some (G.mapIdx (oz f c a (row.map fun y=>gJ f y (zO f x)))):=
   aBu hf hpa (by omega) (by omega) (by omega) (fun r hr=>by rw [hown.1];exact hpg.1 r hr)
  rw [ah hcl,Tre.aF,aR (by omega),aR (by omega)]
  unfold Fv
  rw [hpa]
theorem az5{f:TF3}(hf:aN f=true){n:Nat}(hn:n≤1000000):∀(m c:Nat)(s:Nat×List (List Int)),c+m=n→GR f n s.2→s.2.length≤1000000→s.1≤s.2.length→aO (gU (n:Int) f) ((s.1:Int),(c:Int),s.2)=some (((gT f c m s).1:Int),(gT f c m s).2):=by
 intro m
 induction m with
 |zero=>
  intro c s hc h hL ha
  have hc:c=n:=hc
  subst hc
  refine fO ?_
  unfold gU
  exact dF
 |succ m ih=>
  intro c s hc h hL ha
  rw [mM (az6 hf (by omega) hn s h hL ha)]
  have h1:=Ip (c:=c) hf h ha
  exact ih (c+1) _ (by omega) h1.1 (by omega) (by omega)
theorem avU{f:TF3}(hf:aN f=true){n:Nat}(hn:n≤1000000){L:List (List Int)}(h:GR f n L)(hL:L.length≤1000000):pO f (n:Int) L=some (D9 f n L):=by
 have hl:=az5 hf hn n 0 (0,L) (by omega) h hL (Nat.zero_le _)
 have hk:=P5 hf n 0 (0,L) h (Nat.zero_le _)
 have hl:aO (gU (n:Int) f) (0,0,L)=_:=hl
 unfold pO IW
 rw [ah (az4 hL (fun r hr=>by rw [(h r hr).1];exact hn)),ah hl,Tre.run_ite,if_pos (by have:=hk.2.1;have:=hk.2.2;dsimp only at *;omega),Tre.aF]
 unfold D9
 simp
def eX:Env:=⟨tau,[(65,kJ),(122,aCD),(76,Ac),(75,oC)],[]⟩
def fJ:Code:=(Tryz.f96.body).getD .skip
def Eh (dZ:Bool) (aV:Int) (bA:Int) (bW:(List (List Int))) (dY:Int) (iZ:(Int×(Int×Unit))):(Int×(List (List Int)))→St:=fun x=>bP [(1,(.i aV)),(3,(.ptr (5,0) [])),(7,(.ref (9,0) [])),(8,(.i bA)),(21,(.imm dZ (.sl .il) bW)),(22,(.i dY)),(23,(.i x.1))] [((5,0),some ⟨true,aL,.own,iZ⟩),((9,0),some ⟨false,(.sl .il),.own,x.2⟩)]
def BR (_:Bool) (aV:Int) (bA:Int) (_:(List (List Int))) (_:Int) (iZ:(Int×(Int×Unit))):(List (List Int))→Ex×St:=fun x=>(.exit 0,bP [(1,(.i aV)),(3,(.ptr (5,0) [])),(7,(.ref (9,0) [])),(8,(.i bA))] [((5,0),some ⟨true,aL,.own,iZ⟩),((9,0),some ⟨false,(.sl .il),.own,x⟩)])
def XZ (s:St):Tre (Ex×St):=
 ay true .n (s.tmps 1) fun d2=>
 eF (5,0) [] (s.tmps 3)<|
 dI (9,0) [] (s.tmps 7)<|
 ay true .n (s.tmps 8) fun d6=>
 aZ (.sl .il) (s.tmps 21) fun z9 d8=>
 ay true .n (s.tmps 22) fun d11=>
 ay true .n (s.tmps 23) fun d13=>
 bg true aL (s.roots (5,0)) fun m15 d16=>
 asM .own m15<|
 bg false (.sl .il) (s.roots (9,0)) fun m18 d19=>
 asM .own m18<|
 .mat (aO (je d8 d11) (d13,d19)) fun x=>.ret (BR z9 d2 d6 d8 d11 d16 x)
def oO:bq:=⟨([1,3,7,8,21,22,23],[(5,0),(9,0)]),([1,3,7,8],[(5,0),(9,0)]),XZ⟩
def BO (P9:Int) (tH:Nat) (KT:Int) (Qa:Int) (Qb:Int) (KU:Int) (Dn:(Int×(Int×Unit))) (Qc:Int):(Int×(List (List Int)))→St:=fun x=>bP [(3,(.ptr (5,0) [])),(7,(.ref (9,0) [])),(8,(.i P9)),(11,(.ptr (13,0) [])),(13,(.ref (9,0) [.idx tH])),(14,(.i KT)),(33,(.i Qa)),(34,(.i Qb)),(76,(.i KU)),(77,(.i x.1))] [((5,0),some ⟨true,aL,.own,Dn⟩),((9,0),some ⟨false,(.sl .il),.own,x.2⟩),((13,0),some ⟨true,.n,.own,Qc⟩)]
def Ad (P9:Int) (tH:Nat) (_:Int) (Qa:Int) (Qb:Int) (_:Int) (Dn:(Int×(Int×Unit))) (Qc:Int):(List (List Int))→Ex×St:=fun x=>(.exit 4,bP [(3,(.ptr (5,0) [])),(7,(.ref (9,0) [])),(8,(.i P9)),(11,(.ptr (13,0) [])),(13,(.ref (9,0) [.idx tH])),(33,(.i Qa)),(34,(.i Qb))] [((5,0),some ⟨true,aL,.own,Dn⟩),((9,0),some ⟨false,(.sl .il),.own,x⟩),((13,0),some ⟨true,.n,.own,Qc⟩)])
def U1 (s:St):Tre (Ex×St):=
 eF (5,0) [] (s.tmps 3)<|
 dI (9,0) [] (s.tmps 7)<|
 ay true .n (s.tmps 8) fun d4=>
 eF (13,0) [] (s.tmps 11)<|
 ZK (9,0) [.idx 0] (s.tmps 13) fun i7=>
 ay true .n (s.tmps 14) fun d9=>
 ay true .n (s.tmps 33) fun d11=>
 ay true .n (s.tmps 34) fun d13=>
 ay true .n (s.tmps 76) fun d15=>
 ay true .n (s.tmps 77) fun d17=>
 bg true aL (s.roots (5,0)) fun m19 d20=>
 asM .own m19<|
 bg false (.sl .il) (s.roots (9,0)) fun m22 d23=>
 asM .own m22<|
 bg true .n (s.roots (13,0)) fun m25 d26=>
 asM .own m25<|
 .mat (aO (iF i7 d9 d15 d20) (d17,d23)) fun x=>.ret (Ad d4 i7 d9 d11 d13 d15 d20 d26 x)
def nN:bq:=⟨([3,7,8,11,13,14,33,34,76,77],[(5,0),(9,0),(13,0)]),([3,7,8,11,13,33,34],[(5,0),(9,0),(13,0)]),U1⟩
def BQ (Qk:Int) (zX:Nat) (xM:Nat) (KX:Int) (Ql:Int) (Qm:Int) (Qn:Int) (Qo:Int) (KY:Int) (wY:(Int×(Int×Unit))) (Iu:Int):(Int×(List (List Int)))→St:=fun x=>bP [(3,(.ptr (5,0) [])),(7,(.ref (9,0) [])),(8,(.i Qk)),(11,(.ptr (13,0) [])),(13,(.ref (9,0) [.idx zX])),(17,(.ref (9,0) [.idx xM])),(18,(.i KX)),(33,(.i Ql)),(34,(.i Qm)),(91,(.ref (9,0) [])),(92,(.i Qn)),(93,(.i Qo)),(110,(.i KY)),(111,(.i x.1))] [((5,0),some ⟨true,aL,.own,wY⟩),((9,0),some ⟨false,(.sl .il),.own,x.2⟩),((13,0),some ⟨true,.n,.own,Iu⟩)]
def Af (Qk:Int) (zX:Nat) (_:Nat) (_:Int) (Ql:Int) (Qm:Int) (Qn:Int) (Qo:Int) (_:Int) (wY:(Int×(Int×Unit))) (Iu:Int):(List (List Int))→Ex×St:=fun x=>(.exit 8,bP [(3,(.ptr (5,0) [])),(7,(.ref (9,0) [])),(8,(.i Qk)),(11,(.ptr (13,0) [])),(13,(.ref (9,0) [.idx zX])),(33,(.i Ql)),(34,(.i Qm)),(91,(.ref (9,0) [])),(92,(.i Qn)),(93,(.i Qo))] [((5,0),some ⟨true,aL,.own,wY⟩),((9,0),some ⟨false,(.sl .il),.own,x⟩),((13,0),some ⟨true,.n,.own,Iu⟩)])
def U3 (s:St):Tre (Ex×St):=
 eF (5,0) [] (s.tmps 3)<|
 dI (9,0) [] (s.tmps 7)<|
 ay true .n (s.tmps 8) fun d4=>
 eF (13,0) [] (s.tmps 11)<|
 ZK (9,0) [.idx 0] (s.tmps 13) fun i7=>
 ZK (9,0) [.idx 0] (s.tmps 17) fun i9=>
 ay true .n (s.tmps 18) fun d11=>
 ay true .n (s.tmps 33) fun d13=>
 ay true .n (s.tmps 34) fun d15=>
 dI (9,0) [] (s.tmps 91)<|
 ay true .n (s.tmps 92) fun d18=>
 ay true .n (s.tmps 93) fun d20=>
 ay true .n (s.tmps 110) fun d22=>
 ay true .n (s.tmps 111) fun d24=>
 bg true aL (s.roots (5,0)) fun m26 d27=>
 asM .own m26<|
 bg false (.sl .il) (s.roots (9,0)) fun m29 d30=>
 asM .own m29<|
 bg true .n (s.roots (13,0)) fun m32 d33=>
 asM .own m32<|
 .mat (aO (iG i7 i9 d11 d22 d27) (d24,d30)) fun x=>.ret (Af d4 i7 i9 d11 d13 d15 d18 d20 d22 d27 d33 x)
def nP:bq:=⟨([3,7,8,11,13,17,18,33,34,91,92,93,110,111],[(5,0),(9,0),(13,0)]),([3,7,8,11,13,33,34,91,92,93],[(5,0),(9,0),(13,0)]),U3⟩
def BP (Dv:Int) (KV:Nat) (Qg:Int) (Qh:Int) (KW:Int) (Dw:(Int×(Int×Unit))) (Dx:Int):(Int×(List (List Int)))→St:=fun x=>bP [(3,(.ptr (5,0) [])),(7,(.ref (9,0) [])),(8,(.i Dv)),(11,(.ptr (13,0) [])),(13,(.ref (9,0) [.idx KV])),(33,(.i Qg)),(34,(.i Qh)),(91,(.ref (9,0) [])),(92,(.i KW)),(93,(.i x.1))] [((5,0),some ⟨true,aL,.own,Dw⟩),((9,0),some ⟨false,(.sl .il),.own,x.2⟩),((13,0),some ⟨true,.n,.own,Dx⟩)]
def Ae (Dv:Int) (_:Nat) (Qg:Int) (Qh:Int) (_:Int) (Dw:(Int×(Int×Unit))) (_:Int):(List (List Int))→Ex×St:=fun x=>(.exit 6,bP [(3,(.ptr (5,0) [])),(7,(.ref (9,0) [])),(8,(.i Dv)),(33,(.i Qg)),(34,(.i Qh))] [((5,0),some ⟨true,aL,.own,Dw⟩),((9,0),some ⟨false,(.sl .il),.own,x⟩)])
def U2 (s:St):Tre (Ex×St):=
 eF (5,0) [] (s.tmps 3)<|
 dI (9,0) [] (s.tmps 7)<|
 ay true .n (s.tmps 8) fun d4=>
 eF (13,0) [] (s.tmps 11)<|
 ZK (9,0) [.idx 0] (s.tmps 13) fun i7=>
 ay true .n (s.tmps 33) fun d9=>
 ay true .n (s.tmps 34) fun d11=>
 dI (9,0) [] (s.tmps 91)<|
 ay true .n (s.tmps 92) fun d14=>
 ay true .n (s.tmps 93) fun d16=>
 bg true aL (s.roots (5,0)) fun m18 d19=>
 asM .own m18<|
 bg false (.sl .il) (s.roots (9,0)) fun m21 d22=>
 asM .own m21<|
 bg true .n (s.roots (13,0)) fun m24 d25=>
 asM .own m24<|
 .mat (aO (fU d4 i7 d14 d19 d25) (d16,d22)) fun x=>.ret (Ae d4 i7 d9 d11 d14 d19 d25 x)
def nO:bq:=⟨([3,7,8,11,13,33,34,91,92,93],[(5,0),(9,0),(13,0)]),([3,7,8,33,34],[(5,0),(9,0)]),U2⟩
def Ei (dS:Int) (dV:(Int×(Int×Unit))):(Int×Int×(List (List Int)))→St:=fun x=>bP [(3,(.ptr (5,0) [])),(7,(.ref (9,0) [])),(8,(.i x.1)),(33,(.i dS)),(34,(.i x.2.1))] [((5,0),some ⟨true,aL,.own,dV⟩),((9,0),some ⟨false,(.sl .il),.own,x.2.2⟩)]
def BU (_:Int) (_:(Int×(Int×Unit))):(Int×(List (List Int)))→Ex×St:=fun x=>(.exit 2,bP [(7,(.ref (9,0) [])),(8,(.i x.1))] [((9,0),some ⟨false,(.sl .il),.own,x.2⟩)])
def X0 (s:St):Tre (Ex×St):=
 eF (5,0) [] (s.tmps 3)<|
 dI (9,0) [] (s.tmps 7)<|
 ay true .n (s.tmps 8) fun d4=>
 ay true .n (s.tmps 33) fun d6=>
 ay true .n (s.tmps 34) fun d8=>
 bg true aL (s.roots (5,0)) fun m10 d11=>
 asM .own m10<|
 bg false (.sl .il) (s.roots (9,0)) fun m13 d14=>
 asM .own m13<|
 .mat (aO (gU d6 d11) (d4,d8,d14)) fun x=>.ret (BU d6 d11 x)
def oP:bq:=⟨([3,7,8,33,34],[(5,0),(9,0)]),([7,8],[(9,0)]),X0⟩
def fB:List (Nat×bq):=[(3,oO),(15,nN),(25,nP),(20,nO),(8,oP)]
theorem Qu:∀(dZ:Bool)(aV bA:Int)(bW:(List (List Int)))(dY:Int)(iZ:(Int×(Int×Unit)))(x:(Int×(List (List Int))))(c:St→Option (Ex×St)),den eX fB (aT fJ 0) (Eh dZ aV bA bW dY iZ x) (bR oO.kp oO.kx c)=(je bW dY x).run (bS (Eh dZ aV bA bW dY iZ) (BR dZ aV bA bW dY iZ) c):=fun _ _ _ _ _ _ _ _=>by
 kernel_rfl
theorem U4:bQ eX fB (aT fJ 0) oO:=bX fun _ _ _=>aJ fun _=>jD<|fI<|aJ fun _=>bY fun _ _=>aJ fun _=>aJ fun _=>bV fun _ _=>tM<|bV fun _ _=>tM<|fun h _ e17 _ e14 e12 e10 e7 e5 e4 e3 e1=>bO (Qu _ _ _ _ _ _) h (by subst_vars;exact aP rfl rfl ⟨e1,e3,e4,e5,e7,e10,e12,trivial⟩ ⟨e14,e17,trivial⟩)
theorem NU:∀(P9:Int)(tH:Nat)(KT Qa Qb KU:Int)(Dn:(Int×(Int×Unit)))(Qc:Int)(x:(Int×(List (List Int))))(c:St→Option (Ex×St)),den eX fB (aT fJ 2) (BO P9 tH KT Qa Qb KU Dn Qc x) (bR nN.kp nN.kx c)=(iF tH KT KU Dn x).run (bS (BO P9 tH KT Qa Qb KU Dn Qc) (Ad P9 tH KT Qa Qb KU Dn Qc) c):=fun _ _ _ _ _ _ _ _ _ _=>by
 kernel_rfl
theorem TA:bQ eX fB (aT fJ 2) nN:=bX fun _ _ _=>jD<|fI<|aJ fun _=>jD<|awN fun _=>aJ fun _=>aJ fun _=>aJ fun _=>aJ fun _=>aJ fun _=>bV fun _ _=>tM<|bV fun _ _=>tM<|bV fun _ _=>tM<|fun h _ e24 _ e21 _ e18 e16 e14 e12 e10 e8 e6 e5 e3 e2 e1=>bO (NU _ _ _ _ _ _ _ _) h (by subst_vars;exact aP rfl rfl ⟨e1,e2,e3,e5,e6,e8,e10,e12,e14,e16,trivial⟩ ⟨e18,e21,e24,trivial⟩)
theorem NW:∀(Qk:Int)(zX xM:Nat)(KX Ql Qm Qn Qo KY:Int)(wY:(Int×(Int×Unit)))(Iu:Int)(x:(Int×(List (List Int))))(c:St→Option (Ex×St)),den eX fB (aT fJ 4) (BQ Qk zX xM KX Ql Qm Qn Qo KY wY Iu x) (bR nP.kp nP.kx c)=(iG zX xM KX KY wY x).run (bS (BQ Qk zX xM KX Ql Qm Qn Qo KY wY Iu) (Af Qk zX xM KX Ql Qm Qn Qo KY wY Iu) c):=fun _ _ _ _ _ _ _ _ _ _ _ _ _=>by
 kernel_rfl
theorem TD:bQ eX fB (aT fJ 4) nP:=bX fun _ _ _=>jD<|fI<|aJ fun _=>jD<|awN fun _=>awN fun _=>aJ fun _=>aJ fun _=>aJ fun _=>fI<|aJ fun _=>aJ fun _=>aJ fun _=>aJ fun _=>bV fun _ _=>tM<|bV fun _ _=>tM<|bV fun _ _=>tM<|fun h _ e31 _ e28 _ e25 e23 e21 e19 e17 e16 e14 e12 e10 e8 e6 e5 e3 e2 e1=>bO (NW _ _ _ _ _ _ _ _ _ _ _) h (by subst_vars;exact aP rfl rfl ⟨e1,e2,e3,e5,e6,e8,e10,e12,e14,e16,e17,e19,e21,e23,trivial⟩ ⟨e25,e28,e31,trivial⟩)
theorem NV:∀(Dv:Int)(KV:Nat)(Qg Qh KW:Int)(Dw:(Int×(Int×Unit)))(Dx:Int)(x:(Int×(List (List Int))))(c:St→Option (Ex×St)),den eX fB (aT fJ 3) (BP Dv KV Qg Qh KW Dw Dx x) (bR nO.kp nO.kx c)=(fU Dv KV KW Dw Dx x).run (bS (BP Dv KV Qg Qh KW Dw Dx) (Ae Dv KV Qg Qh KW Dw Dx) c):=fun _ _ _ _ _ _ _ _ _=>by
 kernel_rfl
theorem TB:bQ eX fB (aT fJ 3) nO:=bX fun _ _ _=>jD<|fI<|aJ fun _=>jD<|awN fun _=>aJ fun _=>aJ fun _=>fI<|aJ fun _=>aJ fun _=>bV fun _ _=>tM<|bV fun _ _=>tM<|bV fun _ _=>tM<|fun h _ e23 _ e20 _ e17 e15 e13 e12 e10 e8 e6 e5 e3 e2 e1=>bO (NV _ _ _ _ _ _ _) h (by subst_vars;exact aP rfl rfl ⟨e1,e2,e3,e5,e6,e8,e10,e12,e13,e15,trivial⟩ ⟨e17,e20,e23,trivial⟩)
theorem Qv:∀(dS:Int)(dV:(Int×(Int×Unit)))(x:(Int×Int×(List (List Int))))(c:St→Option (Ex×St)),den eX fB (aT fJ 1) (Ei dS dV x) (bR oP.kp oP.kx c)=(gU dS dV x).run (bS (Ei dS dV) (BU dS dV) c):=fun _ _ _ _=>by
 kernel_rfl
theorem U5:bQ eX fB (aT fJ 1) oP:=bX fun _ _ _=>jD<|fI<|aJ fun _=>aJ fun _=>aJ fun _=>bV fun _ _=>tM<|bV fun _ _=>tM<|fun h _ e12 _ e9 e7 e5 e3 e2 e1=>bO (Qv _ _) h (by subst_vars;exact aP rfl rfl ⟨e1,e2,e3,e5,e7,trivial⟩ ⟨e9,e12,trivial⟩)
def aeT:FnI:=fnI Tryz.f96 fB
def IX (_:Bool) (_:(Int×(Int×Unit))) (_:Int) (_:(List (List Int))):(List (List Int))→au:=fun r=>⟨(.ref (1,0) []),[],[⟨false,(.sl .il),.own,r⟩]⟩
theorem ab1:∀(zp0:Bool)(p0:(Int×(Int×Unit)))(p1:Int)(p2:(List (List Int))),bJ eX aeT ⟨[(.imm true aL p0),(.i p1),(.imm zp0 (.sl .il) p2)],[]⟩=(IW p0 p1 p2).run fun r=>some (IX zp0 p0 p1 p2 r):=fun _ _ _ _=>by kernel_rfl
def aeS (av:List AV) (rs:List Root):Tre au:=
 aC av fun a0_ av0=>
 aC av0 fun a1_ av1=>
 aC av1 fun a2_ av2=>
 aM av2<|
 aM rs<|
 ay true aL a0_ fun d1=>
 ay true .n a1_ fun d2=>
 aZ (.sl .il) a2_ fun z4 d3=>
 .mat (pO d1 d2 d3) fun r=>.ret (IX z4 d1 d2 d3 r)
def CF:Ctr:=dD [] aeS
theorem K9:Contract Tryz.prog .none 96 CF:=aD (V:=eX) aW (ak nk avH (ak aDI ay6 (ak IQ aCn (ak pK anQ aH)))) Tryz.func96 (bF (n:=5) fun k hk=>by
 match k,hk with
 |0,_=>exact bH (id:=3) U4
 |1,_=>exact bH (id:=8) U5
 |2,_=>exact bH (id:=15) TA
 |3,_=>exact bH (id:=20) TB
 |4,_=>exact bH (id:=25) TD) fun _ _ _=>aK fun _ _=>aK fun _ _=>aK fun _ _=>bf<|bf<|aJ fun _=>aJ fun _=>bY fun _ _=>fun h=>by intros;subst_vars;exact bn (ab1 _ _ _ _) h
def YZ (p0:(List (List Int))):Tre Int:=
 .ret (p0.length:Int)
def ah3 (p0:(List (List Int))):Option Int:=(YZ p0).run some
theorem aaz(p0:(List (List Int))):ah3 p0=some (p0.length:Int):=rfl
def Si:Env:=⟨tau,[],[]⟩
def ah5:FnI:=fnI Tryz.f97 []
def Lp (_:Bool) (_:(List (List Int))):Int→au:=fun r=>⟨(.i r),[],[]⟩
theorem ae8:∀(zp0:Bool)(p0:(List (List Int))),bJ Si ah5 ⟨[(.imm zp0 (.sl .il) p0)],[]⟩=(YZ p0).run fun r=>some (Lp zp0 p0 r):=fun _ _=>by kernel_rfl
def ah4 (av:List AV) (rs:List Root):Tre au:=
 aC av fun a0_ av0=>
 aM av0<|
 aM rs<|
 aZ (.sl .il) a0_ fun z2 d1=>
 .ret (Lp z2 d1 (d1.length:Int))
def Sj:Ctr:=dD [] ah4
theorem ae9:Contract Tryz.prog .none 97 Sj:=aD (V:=Si) aW aH Tryz.func97 bI fun _ _ _=>aK fun _ _=>bf<|bf<|bY fun _ _=>fun h=>by intros;subst_vars;exact tC (ae8 _ _) (aaz _) h
def Jg (p0:Int):Tre Bool:=
 .ret (!decide (p0=0))
def Vm (p0:Int):Option Bool:=(Jg p0).run some
theorem Oj(p0:Int):Vm p0=some (!decide (p0=0)):=rfl
def EA:Env:=⟨tau,[],[]⟩
def Vo:FnI:=fnI Tryz.f137 []
def Ar (_:Int):Bool→au:=fun r=>⟨(.imm true .bool r),[],[]⟩
theorem TV:∀(p0:Int),bJ EA Vo ⟨[(.i p0)],[]⟩=(Jg p0).run fun r=>some (Ar p0 r):=fun _=>by kernel_rfl
def Vn (av:List AV) (rs:List Root):Tre au:=
 aC av fun a0_ av0=>
 aM av0<|
 aM rs<|
 ay true .n a0_ fun d1=>
 .ret (Ar d1 (!decide (d1=0)))
def EB:Ctr:=dD [] Vn
theorem TW:Contract Tryz.prog .none 137 EB:=aD (V:=EA) aW aH Tryz.func137 bI fun _ _ _=>aK fun _ _=>bf<|bf<|aJ fun _=>fun h=>by intros;subst_vars;exact tC (TV _) (Oj _) h
def aaM (aU:List Int) (bG:Int):Int→Tre (Int ⊕ (Int ⊕ Unit)):=fun s2=>
 .cond (decide (s2<bG))
  (.ite (0≤s2∧s2<(aU.length:Int))<|
  .mat (aU[s2.toNat]?) fun x1=>
  .cond (!decide (x1=0))
   (.ret (.inr (.inl s2)))
   (.ret (.inl (aI .i64 (s2+1)))))
  (.ret (.inr (.inr ())))
def nm2 (p0:List Int):Tre Int:=
 .mat (aO (aaM p0 (p0.length:Int)) 0) fun l2=>
 .alt l2
  (fun a3=>
   .ret a3)
  (fun _=>
   .ret (-1))
def av8 (p0:List Int):Option Int:=(nm2 p0).run some
def av9:Env:=⟨tau,[(137,EB)],[]⟩
def aCy:Code:=(Tryz.f99.body).getD .skip
def afp (eH:Bool) (aU:List Int) (bG:Int):Int→St:=fun x=>bP [(0,(.imm eH .il aU)),(1,(.fn 137 [])),(7,(.i bG)),(8,(.i x))] []
def Q5 (_:Bool) (_:List Int) (_:Int):(Int ⊕ Unit)→Ex×St
 |.inl x=>(.ret,bP [(4,(.i x))] [])
 |.inr _=>(.exit 0,bP [(4,.dead)] [])
def asg (s:St):Tre (Ex×St):=
 aZ .il (s.tmps 0) fun z3 d2=>
 Tk 137 [] (s.tmps 1)<|
 ay true .n (s.tmps 7) fun d6=>
 ay true .n (s.tmps 8) fun d8=>
 .mat (aO (aaM d2 d6) d8) fun x=>.alt x (fun a0=>.ret (Q5 z3 d2 d6 (.inl a0))) (fun b0=>.ret (Q5 z3 d2 d6 (.inr b0)))
def VX:bq:=⟨([0,1,7,8],[]),([4],[]),asg⟩
def azL:List (Nat×bq):=[(2,VX)]
theorem ash:∀(eH:Bool)(aU:List Int)(bG x:Int)(c:St→Option (Ex×St)),den av9 azL (aT aCy 0) (afp eH aU bG x) (bR VX.kp VX.kx c)=(aaM aU bG x).run (bS (afp eH aU bG) (Q5 eH aU bG) c):=fun _ _ _ _ _=>by
 kernel_rfl
theorem axJ:bQ av9 azL (aT aCy 0) VX:=fK fun s e s' h=>by
 generalize hs:restrict VX.kp s=s1 at h
 have h:(asg s1).run some=some (e,s'):=h
 obtain ⟨z3,d2,e1,h_0⟩:=fA h
 obtain ⟨e4,h_1⟩:=Cq h_0
 obtain ⟨d6,e5,h_2⟩:=cu h_1
 obtain ⟨d8,e7,h_3⟩:=cu h_2
 obtain ⟨y,hy,hz⟩:=gN h_3
 refine ⟨_,_,afp z3 d2 d6,Q5 z3 d2 d6,aaM d2 d6,d8,y,?_,hy,?_,ash z3 d2 d6⟩
 ·subst hs;exact aP (T:=[(0,(.imm z3 .il d2)),(1,(.fn 137 [])),(7,(.i d6)),(8,(.i d8))]) (U:=[]) rfl rfl ⟨e1,e4,e5,e7,trivial⟩ trivial
 ·rcases y with x|x<;>exact Option.some.inj hz
def aE6:FnI:=fnI Tryz.f99 azL
def awc (_:Bool) (_:List Int):Int→au:=fun r=>⟨(.i r),[],[]⟩
theorem aDD:∀(zp0:Bool)(p0:List Int),bJ av9 aE6 ⟨[(.imm zp0 .il p0),(.fn 137 [])],[]⟩=(nm2 p0).run fun r=>some (awc zp0 p0 r):=fun _ _=>by kernel_rfl
def aE5 (av:List AV) (rs:List Root):Tre au:=
 aC av fun a0_ av0=>
 aC av0 fun a1_ av1=>
 aM av1<|
 aM rs<|
 aZ .il a0_ fun z2 d1=>
 Tk 137 [] a1_<|
 .mat (av8 d1) fun r=>.ret (awc z2 d1 r)
def aCz:Ctr:=dD [] aE5
theorem aDE:Contract Tryz.prog .none 99 aCz:=aD (V:=av9) aW (ak TW aDn aH) Tryz.func99 (bF (n:=1) fun k hk=>by
 match k,hk with
 |0,_=>exact bH (id:=2) axJ) fun _ _ _=>aK fun _ _=>aK fun _ _=>bf<|bf<|bY fun _ _=>tFn<|fun h=>by intros;subst_vars;exact bn (aDD _ _) h
def jm (aV:(List (List Int))) (bA:Int):(Int×(List Int))→Tre ((Int×(List Int)) ⊕ (List Int)):=fun s3=>
 .cond (decide (s3.1<bA))
  (.ite (0≤s3.1∧s3.1<(aV.length:Int))<|
  .mat (aV[s3.1.toNat]?) fun x1=>
  .mat (av8 x1) fun r2=>
  .ite ((s3.2.length+1)*8≤bM∧1≤8)<|
  .ret (.inl (aI .i64 (s3.1+1),s3.2++([r2]))))
  (.ret (.inr s3.2))
def CP (p0:eU):Tre (List Int):=
 .mat (aO (jm p0.2.2.1 (p0.2.2.1.length:Int)) (0,[])) fun l3=>
 .ret l3
def qN (p0:eU):Option (List Int):=(CP p0).run some
def qO:Env:=⟨tau,[(99,aCz)],[]⟩
def Je:Code:=(Tryz.f124.body).getD .skip
def Aq (dZ:Bool) (aV:(List (List Int))) (bA:Int):(Int×(List Int))→St:=fun x=>bP [(3,(.ref (5,0) [])),(8,(.imm dZ (.sl .il) aV)),(9,(.i bA)),(10,(.i x.1))] [((5,0),some ⟨false,.il,.own,x.2⟩)]
def zf (_:Bool) (_:(List (List Int))) (_:Int):(List Int)→Ex×St:=fun x=>(.exit 0,bP [(3,(.ref (5,0) []))] [((5,0),some ⟨false,.il,.own,x⟩)])
def TU (s:St):Tre (Ex×St):=
 dI (5,0) [] (s.tmps 3)<|
 aZ (.sl .il) (s.tmps 8) fun z4 d3=>
 ay true .n (s.tmps 9) fun d6=>
 ay true .n (s.tmps 10) fun d8=>
 bg false .il (s.roots (5,0)) fun m10 d11=>
 asM .own m10<|
 .mat (aO (jm d3 d6) (d8,d11)) fun x=>.ret (zf z4 d3 d6 x)
def mY:bq:=⟨([3,8,9,10],[(5,0)]),([3],[(5,0)]),TU⟩
def yH:List (Nat×bq):=[(3,mY)]
theorem MZ:∀(dZ:Bool)(aV:(List (List Int)))(bA:Int)(x:(Int×(List Int)))(c:St→Option (Ex×St)),den qO yH (aT Je 0) (Aq dZ aV bA x) (bR mY.kp mY.kx c)=(jm aV bA x).run (bS (Aq dZ aV bA) (zf dZ aV bA) c):=fun _ _ _ _ _=>by
 kernel_rfl
theorem QC:bQ qO yH (aT Je 0) mY:=bX fun _ _ _=>fI<|bY fun _ _=>aJ fun _=>aJ fun _=>bV fun _ _=>tM<|fun h _ e9 e7 e5 e2 e1=>bO (MZ _ _ _) h (by subst_vars;exact aP rfl rfl ⟨e1,e2,e5,e7,trivial⟩ ⟨e9,trivial⟩)
def aan:FnI:=fnI Tryz.f124 yH
def Ez (_:Bool) (_:eU):(List Int)→au:=fun r=>⟨(.ref (1,0) []),[],[⟨false,.il,.own,r⟩]⟩
theorem Ya:∀(zp0:Bool)(p0:eU),bJ qO aan ⟨[(.imm zp0 gI p0)],[]⟩=(CP p0).run fun r=>some (Ez zp0 p0 r):=fun _ _=>by kernel_rfl
def aam (av:List AV) (rs:List Root):Tre au:=
 aC av fun a0_ av0=>
 aM av0<|
 aM rs<|
 aZ gI a0_ fun z2 d1=>
 .mat (qN d1) fun r=>.ret (Ez z2 d1 r)
def Jf:Ctr:=dD [] aam
theorem Yb:Contract Tryz.prog .none 124 Jf:=aD (V:=qO) aW (ak aDE avJ aH) Tryz.func124 (bF (n:=1) fun k hk=>by
 match k,hk with
 |0,_=>exact bH (id:=3) QC) fun _ _ _=>aK fun _ _=>bf<|bf<|bY fun _ _=>fun h=>by intros;subst_vars;exact bn (Ya _ _) h
def jv (aU:List Int) (bG:Int) (dA:Int):Int→Tre (Int ⊕ (Int ⊕ Unit)):=fun s2=>
 .cond (decide (s2<dA))
  (.ite (0≤s2∧s2<(aU.length:Int))<|
  .mat (aU[s2.toNat]?) fun x1=>
  .cond (decide (bG=x1))
   (.ret (.inr (.inl s2)))
   (.ret (.inl (aI .i64 (s2+1)))))
  (.ret (.inr (.inr ())))
def slices_Index_int (p0:List Int) (p1:Int):Tre Int:=
 .mat (aO (jv p0 p1 (p0.length:Int)) 0) fun l2=>
 .alt l2
  (fun a3=>
   .ret a3)
  (fun _=>
   .ret (-1))
def rD (p0:List Int) (p1:Int):Option Int:=(slices_Index_int p0 p1).run some
def rE:Env:=⟨tau,[],[]⟩
def Ki:Code:=(Tryz.f138.body).getD .skip
def rF (eH:Bool) (aU:List Int) (bG:Int) (dA:Int):Int→St:=fun x=>bP [(0,(.imm eH .il aU)),(1,(.i bG)),(7,(.i dA)),(8,(.i x))] []
def lq (_:Bool) (_:List Int) (_:Int) (_:Int):(Int ⊕ Unit)→Ex×St
 |.inl x=>(.ret,bP [(4,(.i x))] [])
 |.inr _=>(.exit 0,bP [(4,.dead)] [])
def Cn (s:St):Tre (Ex×St):=
 aZ .il (s.tmps 0) fun z3 d2=>
 ay true .n (s.tmps 1) fun d5=>
 ay true .n (s.tmps 7) fun d7=>
 ay true .n (s.tmps 8) fun d9=>
 .mat (aO (jv d2 d5 d7) d9) fun x=>.alt x (fun a0=>.ret (lq z3 d2 d5 d7 (.inl a0))) (fun b0=>.ret (lq z3 d2 d5 d7 (.inr b0)))
def jI:bq:=⟨([0,1,7,8],[]),([4],[]),Cn⟩
def yT:List (Nat×bq):=[(2,jI)]
theorem Ny:∀(eH:Bool)(aU:List Int)(bG dA x:Int)(c:St→Option (Ex×St)),den rE yT (aT Ki 0) (rF eH aU bG dA x) (bR jI.kp jI.kx c)=(jv aU bG dA x).run (bS (rF eH aU bG dA) (lq eH aU bG dA) c):=fun _ _ _ _ _ _=>by
 kernel_rfl
theorem RO:bQ rE yT (aT Ki 0) jI:=fK fun s e s' h=>by
 generalize hs:restrict jI.kp s=s1 at h
 have h:(Cn s1).run some=some (e,s'):=h
 obtain ⟨z3,d2,e1,h_0⟩:=fA h
 obtain ⟨d5,e4,h_1⟩:=cu h_0
 obtain ⟨d7,e6,h_2⟩:=cu h_1
 obtain ⟨d9,e8,h_3⟩:=cu h_2
 obtain ⟨y,hy,hz⟩:=gN h_3
 refine ⟨_,_,rF z3 d2 d5 d7,lq z3 d2 d5 d7,jv d2 d5 d7,d9,y,?_,hy,?_,Ny z3 d2 d5 d7⟩
 ·subst hs;exact aP (T:=[(0,(.imm z3 .il d2)),(1,(.i d5)),(7,(.i d7)),(8,(.i d9))]) (U:=[]) rfl rfl ⟨e1,e4,e6,e8,trivial⟩ trivial
 ·rcases y with x|x<;>exact Option.some.inj hz
def abA:FnI:=fnI Tryz.f138 yT
def Fq (_:Bool) (_:List Int) (_:Int):Int→au:=fun r=>⟨(.i r),[],[]⟩
theorem YK:∀(zp0:Bool)(p0:List Int)(p1:Int),bJ rE abA ⟨[(.imm zp0 .il p0),(.i p1)],[]⟩=(slices_Index_int p0 p1).run fun r=>some (Fq zp0 p0 p1 r):=fun _ _ _=>by kernel_rfl
def abz (av:List AV) (rs:List Root):Tre au:=
 aC av fun a0_ av0=>
 aC av0 fun a1_ av1=>
 aM av1<|
 aM rs<|
 aZ .il a0_ fun z2 d1=>
 ay true .n a1_ fun d3=>
 .mat (rD d1 d3) fun r=>.ret (Fq z2 d1 d3 r)
def Kj:Ctr:=dD [] abz
theorem YL:Contract Tryz.prog .none 138 Kj:=aD (V:=rE) aW aH Tryz.func138 (bF (n:=1) fun k hk=>by
 match k,hk with
 |0,_=>exact bH (id:=2) RO) fun _ _ _=>aK fun _ _=>aK fun _ _=>bf<|bf<|bY fun _ _=>aJ fun _=>fun h=>by intros;subst_vars;exact bn (YK _ _ _) h
def slices_Contains_int (p0:List Int) (p1:Int):Tre Bool:=
 .mat (rD p0 p1) fun r1=>
 .ret (decide (r1 ≥ 0))
def nu (p0:List Int) (p1:Int):Option Bool:=(slices_Contains_int p0 p1).run some
def Ck:Env:=⟨tau,[(138,Kj)],[]⟩
def Uq:FnI:=fnI Tryz.f125 []
def zM (_:Bool) (_:List Int) (_:Int):Bool→au:=fun r=>⟨(.imm true .bool r),[],[]⟩
theorem RL:∀(zp0:Bool)(p0:List Int)(p1:Int),bJ Ck Uq ⟨[(.imm zp0 .il p0),(.i p1)],[]⟩=(slices_Contains_int p0 p1).run fun r=>some (zM zp0 p0 p1 r):=fun _ _ _=>by kernel_rfl
def Uo (av:List AV) (rs:List Root):Tre au:=
 aC av fun a0_ av0=>
 aC av0 fun a1_ av1=>
 aM av1<|
 aM rs<|
 aZ .il a0_ fun z2 d1=>
 ay true .n a1_ fun d3=>
 .mat (nu d1 d3) fun r=>.ret (zM z2 d1 d3 r)
def Cm:Ctr:=dD [] Uo
theorem RN:Contract Tryz.prog .none 125 Cm:=aD (V:=Ck) aW (ak YL aDo aH) Tryz.func125 bI fun _ _ _=>aK fun _ _=>aK fun _ _=>bf<|bf<|bY fun _ _=>aJ fun _=>fun h=>by intros;subst_vars;exact bn (RL _ _ _) h
def jl (MI:Int) (UN:Int) (IB:eU) (IC:List Int):(Int×(List Int))→Tre ((Int×(List Int)) ⊕ (List Int)):=fun s9=>
 .cond (decide (s9.1<UN))
  (.ite (0≤s9.1∧s9.1<(IC.length:Int))<|
  .mat (IC[s9.1.toNat]?) fun x5=>
  .ite (0≤s9.1∧s9.1<(IB.2.2.1.length:Int))<|
  .mat (IB.2.2.1[s9.1.toNat]?) fun x6=>
  .ite (0≤MI∧MI<(x6.length:Int))<|
  .mat (x6[MI.toNat]?) fun x7=>
  .ite (0≤x5∧x5<(s9.2.length:Int))<|
  .mat (s9.2[x5.toNat]?) fun _=>
  .ret (.inl (aI .i64 (s9.1+1),s9.2.set x5.toNat x7)))
  (.ret (.inr s9.2))
def jk (aV:Int) (bW:eU) (dB:List Int):(Int×(List (List Int)))→Tre ((Int×(List (List Int))) ⊕ (List (List Int))):=fun s3=>
 .cond (decide (s3.1<aV))
  (.mat (nu dB s3.1) fun r2=>
  .cond r2
   (.ret (.inl (aI .i64 (s3.1+1),s3.2)))
   (.ite ((.n:K)=.n∧0≤bW.2.1∧bW.2.1=bW.2.1∧bW.2.1*(8:Nat)≤140737488355328∧1≤8)<|
   .ite (0≤s3.1∧s3.1<((List.replicate bW.2.1.toNat (0:Int)).length:Int))<|
   .mat ((List.replicate bW.2.1.toNat (0:Int))[s3.1.toNat]?) fun _=>
   let v4:=(List.replicate bW.2.1.toNat (0:Int)).set s3.1.toNat 1
   .mat (aO (jl s3.1 (dB.length:Int) bW dB) (0,v4)) fun l9=>
   .ite ((s3.2.length+1)*24≤bM∧1≤24)<|
   .ret (.inl (aI .i64 (s3.1+1),s3.2++([l9])))))
  (.ret (.inr s3.2))
def CO (p0:eU):Tre eU:=
 .mat (qN p0) fun r1=>
 .mat (aO (jk p0.2.1 p0 r1) (0,[])) fun l10=>
 .mat (pO p0.1 p0.2.1 l10) fun r11=>
 .ret (p0.1,(p0.2.1,(r11,())))
def qL (p0:eU):Option eU:=(CO p0).run some
def jQ:Env:=⟨tau,[(124,Jf),(125,Cm),(96,CF)],[(1000000,[((4,0),[.snd,.snd,.fst],false)])]⟩
def qM:Code:=(Tryz.f98.body).getD .skip
def Ap (avt:Bool) (MI:Int) (Z4:Int) (Z5:Int) (UN:Int) (IB:eU) (Z6:eU) (IC:List Int) (Z7:(List (List Int))):(Int×(List Int))→St:=fun x=>bP [(1,(.ptr (3,0) [])),(2,(.ptr (4,0) [])),(3,(.ref (5,0) [])),(4,(.ref (6,0) [])),(5,(.i MI)),(6,(.ref (8,0) [])),(13,(.i Z4)),(14,(.i Z5)),(26,(.ref (5,0) [])),(27,(.i UN)),(28,(.i x.1))] [((3,0),some ⟨true,gI,(.imm avt),IB⟩),((4,0),some ⟨true,gI,.own,Z6⟩),((5,0),some ⟨false,.il,.own,IC⟩),((6,0),some ⟨false,(.sl .il),.own,Z7⟩),((8,0),some ⟨false,.il,.own,x.2⟩)]
def ze (avt:Bool) (_:Int) (Z4:Int) (Z5:Int) (_:Int) (IB:eU) (Z6:eU) (IC:List Int) (Z7:(List (List Int))):(List Int)→Ex×St:=fun x=>(.exit 2,bP [(1,(.ptr (3,0) [])),(2,(.ptr (4,0) [])),(3,(.ref (5,0) [])),(4,(.ref (6,0) [])),(6,(.ref (8,0) [])),(13,(.i Z4)),(14,(.i Z5))] [((3,0),some ⟨true,gI,(.imm avt),IB⟩),((4,0),some ⟨true,gI,.own,Z6⟩),((5,0),some ⟨false,.il,.own,IC⟩),((6,0),some ⟨false,(.sl .il),.own,Z7⟩),((8,0),some ⟨false,.il,.own,x⟩)])
def TT (s:St):Tre (Ex×St):=
 eF (3,0) [] (s.tmps 1)<|
 eF (4,0) [] (s.tmps 2)<|
 dI (5,0) [] (s.tmps 3)<|
 dI (6,0) [] (s.tmps 4)<|
 ay true .n (s.tmps 5) fun d6=>
 dI (8,0) [] (s.tmps 6)<|
 ay true .n (s.tmps 13) fun d9=>
 ay true .n (s.tmps 14) fun d11=>
 dI (5,0) [] (s.tmps 26)<|
 ay true .n (s.tmps 27) fun d14=>
 ay true .n (s.tmps 28) fun d16=>
 bg true gI (s.roots (3,0)) fun m18 d19=>
 lu m18 fun z20=>
 bg true gI (s.roots (4,0)) fun m22 d23=>
 asM .own m22<|
 bg false .il (s.roots (5,0)) fun m25 d26=>
 asM .own m25<|
 bg false (.sl .il) (s.roots (6,0)) fun m28 d29=>
 asM .own m28<|
 bg false .il (s.roots (8,0)) fun m31 d32=>
 asM .own m31<|
 .mat (aO (jl d6 d14 d19 d26) (d16,d32)) fun x=>.ret (ze z20 d6 d9 d11 d14 d19 d23 d26 d29 x)
def mX:bq:=⟨([1,2,3,4,5,6,13,14,26,27,28],[(3,0),(4,0),(5,0),(6,0),(8,0)]),([1,2,3,4,6,13,14],[(3,0),(4,0),(5,0),(6,0),(8,0)]),TT⟩
def Ao (dZ:Bool) (aV:Int) (bW:eU) (dY:eU) (dB:List Int):(Int×(List (List Int)))→St:=fun x=>bP [(1,(.ptr (3,0) [])),(2,(.ptr (4,0) [])),(3,(.ref (5,0) [])),(4,(.ref (6,0) [])),(13,(.i aV)),(14,(.i x.1))] [((3,0),some ⟨true,gI,(.imm dZ),bW⟩),((4,0),some ⟨true,gI,.own,dY⟩),((5,0),some ⟨false,.il,.own,dB⟩),((6,0),some ⟨false,(.sl .il),.own,x.2⟩)]
def za (dZ:Bool) (_:Int) (bW:eU) (dY:eU) (_:List Int):(List (List Int))→Ex×St:=fun x=>(.exit 0,bP [(1,(.ptr (3,0) [])),(2,(.ptr (4,0) [])),(4,(.ref (6,0) []))] [((3,0),some ⟨true,gI,(.imm dZ),bW⟩),((4,0),some ⟨true,gI,.own,dY⟩),((6,0),some ⟨false,(.sl .il),.own,x⟩)])
def TS (s:St):Tre (Ex×St):=
 eF (3,0) [] (s.tmps 1)<|
 eF (4,0) [] (s.tmps 2)<|
 dI (5,0) [] (s.tmps 3)<|
 dI (6,0) [] (s.tmps 4)<|
 ay true .n (s.tmps 13) fun d6=>
 ay true .n (s.tmps 14) fun d8=>
 bg true gI (s.roots (3,0)) fun m10 d11=>
 lu m10 fun z12=>
 bg true gI (s.roots (4,0)) fun m14 d15=>
 asM .own m14<|
 bg false .il (s.roots (5,0)) fun m17 d18=>
 asM .own m17<|
 bg false (.sl .il) (s.roots (6,0)) fun m20 d21=>
 asM .own m20<|
 .mat (aO (jk d6 d11 d18) (d8,d21)) fun x=>.ret (za z12 d6 d11 d15 d18 x)
def mW:bq:=⟨([1,2,3,4,13,14],[(3,0),(4,0),(5,0),(6,0)]),([1,2,4],[(3,0),(4,0),(6,0)]),TS⟩
def mJ:List (Nat×bq):=[(9,mX),(3,mW)]
theorem MX:∀(avt:Bool)(MI Z4 Z5 UN:Int)(IB Z6:eU)(IC:List Int)(Z7:(List (List Int)))(x:(Int×(List Int)))(c:St→Option (Ex×St)),den jQ mJ (aT qM 1) (Ap avt MI Z4 Z5 UN IB Z6 IC Z7 x) (bR mX.kp mX.kx c)=(jl MI UN IB IC x).run (bS (Ap avt MI Z4 Z5 UN IB Z6 IC Z7) (ze avt MI Z4 Z5 UN IB Z6 IC Z7) c):=fun _ _ _ _ _ _ _ _ _ _ _=>by
 kernel_rfl
theorem QB:bQ jQ mJ (aT qM 1) mX:=bX fun _ _ _=>jD<|jD<|fI<|fI<|aJ fun _=>fI<|aJ fun _=>aJ fun _=>fI<|aJ fun _=>aJ fun _=>bV fun _ _=>BA fun _=>bV fun _ _=>tM<|bV fun _ _=>tM<|bV fun _ _=>tM<|bV fun _ _=>tM<|fun h _ e30 _ e27 _ e24 _ e21 _ e17 e15 e13 e12 e10 e8 e7 e5 e4 e3 e2 e1=>bO (MX _ _ _ _ _ _ _ _ _) h (by subst_vars;exact aP rfl rfl ⟨e1,e2,e3,e4,e5,e7,e8,e10,e12,e13,e15,trivial⟩ ⟨e17,e21,e24,e27,e30,trivial⟩)
theorem MW:∀(dZ:Bool)(aV:Int)(bW dY:eU)(dB:List Int)(x:(Int×(List (List Int))))(c:St→Option (Ex×St)),den jQ mJ (aT qM 0) (Ao dZ aV bW dY dB x) (bR mW.kp mW.kx c)=(jk aV bW dB x).run (bS (Ao dZ aV bW dY dB) (za dZ aV bW dY dB) c):=fun _ _ _ _ _ _ _=>by
 kernel_rfl
theorem QA:bQ jQ mJ (aT qM 0) mW:=bX fun _ _ _=>jD<|jD<|fI<|fI<|aJ fun _=>aJ fun _=>bV fun _ _=>BA fun _=>bV fun _ _=>tM<|bV fun _ _=>tM<|bV fun _ _=>tM<|fun h _ e19 _ e16 _ e13 _ e9 e7 e5 e4 e3 e2 e1=>bO (MW _ _ _ _ _) h (by subst_vars;exact aP rfl rfl ⟨e1,e2,e3,e4,e5,e7,trivial⟩ ⟨e9,e13,e16,e19,trivial⟩)
def aal:FnI:=fnI Tryz.f98 mJ
def Ey (_:Bool) (_:eU):eU→au:=fun r=>⟨(.imm true gI r),[],[]⟩
theorem X8:∀(zp0:Bool)(p0:eU),bJ jQ aal ⟨[(.imm zp0 gI p0)],[]⟩=(CO p0).run fun r=>some (Ey zp0 p0 r):=fun _ _=>by kernel_rfl
def aak (av:List AV) (rs:List Root):Tre au:=
 aC av fun a0_ av0=>
 aM av0<|
 aM rs<|
 aZ gI a0_ fun z2 d1=>
 .mat (qL d1) fun r=>.ret (Ey z2 d1 r)
def Jd:Ctr:=dD [] aak
theorem X9:Contract Tryz.prog .none 98 Jd:=aD (V:=jQ) aW (ak Yb aDc (ak RN aDd (ak K9 aCs aH))) Tryz.func98 (bF (n:=2) fun k hk=>by
 match k,hk with
 |0,_=>exact bH (id:=3) QA
 |1,_=>exact bH (id:=9) QB) fun _ _ _=>aK fun _ _=>bf<|bf<|bY fun _ _=>fun h=>by intros;subst_vars;exact bn (X8 _ _) h
def xO (p0:(Int×(Int×Unit))) (p1:Int) (p2:(List (List Int))):Tre (Unit ⊕ (List Int)):=
 .mat (pO p0 p1 p2) fun r1=>
 .cond (decide ((r1.length:Int)=p1))
  (.ret (.inl ()))
  (.mat (qL (p0,(p1,(r1,())))) fun r2=>
  .ite ((0:Int)≤0∧(0:Int)<(r2.2.2.1.length:Int))<|
  .mat (r2.2.2.1[0]?) fun x3=>
  .ret (.inr x3))
def kR (p0:(Int×(Int×Unit))) (p1:Int) (p2:(List (List Int))):Option (Unit ⊕ (List Int)):=(xO p0 p1 p2).run some
-- more
theorem azD{r:List Int}{q:Nat}(hq:r[q]?=some 1)(hz:∀e,e<q→r[e]?=some 0)(hl:r.length≤1000000):av8 r=some (q:Int):=by
 have hql:=(List.getElem?_eq_some_iff.1 hq).1
 unfold av8 nm2
 rw [ah (show aO (aaM r (r.length:Int)) 0=some (.inl (q:Int)) from ?_)]
 ·rfl
 refine dh (fun i=>(i:Int)) q _ (fun i hi=>?_) ?_
 ·unfold aaM
  rw [dX (hz i hi),Tre.aA,decide_eq_true rfl,Bool.not_true,cond_false,Tre.aF,aR (by omega)]
 ·unfold aaM
  rw [dX hq,Tre.aA,decide_eq_false (by decide),Bool.not_false,cond_true,Tre.aF]
theorem axF{f:TF3}{n a:Nat}{G:List (List Int)}{p:List Nat}(h:yA f n n a G p)(hn:n≤1000)(f0:TF3)(n0:Int):qN (f0,n0,G.take a,())=some (aQ p):=by
 have hal:=h.al
 have han:=h.ac
 have hpl:=h.pl
 have hlen:(G.take a).length=a:=by rw [List.length_take];omega
 unfold qN CP
 dsimp only
 rw [ah (show aO (jm (G.take a) ((G.take a).length:Int)) (0,[])=some (aQ p) from ?_),Tre.aF]
 refine dh (fun i=>((i:Int),aQ (p.take i))) a _ (fun i hi=>?_) ?_
 ·obtain ⟨r,hr,hrok,_⟩:=h.row hi
  obtain ⟨q,hq,hqn⟩:=h.piv hi
  obtain ⟨l1,l2⟩:=h.apA hi hr hq
  unfold jm
  dsimp only
  rw [dX hr,ah (azD l1 l2 (by rw [hrok.1];omega)),Tre.run_ite,if_pos (by rw [aS,List.length_take];unfold bM;omega),Tre.aF,aR (by omega)]
  rw [List.take_add_one,hq]
  unfold aQ
  rw [List.map_append]
  rfl
 ·unfold jm
  dsimp only
  rw [hlen,dF,Tre.aF,List.take_of_length_le (by omega)]
theorem apf{p:List Nat}(hp:p.length≤1000)(c:Nat):nu (aQ p) (c:Int)=some (decide (c∈p)):=by
 have h1:rD (aQ p) (c:Int)=some (ny (fun x=>decide ((c:Int)=x)) 0 (aQ p)):=by
  unfold rD slices_Index_int
  rw [Tre.kg,vC (xs:=aQ p) (fun i x=>cond (decide ((c:Int)=x)) (some (.inl (i:Int))) none) (.inr ())]
  ·rw [Option.bind_some,←NI (p:=fun x=>decide ((c:Int)=x))]
   generalize Ga _ _ _ _=r
   cases r<;>rfl
  ·intro i x hx
   have hi:i<(aQ p).length:=(List.getElem?_eq_some_iff.1 hx).1
   rw [aS] at hi
   unfold jv
   rw [dX hx,Tre.aA]
   cases decide ((c:Int)=x)
   ·simp only [cond_false,Tre.aF,aR (show i<4611686018427387904 by omega)]
   ·rfl
  ·unfold jv
   exact dF
 unfold nu slices_Contains_int
 rw [ah h1]
 have h2:decide (ny (fun x=>decide ((c:Int)=x)) 0 (aQ p) ≥ 0)=decide (c∈p):=by
  rcases yK (fun x=>decide ((c:Int)=x)) (aQ p) 0 with ⟨e,hno⟩|⟨k,x,hk,hx,e⟩
  ·rw [e,decide_eq_false (by omega)]
   refine (decide_eq_false fun hc=>?_).symm
   have:=hno (c:Int) (List.mem_map.2 ⟨c,hc,rfl⟩)
   simp at this
  ·rw [e,decide_eq_true (by omega)]
   refine (decide_eq_true ?_).symm
   have hx:=of_decide_eq_true hx
   subst hx
   obtain ⟨y,hy,hyc⟩:=List.mem_map.1 (List.mem_of_getElem? hk)
   have:y=c:=by omega
   exact this ▸ hy
 rw [Tre.aF,h2]
def RV(n:Nat)(p:List Nat)(E:List (List Int))(m:Nat):List (List Int):=((List.range m).filter fun c=>!decide (c∈p)).map fun c=>Sy n c p E
theorem anU(n:Nat)(p:List Nat)(E:List (List Int))(m:Nat):(RV n p E m).length≤m:=by
 unfold RV
 rw [List.length_map]
 have:=List.length_filter_le (fun c=>!decide (c∈p)) (List.range m)
 rw [List.length_range] at this
 exact this
theorem azB{f:TF3}(hf:aN f=true){n a:Nat}{G:List (List Int)}{p:List Nat}(h:yA f n n a G p)(hn:n≤1000):qL (f,(n:Int),G.take a,())=some (f,(n:Int),D9 f n (RV n p (G.take a) n),()):=by
 have hal:=h.al
 have han:=h.ac
 have hpl:=h.pl
 have hlen:(G.take a).length=a:=by rw [List.length_take];omega
 have hrow:∀c,c<n→aO (jl (c:Int) ((aQ p).length:Int) (f,(n:Int),G.take a,()) (aQ p)) (0,(List.replicate n (0:Int)).set c 1)=some (Sy n c p (G.take a)):=by
  intro c hc
  refine dh (fun i=>((i:Int),jg c (BD n c) ((p.zip (G.take a)).take i))) a _ (fun i hi=>?_) ?_
  ·obtain ⟨r,hr,hrok,_⟩:=h.row hi
   obtain ⟨q,hq,hqn⟩:=h.piv hi
   have hok:okV f n (jg c (BD n c) ((p.zip (G.take a)).take i)):=Jt _ (PG hf n c) fun x hx=>by
    have:=List.of_mem_zip (a:=x.1) (b:=x.2) (List.mem_of_mem_take hx)
    exact h.gr _ (List.mem_of_mem_take this.2)
   have hrc:=List.getElem?_eq_getElem (show c<r.length by rw [hrok.1];exact hc)
   have hoq:=List.getElem?_eq_getElem (show q<(jg c (BD n c) ((p.zip (G.take a)).take i)).length by rw [hok.1];exact hqn)
   have hrl:c<r.length:=by rw [hrok.1];exact hc
   have hol:q<(jg c (BD n c) ((p.zip (G.take a)).take i)).length:=by rw [hok.1];exact hqn
   unfold jl
   dsimp only
   rw [dX (dL hq),dN hr,dN hrc,dN hoq,Tre.aF,aR (by omega),Int.toNat_natCast,ak2 hq hr,tF hrc]
  ·unfold jl
   dsimp only
   rw [aS,hpl,dF,Tre.aF,List.take_of_length_le (by rw [List.length_zip];omega)]
   rfl
 have hrows:aO (jk (n:Int) (f,(n:Int),G.take a,()) (aQ p)) (0,[])=some (RV n p (G.take a) n):=by
  refine dh (fun c=>((c:Int),RV n p (G.take a) c)) n _ (fun c hc=>?_) ?_
  ·have hfl:=anU n p (G.take a) c
   have hsu:RV n p (G.take a) (c+1)=if c∈p then RV n p (G.take a) c else RV n p (G.take a) c++[Sy n c p (G.take a)]:=by
    unfold RV
    rw [List.range_succ,List.filter_append,List.map_append]
    by_cases hcp:c∈p
    ·rw [if_pos hcp,List.filter_cons,if_neg (by simp [hcp])];simp
    ·rw [if_neg hcp,List.filter_cons,if_pos (by simp [hcp])];rfl
   unfold jk
   dsimp only
   rw [Tre.aA,decide_eq_true (by omega),cond_true,ah (apf (by omega) c),Tre.aA]
   by_cases hcp:c∈p
   ·rw [decide_eq_true hcp,cond_true,Tre.aF,aR (by omega),hsu,if_pos hcp]
   ·rw [decide_eq_false hcp,cond_false,Tre.run_ite,if_pos ⟨rfl,by omega,rfl,by omega,by omega⟩,Int.toNat_natCast]
    rw [dN (show (List.replicate n (0:Int))[c]?=some 0 by rw [List.getElem?_replicate,if_pos hc])]
    rw [Int.toNat_natCast,ah (hrow c hc),Tre.run_ite,if_pos (by unfold bM;omega),Tre.aF,aR (by omega),hsu,if_neg hcp]
  ·unfold jk
   dsimp only
   rw [dF,Tre.aF]
 have hgr:GR f n (RV n p (G.take a) n):=by
  intro r hr
  obtain ⟨c,_,rfl⟩:=List.mem_map.1 hr
  exact ak1 hf h c
 unfold qL CO
 dsimp only
 rw [ah (axF h hn _ _),ah hrows,ah (avU hf (by omega) hgr (by have:=anU n p (G.take a) n;omega)),Tre.aF]
theorem auI{f:TF3}(hf:aN f=true){n:Nat}(hn:n≤1000){L:List (List Int)}(h:GR f n L)(hL:L.length≤1000) :
  ((D9 f n L).length=n∧kR f (n:Int) L=some (.inl ()))∨((D9 f n L).length≠n∧∃x,kR f (n:Int) L=some (.inr x)∧aoB f n L x):=by
 have hr:=avU hf (show n≤1000000 by omega) h (by omega)
 by_cases hl:(D9 f n L).length=n
 ·refine .inl ⟨hl,?_⟩
  unfold kR xO
  rw [ah hr,Tre.aA,decide_eq_true (by omega)]
  rfl
 ·refine .inr ⟨hl,?_⟩
  obtain ⟨p,hI,hlen⟩:=yA.all hf (Nat.le_refl n) h
  have hel:=ajN hf (m:=n) h
  have hE:D9 f n L=(gT f 0 n (0,L)).2.take (gT f 0 n (0,L)).1:=rfl
  generalize hs:gT f 0 n (0,L)=s at hI hlen hel hE
  obtain ⟨a,G⟩:=s
  dsimp only at hI hlen hel hE
  have hal:=hI.al
  have hac:=hI.ac
  obtain ⟨c,hc,hcp⟩:=arp (n:=n) hI.pinc (by rw [hI.pl];omega)
  have hgr:GR f n (RV n p (G.take a) n):=by
   intro r hr
   obtain ⟨c,_,rfl⟩:=List.mem_map.1 hr
   exact ak1 hf hI c
  obtain ⟨x,hx,hk⟩:=aBq hf (E:=G.take a) (D:=RV n p (G.take a) n) (fun r hr=>hI.gr r (List.mem_of_mem_take hr)) hgr (fun r hr y hy=>by
   obtain ⟨c',hc',rfl⟩:=List.mem_map.1 hy
   obtain ⟨h1,h2⟩:=List.mem_filter.1 hc'
   exact aoc hf hI (List.mem_range.1 h1) (by simpa using h2) r hr) hc (d:=Sy n c p (G.take a)) (List.mem_map.2 ⟨c,List.mem_filter.2 ⟨List.mem_range.2 hc,by simp [hcp]⟩,rfl⟩) (asx hI hc hcp)
  refine ⟨x,?_,aoB.azW hf h (hE ▸ hk)⟩
  have hxl:=(List.getElem?_eq_some_iff.1 hx).1
  unfold kR xO
  rw [ah hr,Tre.aA,decide_eq_false (by omega),cond_false,hE,ah (azB hf hI hn)]
  dsimp only
  rw [Tre.run_ite,if_pos ⟨by omega,by omega⟩,ah hx,Tre.aF]
def K6:Env:=⟨tau,[(96,CF),(97,Sj),(98,Jd)],[(1000001,[])]⟩
def ab0:FnI:=fnI Tryz.f63 []
def wM (_:Bool) (_:(Int×(Int×Unit))) (_:Int) (_:(List (List Int))):(Unit ⊕ (List Int))→au
 |.inl _=>⟨.nil,[],[]⟩
 |.inr r=>⟨(.imm true .il r),[],[]⟩
theorem aac:∀(zp0:Bool)(p0:(Int×(Int×Unit)))(p1:Int)(p2:(List (List Int))),bJ K6 ab0 ⟨[(.imm true aL p0),(.i p1),(.imm zp0 (.sl .il) p2)],[]⟩=(xO p0 p1 p2).run fun r=>some (wM zp0 p0 p1 p2 r):=fun _ _ _ _=>by kernel_rfl
def abZ (av:List AV) (rs:List Root):Tre au:=
 aC av fun a0_ av0=>
 aC av0 fun a1_ av1=>
 aC av1 fun a2_ av2=>
 aM av2<|
 aM rs<|
 ay true aL a0_ fun d1=>
 ay true .n a1_ fun d2=>
 aZ (.sl .il) a2_ fun z4 d3=>
 .mat (kR d1 d2 d3) fun r=>.alt r (fun a0=>.ret (wM z4 d1 d2 d3 (.inl a0))) (fun b0=>.ret (wM z4 d1 d2 d3 (.inr b0)))
def K7:Ctr:=dD [] abZ
theorem aad:Contract Tryz.prog .none 63 K7:=aD (V:=K6) aW (ak K9 aCs (ak ae9 aEU (ak X9 aEV aH))) Tryz.func63 bI fun _ _ _=>aK fun _ _=>aK fun _ _=>aK fun _ _=>bf<|bf<|aJ fun _=>aJ fun _=>bY fun _ _=>fun h=>by intros;subst_vars;exact ajT (aac _ _ _ _) h (by rintro (x|x)<;>rfl)
def vX (pG:Int) (pI:(List (List Int))):Int→Tre (Int ⊕ Int):=fun s7=>
 .ite (0≤pG∧pG<(pI.length:Int))<|
 .mat (pI[pG.toNat]?) fun x2=>
 .ite (0≤s7∧s7<(x2.length:Int))<|
 .mat (x2[s7.toNat]?) fun x3=>
 .cond (decide (x3=0))
  (.ret (.inl (aI .i64 (s7+1))))
  (.ret (.inr s7))
def vW (dU:(List (List Int))):(Int×(List Int))→Tre ((Int×(List Int)) ⊕ (List Int)):=fun s4=>
 .cond (decide (s4.1<(dU.length:Int)))
  (.mat (aO (vX s4.1 dU) 0) fun l4=>
  .ite ((s4.2.length+1)*8≤bM∧1≤8)<|
  .ret (.inl (aI .i64 (s4.1+1),s4.2++([l4]))))
  (.ret (.inr s4.2))
def sK (Dr:Int) (Dt:(List (List Int))) (G7:List Int):(Int×(List Int))→Tre ((Int×(List Int)) ⊕ (List Int)):=fun s17=>
 .cond (decide (s17.1<(Dt.length:Int)))
  (.ite (0≤s17.1∧s17.1<(G7.length:Int))<|
  .mat (G7[s17.1.toNat]?) fun x9=>
  .ite (0≤s17.1∧s17.1<(Dt.length:Int))<|
  .mat (Dt[s17.1.toNat]?) fun x10=>
  .ite (0≤Dr∧Dr<(x10.length:Int))<|
  .mat (x10[Dr.toNat]?) fun x11=>
  .ite (0≤x9∧x9<(s17.2.length:Int))<|
  .mat (s17.2[x9.toNat]?) fun _=>
  .ret (.inl (aI .i64 (s17.1+1),s17.2.set x9.toNat x11)))
  (.ret (.inr s17.2))
def iR (iY:Int) (jX:(List (List Int))) (G6:List Int):Int→Tre (Int ⊕ ((Bool×(List Int)) ⊕ Unit)):=fun s11=>
 .cond (decide (s11<iY))
  (.mat (Rh G6 s11) fun r6=>
  .cond r6
   (.ret (.inl (aI .i64 (s11+1))))
   (.ite ((.n:K)=.n∧0≤iY∧iY=iY∧iY*(8:Nat)≤140737488355328∧1≤8)<|
   .ite (0≤s11∧s11<((List.replicate iY.toNat (0:Int)).length:Int))<|
   .mat ((List.replicate iY.toNat (0:Int))[s11.toNat]?) fun _=>
   let v8:=(List.replicate iY.toNat (0:Int)).set s11.toNat 1
   .mat (aO (sK s11 jX G6) (0,v8)) fun l13=>
   .ret (.inr (.inl (true,l13)))))
  (.ret (.inr (.inr ())))
def XQ (p0:(Int×(Int×Unit))) (p1:Int) (p2:(List (List Int))):Tre (Bool×(List Int)):=
 .mat (Bn p0 p1 p2) fun r1=>
 .mat (aO (vW r1) (0,[])) fun l5=>
 .mat (aO (iR p1 r1 l5) 0) fun l14=>
 .alt l14
  (fun a15=>
   .ret (a15.1,a15.2))
  (fun _=>
   .ret (false,[]))
def zK (p0:(Int×(Int×Unit))) (p1:Int) (p2:(List (List Int))):Option (Bool×(List Int)):=(XQ p0 p1 p2).run some
-- more
theorem avZ{p:List Nat}(hp:p.length≤1000)(c:Nat):Rh (aQ p) (c:Int)=some (decide (c∈p)):=by
 have h2:(aQ p).all (fun x=>!decide (x=(c:Int))) = !decide (c∈p):=by
  by_cases h:c∈p
  ·rw [decide_eq_true h]
   refine List.all_eq_false.2 ⟨(c:Int),List.mem_map.2 ⟨c,h,rfl⟩,?_⟩
   simp
  ·rw [decide_eq_false h]
   refine List.all_eq_true.2 fun x hx=>?_
   obtain ⟨y,hy,rfl⟩:=List.mem_map.1 hx
   have:(y:Int)≠(c:Int):=fun e=>h ((show y=c by omega) ▸ hy)
   simpa using this
 unfold Rh ali
 rw [Tre.kg,anC (xs:=aQ p) (fun x=>!decide (x=(c:Int))) (.inl true) (.inr ()),h2]
 ·cases decide (c∈p)<;>rfl
 ·intro i x hx
  have hi:i<(aQ p).length:=(List.getElem?_eq_some_iff.1 hx).1
  rw [aS] at hi
  unfold zA
  rw [dX hx,Tre.aA]
  cases decide (x=(c:Int))
  ·simp only [Bool.not_false,cond_false,cond_true,Tre.aF,aR (show i<4611686018427387904 by omega)]
  ·rfl
 ·unfold zA
  exact dF
theorem aob{f:TF3}{n a:Nat}{G:List (List Int)}{p:List Nat}(h:yA f n n a G p)(hn:n≤1000):aO (vW (G.take a)) (0,[])=some (aQ p):=by
 have hal:=h.al
 have han:=h.ac
 have hpl:=h.pl
 have hlen:(G.take a).length=a:=by rw [List.length_take];omega
 refine dh (fun i=>((i:Int),aQ (p.take i))) a _ (fun i hi=>?_) ?_
 ·obtain ⟨r,hr,hrok,_⟩:=h.row hi
  obtain ⟨q,hq,hqn⟩:=h.piv hi
  obtain ⟨l1,l2⟩:=h.apA hi hr hq
  have hin:aO (vX (i:Int) (G.take a)) 0=some (q:Int):=by
   refine dh (fun e=>(e:Int)) q _ (fun e he=>?_) ?_
   ·unfold vX
    rw [dN hr,dN (l2 e he),Tre.aA,decide_eq_true rfl,cond_true,Tre.aF,aR (by omega)]
   ·unfold vX
    rw [dN hr,dN l1,Tre.aA,decide_eq_false (by decide),cond_false,Tre.aF]
  unfold vW
  dsimp only
  rw [Tre.aA,decide_eq_true (by omega),cond_true,ah hin,Tre.run_ite,if_pos (by rw [aS,List.length_take];unfold bM;omega),Tre.aF,aR (by omega)]
  rw [List.take_add_one,hq]
  unfold aQ
  rw [List.map_append]
  rfl
 ·unfold vW
  dsimp only
  rw [hlen,dF,Tre.aF,List.take_of_length_le (by omega)]
theorem aBr{f:TF3}(hf:aN f=true){n a:Nat}{G:List (List Int)}{p:List Nat}(h:yA f n n a G p)(hn:n≤1000){c:Nat}(hc:c<n):aO (sK (c:Int) (G.take a) (aQ p)) (0,(List.replicate n (0:Int)).set c 1)=some (Sy n c p (G.take a)):=by
 have hal:=h.al
 have han:=h.ac
 have hpl:=h.pl
 have hlen:(G.take a).length=a:=by rw [List.length_take];omega
 refine dh (fun i=>((i:Int),jg c (BD n c) ((p.zip (G.take a)).take i))) a _ (fun i hi=>?_) ?_
 ·obtain ⟨r,hr,hrok,_⟩:=h.row hi
  obtain ⟨q,hq,hqn⟩:=h.piv hi
  have hok:okV f n (jg c (BD n c) ((p.zip (G.take a)).take i)):=Jt _ (PG hf n c) fun x hx=>by
   have:=List.of_mem_zip (a:=x.1) (b:=x.2) (List.mem_of_mem_take hx)
   exact h.gr _ (List.mem_of_mem_take this.2)
  have hrc:=List.getElem?_eq_getElem (show c<r.length by rw [hrok.1];exact hc)
  have hoq:=List.getElem?_eq_getElem (show q<(jg c (BD n c) ((p.zip (G.take a)).take i)).length by rw [hok.1];exact hqn)
  unfold sK
  dsimp only
  rw [Tre.aA,decide_eq_true (by omega),cond_true,dN (dL hq),dN hr,dN hrc,dN hoq,Tre.aF,aR (by omega),Int.toNat_natCast,ak2 hq hr,tF hrc]
 ·unfold sK
  dsimp only
  rw [hlen,dF,Tre.aF,List.take_of_length_le (by rw [List.length_zip];omega)]
  rfl
theorem aAj{f:TF3}(hf:aN f=true){n:Nat}(hn:n≤1000){L:List (List Int)}(h:GR f n L)(hL:L.length≤1000) :
  ((D9 f n L).length=n∧zK f (n:Int) L=some (false,[]))∨((D9 f n L).length≠n∧∃x,zK f (n:Int) L=some (true,x)∧aoB f n L x):=by
 have hr:=aBB hf (show n≤1000000 by omega) h (by omega)
 obtain ⟨p,hI,hlen⟩:=yA.all hf (Nat.le_refl n) h
 have hel:=ajN hf (m:=n) h
 have hE:D9 f n L=(gT f 0 n (0,L)).2.take (gT f 0 n (0,L)).1:=rfl
 generalize hs:gT f 0 n (0,L)=s at hI hlen hel hE
 obtain ⟨a,G⟩:=s
 dsimp only at hI hlen hel hE
 have hal:=hI.al
 have hac:=hI.ac
 have hpl:=hI.pl
 have hstep:∀c,c<n→c∈p→(iR (n:Int) (G.take a) (aQ p) (c:Int)).run some=some (.inl ((c+1:Nat):Int)):=by
  intro c hc hcp
  unfold iR
  rw [Tre.aA,decide_eq_true (by omega),cond_true,ah (avZ (by omega) c),Tre.aA,decide_eq_true hcp,cond_true,Tre.aF,aR (by omega)]
 by_cases hl:(D9 f n L).length=n
 ·refine .inl ⟨hl,?_⟩
  have hp:=hI.full (by omega)
  have hloop:aO (iR (n:Int) (G.take a) (aQ p)) 0=some (.inr ()):=by
   refine dh (fun c=>(c:Int)) n _ (fun c hc=>hstep c hc (by rw [hp];exact List.mem_range.2 hc)) ?_
   unfold iR
   rw [dF,Tre.aF]
  unfold zK XQ
  rw [ah hr,hE,ah (aob hI hn),ah hloop]
  rfl
 ·refine .inr ⟨hl,?_⟩
  have hex:∃c,c<n∧c ∉ p:=arp hI.pinc (by rw [hI.pl];omega)
  obtain ⟨c,⟨hc,hcp⟩,hmin⟩:∃c,(c<n∧c ∉ p)∧∀e,e<c→¬(e<n∧e ∉ p):=by
   obtain ⟨c0,hc0⟩:=hex
   induction c0 using Nat.strongRecOn with
   |ind c0 ih=>
    by_cases hx:∃e,e<c0∧(e<n∧e ∉ p)
    ·obtain ⟨e,h1,h2⟩:=hx
     exact ih e h1 h2
    ·exact ⟨c0,hc0,fun e he h2=>hx ⟨e,he,h2⟩⟩
  refine ⟨Sy n c p (G.take a),?_,aoB.azW hf h ⟨ak1 hf hI c,⟨c,by rw [asx hI hc hcp];decide⟩,by rw [hE];exact aoc hf hI hc hcp⟩⟩
  have hloop:aO (iR (n:Int) (G.take a) (aQ p)) 0=some (.inl (true,Sy n c p (G.take a))):=by
   refine dh (fun c=>(c:Int)) c _ (fun e he=>hstep e (by omega) (Classical.byContradiction fun hh=>hmin e he ⟨by omega,hh⟩)) ?_
   unfold iR
   rw [Tre.aA,decide_eq_true (by omega),cond_true,ah (avZ (by omega) c),Tre.aA,decide_eq_false hcp,cond_false,Tre.run_ite,if_pos ⟨rfl,by omega,rfl,by omega,by omega⟩,Int.toNat_natCast]
   rw [dN (show (List.replicate n (0:Int))[c]?=some 0 by rw [List.getElem?_replicate,if_pos hc])]
   rw [Int.toNat_natCast,ah (aBr hf hI hn hc),Tre.aF]
  unfold zK XQ
  rw [ah hr,hE,ah (aob hI hn),ah hloop]
  rfl
def mo:Env:=⟨tau,[(88,Xe),(89,alk)],[]⟩
def qx:Code:=(Tryz.f57.body).getD .skip
def Tf (yB:Int) (pG:Int) (pI:(List (List Int))) (yC:List Int):Int→St:=fun x=>bP [(1,(.i yB)),(8,(.ref (10,0) [])),(9,(.ref (11,0) [])),(10,(.i pG)),(11,(.i x))] [((10,0),some ⟨false,(.sl .il),(.sl (.imm true)),pI⟩),((11,0),some ⟨false,.il,.own,yC⟩)]
def Pq (yB:Int) (pG:Int) (pI:(List (List Int))) (yC:List Int):Int→Ex×St:=fun x=>(.exit 2,bP [(1,(.i yB)),(8,(.ref (10,0) [])),(9,(.ref (11,0) [])),(10,(.i pG)),(11,(.i x))] [((10,0),some ⟨false,(.sl .il),(.sl (.imm true)),pI⟩),((11,0),some ⟨false,.il,.own,yC⟩)])
def al0 (s:St):Tre (Ex×St):=
 ay true .n (s.tmps 1) fun d2=>
 dI (10,0) [] (s.tmps 8)<|
 dI (11,0) [] (s.tmps 9)<|
 ay true .n (s.tmps 10) fun d6=>
 ay true .n (s.tmps 11) fun d8=>
 bg false (.sl .il) (s.roots (10,0)) fun m10 d11=>
 asM (.sl (.imm true)) m10<|
 bg false .il (s.roots (11,0)) fun m13 d14=>
 asM .own m13<|
 .mat (aO (vX d6 d11) d8) fun x=>.ret (Pq d2 d6 d11 d14 x)
def Br:bq:=⟨([1,8,9,10,11],[(10,0),(11,0)]),([1,8,9,10,11],[(10,0),(11,0)]),al0⟩
def Te (bL:Int) (dU:(List (List Int))):(Int×(List Int))→St:=fun x=>bP [(1,(.i bL)),(8,(.ref (10,0) [])),(9,(.ref (11,0) [])),(10,(.i x.1))] [((10,0),some ⟨false,(.sl .il),(.sl (.imm true)),dU⟩),((11,0),some ⟨false,.il,.own,x.2⟩)]
def Pp (bL:Int) (dU:(List (List Int))):(List Int)→Ex×St:=fun x=>(.exit 0,bP [(1,(.i bL)),(8,(.ref (10,0) [])),(9,(.ref (11,0) []))] [((10,0),some ⟨false,(.sl .il),(.sl (.imm true)),dU⟩),((11,0),some ⟨false,.il,.own,x⟩)])
def alZ (s:St):Tre (Ex×St):=
 ay true .n (s.tmps 1) fun d2=>
 dI (10,0) [] (s.tmps 8)<|
 dI (11,0) [] (s.tmps 9)<|
 ay true .n (s.tmps 10) fun d6=>
 bg false (.sl .il) (s.roots (10,0)) fun m8 d9=>
 asM (.sl (.imm true)) m8<|
 bg false .il (s.roots (11,0)) fun m11 d12=>
 asM .own m11<|
 .mat (aO (vW d9) (d6,d12)) fun x=>.ret (Pp d2 d9 x)
def Bq:bq:=⟨([1,8,9,10],[(10,0),(11,0)]),([1,8,9],[(10,0),(11,0)]),alZ⟩
def Pn (Dr:Int) (Dt:(List (List Int))) (G7:List Int):(Int×(List Int))→St:=fun x=>bP [(8,(.ref (10,0) [])),(9,(.ref (11,0) [])),(12,(.i Dr)),(13,(.ref (15,0) [])),(14,(.i x.1))] [((10,0),some ⟨false,(.sl .il),(.sl (.imm true)),Dt⟩),((11,0),some ⟨false,.il,.own,G7⟩),((15,0),some ⟨false,.il,.own,x.2⟩)]
def Mx (_:Int) (_:(List (List Int))) (_:List Int):(List Int)→Ex×St:=fun x=>(.exit 6,bP [(13,(.ref (15,0) []))] [((15,0),some ⟨false,.il,.own,x⟩)])
def aiV (s:St):Tre (Ex×St):=
 dI (10,0) [] (s.tmps 8)<|
 dI (11,0) [] (s.tmps 9)<|
 ay true .n (s.tmps 12) fun d4=>
 dI (15,0) [] (s.tmps 13)<|
 ay true .n (s.tmps 14) fun d7=>
 bg false (.sl .il) (s.roots (10,0)) fun m9 d10=>
 asM (.sl (.imm true)) m9<|
 bg false .il (s.roots (11,0)) fun m12 d13=>
 asM .own m12<|
 bg false .il (s.roots (15,0)) fun m15 d16=>
 asM .own m15<|
 .mat (aO (sK d4 d10 d13) (d7,d16)) fun x=>.ret (Mx d4 d10 d13 x)
def yu:bq:=⟨([8,9,12,13,14],[(10,0),(11,0),(15,0)]),([13],[(15,0)]),aiV⟩
def Dj (iY:Int) (jX:(List (List Int))) (G6:List Int):Int→St:=fun x=>bP [(1,(.i iY)),(8,(.ref (10,0) [])),(9,(.ref (11,0) [])),(12,(.i x))] [((10,0),some ⟨false,(.sl .il),(.sl (.imm true)),jX⟩),((11,0),some ⟨false,.il,.own,G6⟩)]
def uw (_:Int) (_:(List (List Int))) (_:List Int):((Bool×(List Int)) ⊕ Unit)→Ex×St
 |.inl x=>(.ret,bP [(6,(.ref (8,0) [])),(7,(.imm true .bool x.1))] [((8,0),some ⟨false,.il,.own,x.2⟩)])
 |.inr _=>(.exit 4,bP [(6,.dead),(7,.dead)] [((8,0),none)])
def Td (s:St):Tre (Ex×St):=
 ay true .n (s.tmps 1) fun d2=>
 dI (10,0) [] (s.tmps 8)<|
 dI (11,0) [] (s.tmps 9)<|
 ay true .n (s.tmps 12) fun d6=>
 bg false (.sl .il) (s.roots (10,0)) fun m8 d9=>
 asM (.sl (.imm true)) m8<|
 bg false .il (s.roots (11,0)) fun m11 d12=>
 asM .own m11<|
 .mat (aO (iR d2 d9 d12) d6) fun x=>.alt x (fun a0=>.ret (uw d2 d9 d12 (.inl a0))) (fun b0=>.ret (uw d2 d9 d12 (.inr b0)))
def rW:bq:=⟨([1,8,9,12],[(10,0),(11,0)]),([6,7],[(8,0)]),Td⟩
def om:List (Nat×bq):=[(7,Br),(4,Bq),(17,yu),(11,rW)]
theorem ad1:∀(yB pG:Int)(pI:(List (List Int)))(yC:List Int)(x:Int)(c:St→Option (Ex×St)),den mo om (aT qx 1) (Tf yB pG pI yC x) (bR Br.kp Br.kx c)=(vX pG pI x).run (bS (Tf yB pG pI yC) (Pq yB pG pI yC) c):=fun _ _ _ _ _ _=>by
 kernel_rfl
theorem aiX:bQ mo om (aT qx 1) Br:=bX fun _ _ _=>aJ fun _=>fI<|fI<|aJ fun _=>aJ fun _=>bV fun _ _=>tM<|bV fun _ _=>tM<|fun h _ e12 _ e9 e7 e5 e4 e3 e1=>bO (ad1 _ _ _ _) h (by subst_vars;exact aP rfl rfl ⟨e1,e3,e4,e5,e7,trivial⟩ ⟨e9,e12,trivial⟩)
theorem adZ:∀(bL:Int)(dU:(List (List Int)))(x:(Int×(List Int)))(c:St→Option (Ex×St)),den mo om (aT qx 0) (Te bL dU x) (bR Bq.kp Bq.kx c)=(vW dU x).run (bS (Te bL dU) (Pp bL dU) c):=fun _ _ _ _=>by
 kernel_rfl
theorem aiW:bQ mo om (aT qx 0) Bq:=bX fun _ _ _=>aJ fun _=>fI<|fI<|aJ fun _=>bV fun _ _=>tM<|bV fun _ _=>tM<|fun h _ e10 _ e7 e5 e4 e3 e1=>bO (adZ _ _) h (by subst_vars;exact aP rfl rfl ⟨e1,e3,e4,e5,trivial⟩ ⟨e7,e10,trivial⟩)
theorem abu:∀(Dr:Int)(Dt:(List (List Int)))(G7:List Int)(x:(Int×(List Int)))(c:St→Option (Ex×St)),den mo om (aT qx 3) (Pn Dr Dt G7 x) (bR yu.kp yu.kx c)=(sK Dr Dt G7 x).run (bS (Pn Dr Dt G7) (Mx Dr Dt G7) c):=fun _ _ _ _ _=>by
 kernel_rfl
theorem agc:bQ mo om (aT qx 3) yu:=bX fun _ _ _=>fI<|fI<|aJ fun _=>fI<|aJ fun _=>bV fun _ _=>tM<|bV fun _ _=>tM<|bV fun _ _=>tM<|fun h _ e14 _ e11 _ e8 e6 e5 e3 e2 e1=>bO (abu _ _ _) h (by subst_vars;exact aP rfl rfl ⟨e1,e2,e3,e5,e6,trivial⟩ ⟨e8,e11,e14,trivial⟩)
theorem abt:∀(iY:Int)(jX:(List (List Int)))(G6:List Int)(x:Int)(c:St→Option (Ex×St)),den mo om (aT qx 2) (Dj iY jX G6 x) (bR rW.kp rW.kx c)=(iR iY jX G6 x).run (bS (Dj iY jX G6) (uw iY jX G6) c):=fun _ _ _ _ _=>by
 kernel_rfl
theorem agb:bQ mo om (aT qx 2) rW:=fK fun s e s' h=>by
 generalize hs:restrict rW.kp s=s1 at h
 have h:(Td s1).run some=some (e,s'):=h
 obtain ⟨d2,e1,h_0⟩:=cu h
 obtain ⟨e3,h_1⟩:=PU h_0
 obtain ⟨e4,h_2⟩:=PU h_1
 obtain ⟨d6,e5,h_3⟩:=cu h_2
 obtain ⟨m8,d9,e7,h_4⟩:=fQ h_3
 obtain ⟨rfl,h_5⟩:=rO h_4
 obtain ⟨m11,d12,e10,h_6⟩:=fQ h_5
 obtain ⟨rfl,h_7⟩:=rO h_6
 obtain ⟨y,hy,hz⟩:=gN h_7
 refine ⟨_,_,Dj d2 d9 d12,uw d2 d9 d12,iR d2 d9 d12,d6,y,?_,hy,?_,abt d2 d9 d12⟩
 ·subst hs;exact aP (T:=[(1,(.i d2)),(8,(.ref (10,0) [])),(9,(.ref (11,0) [])),(12,(.i d6))]) (U:=[((10,0),some ⟨false,(.sl .il),(.sl (.imm true)),d9⟩),((11,0),some ⟨false,.il,.own,d12⟩)]) rfl rfl ⟨e1,e3,e4,e5,trivial⟩ ⟨e7,e10,trivial⟩
 ·rcases y with x|x<;>exact Option.some.inj hz
def atm:FnI:=fnI Tryz.f57 om
def Zw (_:Bool) (_:(Int×(Int×Unit))) (_:Int) (_:(List (List Int))):(Bool×(List Int))→au:=fun r=>⟨(.tcons (.ref (1,0) []) (.tcons (.imm true .bool r.1) .tnil)),[],[⟨false,.il,.own,r.2⟩]⟩
theorem aql:∀(zp0:Bool)(p0:(Int×(Int×Unit)))(p1:Int)(p2:(List (List Int))),bJ mo atm ⟨[(.imm true aL p0),(.i p1),(.imm zp0 (.sl .il) p2)],[]⟩=(XQ p0 p1 p2).run fun r=>some (Zw zp0 p0 p1 p2 r):=fun _ _ _ _=>by kernel_rfl
def atl (av:List AV) (rs:List Root):Tre au:=
 aC av fun a0_ av0=>
 aC av0 fun a1_ av1=>
 aC av1 fun a2_ av2=>
 aM av2<|
 aM rs<|
 ay true aL a0_ fun d1=>
 ay true .n a1_ fun d2=>
 aZ (.sl .il) a2_ fun z4 d3=>
 .mat (zK d1 d2 d3) fun r=>.ret (Zw z4 d1 d2 d3 r)
def ahq:Ctr:=dD [] atl
theorem aqm:Contract Tryz.prog .none 57 ahq:=aD (V:=mo) aW (ak aiQ aEP (ak asJ aEQ aH)) Tryz.func57 (bF (n:=4) fun k hk=>by
 match k,hk with
 |0,_=>exact bH (id:=4) aiW
 |1,_=>exact bH (id:=7) aiX
 |2,_=>exact bH (id:=11) agb
 |3,_=>exact bH (id:=17) agc) fun _ _ _=>aK fun _ _=>aK fun _ _=>aK fun _ _=>bf<|bf<|aJ fun _=>aJ fun _=>bY fun _ _=>fun h=>by intros;subst_vars;exact bn (aql _ _ _ _) h
def vY (aU:List Int):Int→Tre (Int ⊕ Int):=fun s2=>
 .cond (decide (s2>0))
  (.ite (0≤aI .i64 (s2-1)∧aI .i64 (s2-1)<(aU.length:Int))<|
  .mat (aU[(aI .i64 (s2-1)).toNat]?) fun x1=>
  .cond (decide (x1=0))
   (.ret (.inl (aI .i64 (s2-1))))
   (.ret (.inr s2)))
  (.ret (.inr s2))
def agf (p0:List Int):Tre (List Int):=
 .mat (aO (vY p0) (p0.length:Int)) fun l2=>
 .ite (0≤(0:Int)∧(0:Int)≤l2∧l2≤(p0.length:Int))<|
 let v3:=(p0.drop 0).take (l2-0).toNat
 .mat (fT v3) fun r4=>
 .ret r4
def E9 (p0:List Int):Option (List Int):=(agf p0).run some
-- more
theorem aow{l:List Nat}(hl2:l.length≤1000):E9 (aQ l)=some (aQ (cB l)):=by
 have htl:=iP l
 have hlen:=aS l
 have hm:∀n,0<n→n≤l.length→aI .i64 ((n:Int)-1)=((n-1:Nat):Int):=fun n h1 h2=>gQ h1 (by omega)
 have hx:∀n,0<n→n≤l.length→(aQ l)[n-1]?=some (cf l (n-1):Int):=fun n h1 h2=>dL (eO (by omega))
 unfold E9 agf
 rw [ah (show aO (vY (aQ l)) ((aQ l).length:Int)=some (((cB l).length:Nat):Int) from ?_)]
 ·rw [Tre.run_ite,if_pos (by omega)]
  dsimp only
  rw [show ((((cB l).length:Nat):Int)-0).toNat=(cB l).length by omega,List.drop_zero,←XC,aef,ah (show fT (aQ (cB l))=some _ from FH (by rw [aS];omega)),Tre.aF]
 have h0:((aQ l).length:Int)=((l.length-0:Nat):Int):=by rw [hlen];omega
 rw [h0]
 refine dh (fun i=>((l.length-i:Nat):Int)) (l.length-(cB l).length) _ (fun i hi=>?_) ?_
 ·unfold vY
  rw [Tre.aA,decide_eq_true (by omega),cond_true,hm _ (by omega) (by omega),dN (hx _ (by omega) (by omega)),Tre.aA,decide_eq_true (by rw [Ct (by omega)];rfl),cond_true,Tre.aF,Nat.sub_sub]
 ·rw [show l.length-(l.length-(cB l).length)=(cB l).length by omega]
  unfold vY
  by_cases hz:(cB l).length=0
  ·rw [Tre.aA,decide_eq_false (by omega),cond_false,Tre.aF]
  ·have h1:=(PE l).resolve_left hz
   rw [Tre.aA,decide_eq_true (by omega),cond_true,hm _ (by omega) htl,dN (hx _ (by omega) htl),Tre.aA,decide_eq_false (by omega),cond_false,Tre.aF]
def MB:Env:=⟨tau,[(108,Db)],[]⟩
def ahs:Code:=(Tryz.f73.body).getD .skip
def Tj (eH:Bool) (aU:List Int):Int→St:=fun x=>bP [(0,(.imm eH .il aU)),(3,(.i x))] []
def Pv (eH:Bool) (aU:List Int):Int→Ex×St:=fun x=>(.exit 0,bP [(0,(.imm eH .il aU)),(3,(.i x))] [])
def al5 (s:St):Tre (Ex×St):=
 aZ .il (s.tmps 0) fun z3 d2=>
 ay true .n (s.tmps 3) fun d5=>
 .mat (aO (vY d2) d5) fun x=>.ret (Pv z3 d2 x)
def Bt:bq:=⟨([0,3],[]),([0,3],[]),al5⟩
def Xi:List (Nat×bq):=[(2,Bt)]
theorem ad2:∀(eH:Bool)(aU:List Int)(x:Int)(c:St→Option (Ex×St)),den MB Xi (aT ahs 0) (Tj eH aU x) (bR Bt.kp Bt.kx c)=(vY aU x).run (bS (Tj eH aU) (Pv eH aU) c):=fun _ _ _ _=>by
 kernel_rfl
theorem aiZ:bQ MB Xi (aT ahs 0) Bt:=bX fun _ _ _=>bY fun _ _=>aJ fun _=>fun h e4 e1=>bO (ad2 _ _) h (by subst_vars;exact aP rfl rfl ⟨e1,e4,trivial⟩ trivial)
def ato:FnI:=fnI Tryz.f73 Xi
def Zz (_:Bool) (_:List Int):(List Int)→au:=fun r=>⟨(.ref (1,0) []),[],[⟨false,.il,.own,r⟩]⟩
theorem aqn:∀(zp0:Bool)(p0:List Int),bJ MB ato ⟨[(.imm zp0 .il p0)],[]⟩=(agf p0).run fun r=>some (Zz zp0 p0 r):=fun _ _=>by kernel_rfl
def atn (av:List AV) (rs:List Root):Tre au:=
 aC av fun a0_ av0=>
 aM av0<|
 aM rs<|
 aZ .il a0_ fun z2 d1=>
 .mat (E9 d1) fun r=>.ret (Zz z2 d1 r)
def aht:Ctr:=dD [] atn
theorem aqo:Contract Tryz.prog .none 73 aht:=aD (V:=MB) aW (ak EP aeD aH) Tryz.func73 (bF (n:=1) fun k hk=>by
 match k,hk with
 |0,_=>exact bH (id:=2) aiZ) fun _ _ _=>aK fun _ _=>bf<|bf<|bY fun _ _=>fun h=>by intros;subst_vars;exact bn (aqn _ _) h
def jS (aU:List Int) (dA:(Int×(Int×Unit))):Int→Tre (Int ⊕ (Bool ⊕ Unit)):=fun s2=>
 .cond (decide (s2<(aU.length:Int)))
  (.ite (0≤s2∧s2<(aU.length:Int))<|
  .mat (aU[s2.toNat]?) fun x1=>
  .mat (uX dA) fun r2=>
  let v3:=inR x1 0 (aI .i64 (r2-1))
  .cond (!v3)
   (.ret (.inr (.inl false)))
   (.ret (.inl (aI .i64 (s2+1)))))
  (.ret (.inr (.inr ())))
def Nr (p0:(Int×(Int×Unit))) (p1:List Int):Tre Bool:=
 .mat (aO (jS p1 p0) 0) fun l4=>
 .alt l4
  (fun a5=>
   .ret a5)
  (fun _=>
   .ret true)
def xZ (p0:(Int×(Int×Unit))) (p1:List Int):Option Bool:=(Nr p0 p1).run some
def yg:Env:=⟨tau,[(87,ES),(86,zB)],[]⟩
def SL:Code:=(Tryz.f140.body).getD .skip
def wQ (eH:Bool) (aU:List Int) (dA:(Int×(Int×Unit))):Int→St:=fun x=>bP [(1,(.imm eH .il aU)),(2,(.ptr (4,0) [])),(5,(.i x))] [((4,0),some ⟨true,aL,.own,dA⟩)]
def og (_:Bool) (_:List Int) (_:(Int×(Int×Unit))):(Bool ⊕ Unit)→Ex×St
 |.inl x=>(.ret,bP [(4,(.imm true .bool x))] [])
 |.inr _=>(.exit 0,bP [(4,.dead)] [])
def JQ (s:St):Tre (Ex×St):=
 aZ .il (s.tmps 1) fun z3 d2=>
 eF (4,0) [] (s.tmps 2)<|
 ay true .n (s.tmps 5) fun d6=>
 bg true aL (s.roots (4,0)) fun m8 d9=>
 asM .own m8<|
 .mat (aO (jS d2 d9) d6) fun x=>.alt x (fun a0=>.ret (og z3 d2 d9 (.inl a0))) (fun b0=>.ret (og z3 d2 d9 (.inr b0)))
def mP:bq:=⟨([1,2,5],[(4,0)]),([4],[]),JQ⟩
def FT:List (Nat×bq):=[(2,mP)]
theorem Ug:∀(eH:Bool)(aU:List Int)(dA:(Int×(Int×Unit)))(x:Int)(c:St→Option (Ex×St)),den yg FT (aT SL 0) (wQ eH aU dA x) (bR mP.kp mP.kx c)=(jS aU dA x).run (bS (wQ eH aU dA) (og eH aU dA) c):=fun _ _ _ _ _=>by
 kernel_rfl
theorem YB:bQ yg FT (aT SL 0) mP:=fK fun s e s' h=>by
 generalize hs:restrict mP.kp s=s1 at h
 have h:(JQ s1).run some=some (e,s'):=h
 obtain ⟨z3,d2,e1,h_0⟩:=fA h
 obtain ⟨e4,h_1⟩:=Im h_0
 obtain ⟨d6,e5,h_2⟩:=cu h_1
 obtain ⟨m8,d9,e7,h_3⟩:=fQ h_2
 obtain ⟨rfl,h_4⟩:=rO h_3
 obtain ⟨y,hy,hz⟩:=gN h_4
 refine ⟨_,_,wQ z3 d2 d9,og z3 d2 d9,jS d2 d9,d6,y,?_,hy,?_,Ug z3 d2 d9⟩
 ·subst hs;exact aP (T:=[(1,(.imm z3 .il d2)),(2,(.ptr (4,0) [])),(5,(.i d6))]) (U:=[((4,0),some ⟨true,aL,.own,d9⟩)]) rfl rfl ⟨e1,e4,e5,trivial⟩ ⟨e7,trivial⟩
 ·rcases y with x|x<;>exact Option.some.inj hz
def aiK:FnI:=fnI Tryz.f140 FT
def Mh (_:Bool) (_:(Int×(Int×Unit))) (_:List Int):Bool→au:=fun r=>⟨(.imm true .bool r),[],[]⟩
theorem afS:∀(zp0:Bool)(p0:(Int×(Int×Unit)))(p1:List Int),bJ yg aiK ⟨[(.imm true aL p0),(.imm zp0 .il p1)],[]⟩=(Nr p0 p1).run fun r=>some (Mh zp0 p0 p1 r):=fun _ _ _=>by kernel_rfl
def aiJ (av:List AV) (rs:List Root):Tre au:=
 aC av fun a0_ av0=>
 aC av0 fun a1_ av1=>
 aM av1<|
 aM rs<|
 ay true aL a0_ fun d1=>
 aZ .il a1_ fun z3 d2=>
 .mat (xZ d1 d2) fun r=>.ret (Mh z3 d1 d2 r)
def SN:Ctr:=dD [] aiJ
theorem afT:Contract Tryz.prog .none 140 SN:=aD (V:=yg) aW (ak HZ avI (ak yO ajP aH)) Tryz.func140 (bF (n:=1) fun k hk=>by
 match k,hk with
 |0,_=>exact bH (id:=2) YB) fun _ _ _=>aK fun _ _=>aK fun _ _=>bf<|bf<|aJ fun _=>bY fun _ _=>fun h=>by intros;subst_vars;exact bn (afS _ _ _) h
def ap7 (p0:(Int×(Int×Unit))) (p1:List Int):Tre Bool:=
 .cond (decide ((p1.length:Int)≤12))
  (.mat (xZ p0 p1) fun r1=>
  .cond r1
   (.cond (decide ((p1.length:Int)=0))
    (.ret true)
    (let v2:=aI .i64 ((p1.length:Int)-1)
    .ite (0≤v2∧v2<(p1.length:Int))<|
    .mat (p1[v2.toNat]?) fun x3=>
    .ret (!decide (x3=0))))
   (.ret false))
  (.ret false)
def XP (p0:(Int×(Int×Unit))) (p1:List Int):Option Bool:=(ap7 p0 p1).run some
def aoq:Env:=⟨tau,[(140,SN)],[]⟩
def ax5:FnI:=fnI Tryz.f139 []
def ahg (_:Bool) (_:(Int×(Int×Unit))) (_:List Int):Bool→au:=fun r=>⟨(.imm true .bool r),[],[]⟩
theorem au7:∀(zp0:Bool)(p0:(Int×(Int×Unit)))(p1:List Int),bJ aoq ax5 ⟨[(.imm true aL p0),(.imm zp0 .il p1)],[]⟩=(ap7 p0 p1).run fun r=>some (ahg zp0 p0 p1 r):=fun _ _ _=>by kernel_rfl
def ax4 (av:List AV) (rs:List Root):Tre au:=
 aC av fun a0_ av0=>
 aC av0 fun a1_ av1=>
 aM av1<|
 aM rs<|
 ay true aL a0_ fun d1=>
 aZ .il a1_ fun z3 d2=>
 .mat (XP d1 d2) fun r=>.ret (ahg z3 d1 d2 r)
def aor:Ctr:=dD [] ax4
theorem au8:Contract Tryz.prog .none 139 aor:=aD (V:=aoq) aW (ak afT aDq aH) Tryz.func139 bI fun _ _ _=>aK fun _ _=>aK fun _ _=>bf<|bf<|aJ fun _=>bY fun _ _=>fun h=>by intros;subst_vars;exact bn (au7 _ _ _) h
def Nj (p0:(Int×(Int×Unit))) (p1:List Int):Tre Bool:=
 .mat (Dc p0) fun r1=>
 .cond r1
  (.mat (XP p0 p1) fun r2=>
  .ret r2)
  (.ret false)
def rU (p0:(Int×(Int×Unit))) (p1:List Int):Option Bool:=(Nj p0 p1).run some
def SA:Env:=⟨tau,[(83,XO),(139,aor)],[]⟩
def aiy:FnI:=fnI Tryz.f127 []
def LU (_:Bool) (_:(Int×(Int×Unit))) (_:List Int):Bool→au:=fun r=>⟨(.imm true .bool r),[],[]⟩
theorem afF:∀(zp0:Bool)(p0:(Int×(Int×Unit)))(p1:List Int),bJ SA aiy ⟨[(.imm true aL p0),(.imm zp0 .il p1)],[]⟩=(Nj p0 p1).run fun r=>some (LU zp0 p0 p1 r):=fun _ _ _=>by kernel_rfl
def aix (av:List AV) (rs:List Root):Tre au:=
 aC av fun a0_ av0=>
 aC av0 fun a1_ av1=>
 aM av1<|
 aM rs<|
 ay true aL a0_ fun d1=>
 aZ .il a1_ fun z3 d2=>
 .mat (rU d1 d2) fun r=>.ret (LU z3 d1 d2 r)
def SB:Ctr:=dD [] aix
theorem afG:Contract Tryz.prog .none 127 SB:=aD (V:=SA) aW (ak aa0 aza (ak au8 aDp aH)) Tryz.func127 bI fun _ _ _=>aK fun _ _=>aK fun _ _=>bf<|bf<|aJ fun _=>bY fun _ _=>fun h=>by intros;subst_vars;exact bn (afF _ _ _) h
def afR (p0:(Int×(Int×Unit))) (p1:List Int) (p2:List Int):Tre Int:=
 .mat (rU p0 p1) fun r1=>
 .cond (!r1)
  (.ret 1)
  (.mat (rU p0 p2) fun r2=>
  .cond (!r2)
   (.ret 1)
   (.cond (decide ((p2.length:Int)=0))
    (.ret 4)
    (.ret 0)))
def Mg (p0:(Int×(Int×Unit))) (p1:List Int) (p2:List Int):Option Int:=(afR p0 p1 p2).run some
def ahc:Env:=⟨tau,[(127,SB)],[]⟩
def as3:FnI:=fnI Tryz.f106 []
def Zo (_:Bool) (_:Bool) (_:(Int×(Int×Unit))) (_:List Int) (_:List Int):Int→au:=fun r=>⟨(.i r),[],[]⟩
theorem ap3:∀(zp0 zp1:Bool)(p0:(Int×(Int×Unit)))(p1 p2:List Int),bJ ahc as3 ⟨[(.imm true aL p0),(.imm zp0 .il p1),(.imm zp1 .il p2)],[]⟩=(afR p0 p1 p2).run fun r=>some (Zo zp0 zp1 p0 p1 p2 r):=fun _ _ _ _ _=>by kernel_rfl
def as2 (av:List AV) (rs:List Root):Tre au:=
 aC av fun a0_ av0=>
 aC av0 fun a1_ av1=>
 aC av1 fun a2_ av2=>
 aM av2<|
 aM rs<|
 ay true aL a0_ fun d1=>
 aZ .il a1_ fun z3 d2=>
 aZ .il a2_ fun z5 d4=>
 .mat (Mg d1 d2 d4) fun r=>.ret (Zo z3 z5 d1 d2 d4 r)
def ahd:Ctr:=dD [] as2
theorem ap4:Contract Tryz.prog .none 106 ahd:=aD (V:=ahc) aW (ak afG aDe aH) Tryz.func106 bI fun _ _ _=>aK fun _ _=>aK fun _ _=>aK fun _ _=>bf<|bf<|aJ fun _=>bY fun _ _=>bY fun _ _=>fun h=>by intros;subst_vars;exact bn (ap3 _ _ _ _ _) h
def Qw (p0:(Int×(Int×Unit))) (p1:Int) (p2:Int):Tre Int:=
 .ifn (p0.1=0)<|
 let v1:=aI .i64 (p0.1-(Int.tmod p2 p0.1))
 .ifn (p0.1=0)<|
 .mat (gG p0 p1 (Int.tmod v1 p0.1)) fun r2=>
 .ret r2
def Ag (p0:(Int×(Int×Unit))) (p1:Int) (p2:Int):Option Int:=(Qw p0 p1 p2).run some
-- more
theorem azz{f:TF3}(hf:aN f=true){x:Nat}(hx:x<(FOf f hf).q)(k:Nat):Ag f (x:Int) (k:Int)=some (((FOf f hf).sqn (Zd f.1.toNat k) x:Nat):Int):=by
 obtain ⟨h1,h2,h3,h4⟩:=aAU hf
 have hm:Int.tmod (k:Int) f.1=((k%f.1.toNat:Nat):Int):=by
  conv=>lhs;rw [h1]
  exact (Int.ofNat_tmod k f.1.toNat).symm
 have hk:k%f.1.toNat<f.1.toNat:=Nat.mod_lt _ (by omega)
 have h5:aI .i64 (f.1-Int.tmod (k:Int) f.1)=((f.1.toNat-k%f.1.toNat:Nat):Int):=by
  rw [hm,dP (by omega) (by omega)];omega
 have hm2:Int.tmod ((f.1.toNat-k%f.1.toNat:Nat):Int) f.1=((Zd f.1.toNat k:Nat):Int):=by
  conv=>lhs;rw [h1]
  exact (Int.ofNat_tmod _ f.1.toNat).symm
 unfold Ag Qw
 rw [Tre.Rf,if_neg h2]
 dsimp only
 rw [h5,Tre.Rf,if_neg h2,hm2,ah (akF hf hx _),Tre.aF]
def U6:Env:=⟨tau,[(62,mD)],[]⟩
def aj7:FnI:=fnI Tryz.f78 []
def N7 (_:(Int×(Int×Unit))) (_:Int) (_:Int):Int→au:=fun r=>⟨(.i r),[],[]⟩
theorem ahN:∀(p0:(Int×(Int×Unit)))(p1 p2:Int),bJ U6 aj7 ⟨[(.imm true aL p0),(.i p1),(.i p2)],[]⟩=(Qw p0 p1 p2).run fun r=>some (N7 p0 p1 p2 r):=fun _ _ _=>by kernel_rfl
def aj6 (av:List AV) (rs:List Root):Tre au:=
 aC av fun a0_ av0=>
 aC av0 fun a1_ av1=>
 aC av1 fun a2_ av2=>
 aM av2<|
 aM rs<|
 ay true aL a0_ fun d1=>
 ay true .n a1_ fun d2=>
 ay true .n a2_ fun d3=>
 .mat (Ag d1 d2 d3) fun r=>.ret (N7 d1 d2 d3 r)
def U7:Ctr:=dD [] aj6
theorem ahO:Contract Tryz.prog .none 78 U7:=aD (V:=U6) aW (ak nQ ari aH) Tryz.func78 bI fun _ _ _=>aK fun _ _=>aK fun _ _=>aK fun _ _=>bf<|bf<|aJ fun _=>aJ fun _=>aJ fun _=>fun h=>by intros;subst_vars;exact bn (ahN _ _ _) h
def afV (p0:(Int×(Int×Unit))) (p1:Int) (p2:Int):Tre Int:=
 .ifn (p0.1=0)<|
 let v1:=aI .i64 (p0.1-(Int.tmod p2 p0.1))
 .mat (ko p0 p1 v1) fun r2=>
 .ret r2
def Mk (p0:(Int×(Int×Unit))) (p1:Int) (p2:Int):Option Int:=(afV p0 p1 p2).run some
-- more
theorem aAp{f:TF3}(hf:aN f=true){x:Nat}(hx:x<(FOf f hf).q)(k:Nat):Mk f (x:Int) (k:Int)=some (((FOf f hf).sqn (Zd f.1.toNat k) x:Nat):Int):=by
 obtain ⟨h1,h2,h3,h4⟩:=aAU hf
 have hm:Int.tmod (k:Int) f.1=((k%f.1.toNat:Nat):Int):=by
  conv=>lhs;rw [h1]
  exact (Int.ofNat_tmod k f.1.toNat).symm
 have hk:k%f.1.toNat<f.1.toNat:=Nat.mod_lt _ (by omega)
 have h5:aI .i64 (f.1-Int.tmod (k:Int) f.1)=((f.1.toNat-k%f.1.toNat:Nat):Int):=by
  rw [hm,dP (by omega) (by omega)];omega
 unfold Mk afV
 rw [Tre.Rf,if_neg h2]
 dsimp only
 rw [h5,ah (agm hf hx _),Tre.aF]
 unfold Zd
 rw [aea hf hx]
def ahh:Env:=⟨tau,[(56,sI)],[]⟩
def as7:FnI:=fnI Tryz.f128 []
def Zq (_:(Int×(Int×Unit))) (_:Int) (_:Int):Int→au:=fun r=>⟨(.i r),[],[]⟩
theorem ap8:∀(p0:(Int×(Int×Unit)))(p1 p2:Int),bJ ahh as7 ⟨[(.imm true aL p0),(.i p1),(.i p2)],[]⟩=(afV p0 p1 p2).run fun r=>some (Zq p0 p1 p2 r):=fun _ _ _=>by kernel_rfl
def as6 (av:List AV) (rs:List Root):Tre au:=
 aC av fun a0_ av0=>
 aC av0 fun a1_ av1=>
 aC av1 fun a2_ av2=>
 aM av2<|
 aM rs<|
 ay true aL a0_ fun d1=>
 ay true .n a1_ fun d2=>
 ay true .n a2_ fun d3=>
 .mat (Mk d1 d2 d3) fun r=>.ret (Zq d1 d2 d3 r)
def ahi:Ctr:=dD [] as6
theorem ap9:Contract Tryz.prog .none 128 ahi:=aD (V:=ahh) aW (ak uY arh aH) Tryz.func128 bI fun _ _ _=>aK fun _ _=>aK fun _ _=>aK fun _ _=>bf<|bf<|aJ fun _=>aJ fun _=>aJ fun _=>fun h=>by intros;subst_vars;exact bn (ap8 _ _ _) h
def afY (p0:Int) (p1:Int):Tre (List Int):=
 .ite ((.n:K)=.n∧0≤aI .i64 (p1+1)∧aI .i64 (p1+1)=aI .i64 (p1+1)∧aI .i64 (p1+1)*(8:Nat)≤140737488355328∧1≤8)<|
 .ite (0≤p1∧p1<((List.replicate (aI .i64 (p1+1)).toNat (0:Int)).length:Int))<|
 .mat ((List.replicate (aI .i64 (p1+1)).toNat (0:Int))[p1.toNat]?) fun _=>
 let v2:=(List.replicate (aI .i64 (p1+1)).toNat (0:Int)).set p1.toNat p0
 .ret v2
def Ml (p0:Int) (p1:Int):Option (List Int):=(afY p0 p1).run some
def ahj:Env:=⟨tau,[],[]⟩
def atb:FnI:=fnI Tryz.f129 []
def Zr (_:Int) (_:Int):(List Int)→au:=fun r=>⟨(.ref (1,0) []),[],[⟨false,.il,.own,r⟩]⟩
theorem aqa:∀(p0 p1:Int),bJ ahj atb ⟨[(.i p0),(.i p1)],[]⟩=(afY p0 p1).run fun r=>some (Zr p0 p1 r):=fun _ _=>by kernel_rfl
def ata (av:List AV) (rs:List Root):Tre au:=
 aC av fun a0_ av0=>
 aC av0 fun a1_ av1=>
 aM av1<|
 aM rs<|
 ay true .n a0_ fun d1=>
 ay true .n a1_ fun d2=>
 .mat (Ml d1 d2) fun r=>.ret (Zr d1 d2 r)
def ahk:Ctr:=dD [] ata
theorem aqb:Contract Tryz.prog .none 129 ahk:=aD (V:=ahj) aW aH Tryz.func129 bI fun _ _ _=>aK fun _ _=>aK fun _ _=>bf<|bf<|aJ fun _=>aJ fun _=>fun h=>by intros;subst_vars;exact bn (aqa _ _) h
def Ic (bL:List Int) (cZ:Int):(Int×(List Int))→Tre ((Int×(List Int)) ⊕ (List Int)):=fun s4=>
 .cond (decide (s4.1<cZ))
  (.ite (0≤s4.1∧s4.1<(bL.length:Int))<|
  .mat (bL[s4.1.toNat]?) fun x3=>
  .ite (0≤s4.1∧s4.1<(s4.2.length:Int))<|
  .mat (s4.2[s4.1.toNat]?) fun x4=>
  .ite (0≤s4.1∧s4.1<(s4.2.length:Int))<|
  .mat (s4.2[s4.1.toNat]?) fun _=>
  let v6:=s4.2.set s4.1.toNat (jw .i64 x4 x3)
  .ret (.inl (aI .i64 (s4.1+1),v6)))
  (.ret (.inr s4.2))
def auy (p0:List Int) (p1:List Int):Tre (List Int):=
 let v1:=if (p0.length:Int)<(p1.length:Int) then (p1.length:Int) else (p0.length:Int)
 .ite ((.n:K)=.n∧0≤v1∧v1=v1∧v1*(8:Nat)≤140737488355328∧1≤8)<|
 let v2:=p0.take (List.replicate v1.toNat (0:Int)).length++(List.replicate v1.toNat (0:Int)).drop p0.length
 .mat (aO (Ic p1 (p1.length:Int)) (0,v2)) fun l7=>
 .mat (sw l7) fun r8=>
 .alt r8
  (fun a9=>
   .ret a9)
  (fun b10=>
   .ret ((b10.2.2.drop b10.1).take b10.2.1))
def Jp (p0:List Int) (p1:List Int):Option (List Int):=(auy p0 p1).run some
-- more
theorem ayv{f:TF3}(hf:aN f=true){A Q:List Nat}(hA:inL (FOf f hf) A)(hQ:inL (FOf f hf) Q)(hl:Q.length≤A.length){i:Nat}(hi:i<Q.length) :
  (aQ (jC A (Q.take i)))[i]?=some (cf A i:Int)∧(aQ Q)[i]?=some (cf Q i:Int)∧jw .i64 (cf A i:Int) (cf Q i:Int)=((cf A i^^^cf Q i:Nat):Int) ∧
  (aQ (jC A (Q.take i))).set i (((cf A i^^^cf Q i:Nat):Int))=aQ (jC A (Q.take (i+1))):=by
 have hti:(Q.take i).length=i:=by rw [List.length_take];omega
 obtain ⟨h1,h2⟩:=aqG (Q.take i) A (cf Q i) (by omega)
 rw [hti] at h1 h2
 refine ⟨dL h1,dL (eO hi),Xq hf (kC hA i) (kC hQ i),?_⟩
 rw [←Vz,h2,List.take_add_one,eO hi];rfl
theorem arT{f:TF3}(hf:aN f=true){P Q:List Nat}(hP:inL (FOf f hf) P)(hQ:inL (FOf f hf) Q)(hp:P.length≤1000)(hq:Q.length≤1000):Jp (aQ P) (aQ Q)=some (aQ (cB (jC P Q))):=by
 have hm:(if ((aQ P).length:Int)<((aQ Q).length:Int) then ((aQ Q).length:Int) else ((aQ P).length:Int))=((max P.length Q.length:Nat):Int):=by
  rw [aS,aS];split<;>omega
 have hv:(aQ P).take (List.replicate (max P.length Q.length) (0:Int)).length++(List.replicate (max P.length Q.length) (0:Int)).drop (aQ P).length=aQ (oM (max P.length Q.length) P):=by
  rw [List.length_replicate,List.take_of_length_le (by rw [aS];omega),List.drop_replicate,aS]
  unfold oM
  rw [pW,yL]
 have hpl:(oM (max P.length Q.length) P).length=max P.length Q.length:=V8 (by omega)
 have hpi:inL (FOf f hf) (oM (max P.length Q.length) P):=acs hP fun x hx=>by rw [(List.mem_replicate.1 hx).2];exact FO.zlt _
 obtain ⟨r,hr1,hr2⟩:=afa (l:=jC (oM (max P.length Q.length) P) Q) (by rw [NC];omega)
 unfold Jp auy
 dsimp only
 rw [hm,Tre.run_ite,if_pos ⟨rfl,by omega,rfl,by omega,by omega⟩,Int.toNat_natCast,hv]
 rw [ah (show aO (Ic (aQ Q) ((aQ Q).length:Int)) (0,aQ (oM (max P.length Q.length) P))=some (aQ (jC (oM (max P.length Q.length) P) Q)) from ?_),ah hr1]
 ·rw [←aqF (max P.length Q.length),←hr2]
  cases r<;>rfl
 have h0:oM (max P.length Q.length) P=jC (oM (max P.length Q.length) P) (Q.take 0):=by rw [List.take_zero,ajr]
 conv=>lhs;rw [h0]
 refine dh (fun i=>((i:Int),aQ (jC (oM (max P.length Q.length) P) (Q.take i)))) Q.length _ (fun i hi=>?_) ?_
 ·obtain ⟨h1,h2,h3,h4⟩:=ayv hf hpi hQ (by omega) hi
  unfold Ic
  dsimp only
  rw [dX h2,dN h1,dN h1,h3,Int.toNat_natCast,h4,Tre.aF,aR (by omega)]
 ·unfold Ic
  dsimp only
  rw [aS,dF,Tre.aF,List.take_length]
def acd:Env:=⟨tau,[(48,DJ)],[]⟩
def arB:Code:=(Tryz.f77.body).getD .skip
def ace (kK:Bool) (bL:List Int) (cZ:Int):(Int×(List Int))→St:=fun x=>bP [(5,(.ref (7,0) [])),(17,(.imm kK .il bL)),(18,(.i cZ)),(19,(.i x.1))] [((7,0),some ⟨false,.il,.own,x.2⟩)]
def YW (_:Bool) (_:List Int) (_:Int):(List Int)→Ex×St:=fun x=>(.exit 0,bP [(5,(.ref (7,0) []))] [((7,0),some ⟨false,.il,.own,x⟩)])
def arD (s:St):Tre (Ex×St):=
 dI (7,0) [] (s.tmps 5)<|
 aZ .il (s.tmps 17) fun z4 d3=>
 ay true .n (s.tmps 18) fun d6=>
 ay true .n (s.tmps 19) fun d8=>
 bg false .il (s.roots (7,0)) fun m10 d11=>
 asM .own m10<|
 .mat (aO (Ic d3 d6) (d8,d11)) fun x=>.ret (YW z4 d3 d6 x)
def Ll:bq:=⟨([5,17,18,19],[(7,0)]),([5],[(7,0)]),arD⟩
def aki:List (Nat×bq):=[(4,Ll)]
theorem akj:∀(kK:Bool)(bL:List Int)(cZ:Int)(x:(Int×(List Int)))(c:St→Option (Ex×St)),den acd aki (aT arB 0) (ace kK bL cZ x) (bR Ll.kp Ll.kx c)=(Ic bL cZ x).run (bS (ace kK bL cZ) (YW kK bL cZ) c):=fun _ _ _ _ _=>by
 kernel_rfl
theorem ao4:bQ acd aki (aT arB 0) Ll:=bX fun _ _ _=>fI<|bY fun _ _=>aJ fun _=>aJ fun _=>bV fun _ _=>tM<|fun h _ e9 e7 e5 e2 e1=>bO (akj _ _ _) h (by subst_vars;exact aP rfl rfl ⟨e1,e2,e5,e7,trivial⟩ ⟨e9,trivial⟩)
def azq:FnI:=fnI Tryz.f77 aki
def akk (_:Bool) (_:Bool) (_:List Int) (_:List Int):(List Int)→au:=fun r=>⟨(.ref (1,0) []),[],[⟨false,.il,.own,r⟩]⟩
theorem axu:∀(zp0 zp1:Bool)(p0 p1:List Int),bJ acd azq ⟨[(.imm zp0 .il p0),(.imm zp1 .il p1)],[]⟩=(auy p0 p1).run fun r=>some (akk zp0 zp1 p0 p1 r):=fun _ _ _ _=>by kernel_rfl
def azp (av:List AV) (rs:List Root):Tre au:=
 aC av fun a0_ av0=>
 aC av0 fun a1_ av1=>
 aM av1<|
 aM rs<|
 aZ .il a0_ fun z2 d1=>
 aZ .il a1_ fun z4 d3=>
 .mat (Jp d1 d3) fun r=>.ret (akk z2 z4 d1 d3 r)
def arC:Ctr:=dD [] azp
theorem axv:Contract Tryz.prog .none 77 arC:=aD (V:=acd) aW (ak Jq avG aH) Tryz.func77 (bF (n:=1) fun k hk=>by
 match k,hk with
 |0,_=>exact bH (id:=4) ao4) fun _ _ _=>aK fun _ _=>aK fun _ _=>bf<|bf<|bY fun _ _=>bY fun _ _=>fun h=>by intros;subst_vars;exact bn (axu _ _ _ _) h
def zD (aU:List Int):(List Int)→Tre ((List Int) ⊕ (List Int)):=fun s2=>
 .cond (decide ((s2.length:Int)<(aU.length:Int)))
  (.ite ((s2.length+1)*8≤bM∧1≤8)<|
  .ret (.inl (s2++([0]))))
  (.ret (.inr s2))
def zF (fG:List Int):(Int×(List Int))→Tre ((Int×(List Int)) ⊕ (List Int)):=fun s5=>
 .cond (decide (s5.1<(fG.length:Int)))
  (.ite (0≤s5.1∧s5.1<(s5.2.length:Int))<|
  .mat (s5.2[s5.1.toNat]?) fun x3=>
  .ite (0≤s5.1∧s5.1<(fG.length:Int))<|
  .mat (fG[s5.1.toNat]?) fun x4=>
  .ite (0≤s5.1∧s5.1<(s5.2.length:Int))<|
  .mat (s5.2[s5.1.toNat]?) fun _=>
  let v6:=s5.2.set s5.1.toNat (jw .i64 x3 x4)
  .ret (.inl (aI .i64 (s5.1+1),v6)))
  (.ret (.inr s5.2))
def alN (p0:List Int) (p1:List Int):Tre (List Int):=
 .mat (fT p0) fun r1=>
 .mat (aO (zD p1) r1) fun l2=>
 .mat (aO (zF p1) (0,l2)) fun l7=>
 .mat (EX l7) fun r8=>
 .ret r8
def JU (p0:List Int) (p1:List Int):Option (List Int):=(alN p0 p1).run some
-- more
theorem awK{f:TF3}(hf:aN f=true){P Q:List Nat}(hP:inL (FOf f hf) P)(hQ:inL (FOf f hf) Q)(hp:P.length≤1000)(hq:Q.length≤1000):JU (aQ P) (aQ Q)=some (aQ (cB (jC P Q))):=by
 have hpl:(oM Q.length P).length=max P.length Q.length:=by simp [oM];omega
 have hpi:inL (FOf f hf) (oM Q.length P):=acs hP fun x hx=>by rw [(List.mem_replicate.1 hx).2];exact FO.zlt _
 unfold JU alN
 rw [ah (show fT (aQ P)=some (aQ P) from FH (by rw [aS];omega))]
 rw [ah (show aO (zD (aQ Q)) (aQ P)=some (aQ (oM Q.length P)) from ?_)]
 ·rw [ah (show aO (zF (aQ Q)) (0,aQ (oM Q.length P))=some (aQ (jC (oM Q.length P) Q)) from ?_),ah (atw (by rw [NC];omega)),Tre.aF,aqF]
  have h0:oM Q.length P=jC (oM Q.length P) (Q.take 0):=by rw [List.take_zero,ajr]
  conv=>lhs;rw [h0]
  refine dh (fun i=>((i:Int),aQ (jC (oM Q.length P) (Q.take i)))) Q.length _ (fun i hi=>?_) ?_
  ·obtain ⟨h1,h2,h3,h4⟩:=ayv hf hpi hQ (by omega) hi
   unfold zF
   dsimp only
   rw [Tre.aA,decide_eq_true (by rw [aS];omega),cond_true,dN h1,dN h2,dN h1,h3,Int.toNat_natCast,h4,Tre.aF,aR (by omega)]
  ·unfold zF
   dsimp only
   rw [aS,dF,Tre.aF,List.take_length]
 ·have h0:aQ P=aQ (P++List.replicate 0 0):=by simp
  conv=>lhs;rw [h0]
  refine dh (fun i=>aQ (P++List.replicate i 0)) (Q.length-P.length) _ (fun i hi=>?_) ?_
  ·unfold zD
   rw [Tre.aA,decide_eq_true (by rw [aS,aS,List.length_append,List.length_replicate];omega),cond_true,Tre.run_ite,if_pos (by rw [aS,List.length_append,List.length_replicate];unfold bM;omega),Tre.aF]
   rw [List.replicate_succ',←List.append_assoc,pW (P++List.replicate i 0)]
   rfl
  ·unfold zD
   rw [Tre.aA,decide_eq_false (by rw [aS,aS,List.length_append,List.length_replicate];omega),cond_false,Tre.aF]
   rfl
def Dh:Env:=⟨tau,[(108,Db),(126,W9)],[]⟩
def Rt:Code:=(Tryz.f130.body).getD .skip
def WX (eH:Bool) (aU:List Int):(List Int)→St:=fun x=>bP [(1,(.imm eH .il aU)),(5,(.ref (7,0) []))] [((7,0),some ⟨false,.il,.own,x⟩)]
def SS (eH:Bool) (aU:List Int):(List Int)→Ex×St:=fun x=>(.exit 0,bP [(1,(.imm eH .il aU)),(5,(.ref (7,0) []))] [((7,0),some ⟨false,.il,.own,x⟩)])
def anh (s:St):Tre (Ex×St):=
 aZ .il (s.tmps 1) fun z3 d2=>
 dI (7,0) [] (s.tmps 5)<|
 bg false .il (s.roots (7,0)) fun m6 d7=>
 asM .own m6<|
 .mat (aO (zD d2) d7) fun x=>.ret (SS z3 d2 x)
def DV:bq:=⟨([1,5],[(7,0)]),([1,5],[(7,0)]),anh⟩
def WY (Xt:Bool) (fG:List Int):(Int×(List Int))→St:=fun x=>bP [(1,(.imm Xt .il fG)),(5,(.ref (7,0) [])),(6,(.i x.1))] [((7,0),some ⟨false,.il,.own,x.2⟩)]
def SV (_:Bool) (_:List Int):(List Int)→Ex×St:=fun x=>(.exit 2,bP [(5,(.ref (7,0) []))] [((7,0),some ⟨false,.il,.own,x⟩)])
def ani (s:St):Tre (Ex×St):=
 aZ .il (s.tmps 1) fun z3 d2=>
 dI (7,0) [] (s.tmps 5)<|
 ay true .n (s.tmps 6) fun d6=>
 bg false .il (s.roots (7,0)) fun m8 d9=>
 asM .own m8<|
 .mat (aO (zF d2) (d6,d9)) fun x=>.ret (SV z3 d2 x)
def DW:bq:=⟨([1,5,6],[(7,0)]),([5],[(7,0)]),ani⟩
def JR:List (Nat×bq):=[(2,DV),(5,DW)]
theorem afW:∀(eH:Bool)(aU x:List Int)(c:St→Option (Ex×St)),den Dh JR (aT Rt 0) (WX eH aU x) (bR DV.kp DV.kx c)=(zD aU x).run (bS (WX eH aU) (SS eH aU) c):=fun _ _ _ _=>by
 kernel_rfl
theorem alP:bQ Dh JR (aT Rt 0) DV:=bX fun _ _ _=>bY fun _ _=>fI<|bV fun _ _=>tM<|fun h _ e5 e4 e1=>bO (afW _ _) h (by subst_vars;exact aP rfl rfl ⟨e1,e4,trivial⟩ ⟨e5,trivial⟩)
theorem afX:∀(Xt:Bool)(fG:List Int)(x:(Int×(List Int)))(c:St→Option (Ex×St)),den Dh JR (aT Rt 1) (WY Xt fG x) (bR DW.kp DW.kx c)=(zF fG x).run (bS (WY Xt fG) (SV Xt fG) c):=fun _ _ _ _=>by
 kernel_rfl
theorem alQ:bQ Dh JR (aT Rt 1) DW:=bX fun _ _ _=>bY fun _ _=>fI<|aJ fun _=>bV fun _ _=>tM<|fun h _ e7 e5 e4 e1=>bO (afX _ _) h (by subst_vars;exact aP rfl rfl ⟨e1,e4,e5,trivial⟩ ⟨e7,trivial⟩)
def ava:FnI:=fnI Tryz.f130 JR
def adJ (_:Bool) (_:Bool) (_:List Int) (_:List Int):(List Int)→au:=fun r=>⟨(.ref (1,0) []),[],[⟨false,.il,.own,r⟩]⟩
theorem as8:∀(zp0 zp1:Bool)(p0 p1:List Int),bJ Dh ava ⟨[(.imm zp0 .il p0),(.imm zp1 .il p1)],[]⟩=(alN p0 p1).run fun r=>some (adJ zp0 zp1 p0 p1 r):=fun _ _ _ _=>by kernel_rfl
def au9 (av:List AV) (rs:List Root):Tre au:=
 aC av fun a0_ av0=>
 aC av0 fun a1_ av1=>
 aM av1<|
 aM rs<|
 aZ .il a0_ fun z2 d1=>
 aZ .il a1_ fun z4 d3=>
 .mat (JU d1 d3) fun r=>.ret (adJ z2 z4 d1 d3 r)
def alO:Ctr:=dD [] au9
theorem as9:Contract Tryz.prog .none 130 alO:=aD (V:=Dh) aW (ak EP aeD (ak adL ay7 aH)) Tryz.func130 (bF (n:=2) fun k hk=>by
 match k,hk with
 |0,_=>exact bH (id:=2) alP
 |1,_=>exact bH (id:=5) alQ) fun _ _ _=>aK fun _ _=>aK fun _ _=>bf<|bf<|bY fun _ _=>bY fun _ _=>fun h=>by intros;subst_vars;exact bn (as8 _ _ _ _) h
end Go.Proofs.YtihiobjhogpmdaaGreat
