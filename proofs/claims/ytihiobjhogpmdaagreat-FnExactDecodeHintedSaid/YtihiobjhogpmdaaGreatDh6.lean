/- Part 6 of the proof of FnExactDecodeHinted. -/
import Derived.Test.YtihiobjhogpmdaaGreatDh5
set_option maxRecDepth 100000
noncomputable section
namespace Go.Proofs.YtihiobjhogpmdaaGreat
open Go Go.Abs Go.Proofs
def jd (aU:List Int) (bG:Bool) (dA:Int) (bK:(Int×(Int×Unit))):((List Int)×(List Int))→Tre (((List Int)×(List Int)) ⊕ ((List Int)×(List Int))):=fun s2=>
 .cond (decide ((s2.2.length:Int) ≥ (aU.length:Int)))
  (let v3:=aI .i64 ((s2.2.length:Int)-(aU.length:Int))
  .ite ((.n:K)=.n∧0≤aI .i64 (v3+1)∧aI .i64 (v3+1)=aI .i64 (v3+1)∧aI .i64 (v3+1)*(8:Nat)≤140737488355328∧1≤8)<|
  let v4:=aI .i64 ((s2.2.length:Int)-1)
  .ite (0≤v4∧v4<(s2.2.length:Int))<|
  .mat (s2.2[v4.toNat]?) fun x5=>
  .cond bG
   (.ite (0≤dA∧dA<(aU.length:Int))<|
   .mat (aU[dA.toNat]?) fun x6=>
   .mat (gG bK x6 v3) fun r7=>
   .mat (dn bK r7) fun r8=>
   .mat (cO bK x5 r8) fun r9=>
   .ite (0≤v3∧v3<((List.replicate (aI .i64 (v3+1)).toNat (0:Int)).length:Int))<|
   .mat ((List.replicate (aI .i64 (v3+1)).toNat (0:Int))[v3.toNat]?) fun _=>
   let v11:=(List.replicate (aI .i64 (v3+1)).toNat (0:Int)).set v3.toNat r9
   .mat (jc bK v11 aU) fun r12=>
   .mat (Jp s2.2 r12) fun r13=>
   .mat (Jp s2.1 v11) fun r14=>
   .ret (.inl (r14,r13)))
   (.ite (0≤dA∧dA<(aU.length:Int))<|
   .mat (aU[dA.toNat]?) fun x15=>
   .mat (dn bK x15) fun r16=>
   .mat (cO bK x5 r16) fun r17=>
   .mat (Ag bK r17 dA) fun r18=>
   .ite (0≤v3∧v3<((List.replicate (aI .i64 (v3+1)).toNat (0:Int)).length:Int))<|
   .mat ((List.replicate (aI .i64 (v3+1)).toNat (0:Int))[v3.toNat]?) fun _=>
   let v20:=(List.replicate (aI .i64 (v3+1)).toNat (0:Int)).set v3.toNat r18
   .mat (jc bK aU v20) fun r21=>
   .mat (Jp s2.2 r21) fun r22=>
   .mat (Jp s2.1 v20) fun r23=>
   .ret (.inl (r23,r22))))
  (.ret (.inr (s2.1,s2.2)))
def IK (p0:(Int×(Int×Unit))) (p1:List Int) (p2:List Int) (p3:Bool):Tre ((List Int)×(List Int)):=
 .mat (fT p1) fun r1=>
 let v2:=aI .i64 ((p2.length:Int)-1)
 .mat (aO (jd p2 p3 v2 p0) ([],r1)) fun l24=>
 .ret (l24.1,l24.2)
def jO (p0:(Int×(Int×Unit))) (p1:List Int) (p2:List Int) (p3:Bool):Option ((List Int)×(List Int)):=(IK p0 p1 p2 p3).run some
-- more
theorem avT{f:TF3}(hf:aN f=true){V:List Nat}(hV:inL (FOf f hf) V)(h0:cf V (V.length-1)≠0):∃iv:Nat,zO f (cf V (V.length-1):Int)=(iv:Int)∧iv<(FOf f hf).q∧(FOf f hf).mul (cf V (V.length-1)) iv=1:=by
 obtain ⟨iv,h1,h2,h3⟩:=aDy hf (kC hV (V.length-1))
 exact ⟨iv,h1,h2,h3 h0⟩
theorem awO(k c:Nat):(List.replicate (k+1) (0:Int)).set k (c:Int)=aQ (uD k c):=by
 unfold uD
 rw [Vz,yL]
theorem ajG{A R V:List Nat}{c M:Nat}(hA:A.length≤M)(hR:R.length≤M)(hn:0<V.length)(hl:V.length≤R.length)(F:FO) :
  (cB (jC A (uD (R.length-V.length) c))).length≤M∧(cB (F.oJ V (uD (R.length-V.length) c))).length≤M∧(uD (R.length-V.length) c).length≤M:=by
 have h1:=iP (jC A (uD (R.length-V.length) c))
 rw [NC,XU] at h1
 have h2:=iP (F.oJ V (uD (R.length-V.length) c))
 have h3:=F.NG V (uD (R.length-V.length) c) (List.length_pos_iff.1 hn) (by intro h;have:=XU (R.length-V.length) c;rw [h] at this;simp at this)
 rw [XU] at h3
 rw [XU]
 omega
theorem axA{f:TF3}(hf:aN f=true){N V:List Nat}(hV:inL (FOf f hf) V)(hn:V≠[])(ht:cf V (V.length-1)≠0):∀(m:Nat)(A R:List Nat),R.length≤m→A.length≤100→R.length≤100→V.length≤100→Ik (FOf f hf) N V A R →
  ∃A' R',aO (jd (aQ V) false ((V.length-1:Nat):Int) f) (aQ A,aQ R)=some (aQ A',aQ R')∧Ik (FOf f hf) N V A' R'∧R'.length<V.length∧A'.length≤100:=by
 have hvl:0<V.length:=List.length_pos_iff.2 hn
 obtain ⟨iv,hi1,hi2,hi3⟩:=avT hf hV ht
 intro m
 induction m with
 |zero=>
  intro A R hm hA hR hV2 h
  refine ⟨A,R,fO ?_,h,by omega,hA⟩
  unfold jd
  dsimp only
  rw [Tre.aA,decide_eq_false (by rw [aS,aS];omega),cond_false,Tre.aF]
 |succ m ih=>
  intro A R hm hA hR hV2 h
  by_cases hl:V.length≤R.length
  ·obtain ⟨hc,hD,hlt⟩:=aq4 hf hV h hn hl hi2 hi3
   obtain ⟨b1,b2,b3⟩:=ajG (c:=(FOf f hf).sqn (Zd f.1.toNat (V.length-1)) ((FOf f hf).mul (cf R (R.length-1)) iv)) hA hR hvl hl (FOf f hf)
   obtain ⟨A',R',h1,h2,h3,h4⟩:=ih _ _ (by omega) b1 (by omega) hV2 hD
   refine ⟨A',R',?_,h2,h3,h4⟩
   rw [←h1]
   refine mM ?_
   have hk:aI .i64 (((aQ R).length:Int)-((aQ V).length:Int))=((R.length-V.length:Nat):Int):=by rw [aS,aS,dP (by omega) (by omega)];omega
   have hr:aI .i64 (((aQ R).length:Int)-1)=((R.length-1:Nat):Int):=by rw [aS];exact gQ (by omega) (by omega)
   have hk1:aI .i64 (((R.length-V.length:Nat):Int)+1)=((R.length-V.length+1:Nat):Int):=aR (by omega)
   have hrl:=kC h.ir (R.length-1)
   have hml:=(FOf f hf).lt (cf R (R.length-1)) iv
   unfold jd
   dsimp only
   rw [Tre.aA,decide_eq_true (by rw [aS,aS];omega),cond_true,hk,hk1,Tre.run_ite,if_pos ⟨rfl,by omega,rfl,by omega,by omega⟩,hr,dN (dL (eO (show R.length-1<R.length by omega))),Tre.aA,cond_false]
   rw [dN (dL (eO (show V.length-1<V.length by omega))),ah (avP hf ((Y2 hf).2 ⟨_,rfl,kC hV _⟩)),hi1,ah (ao8 hf hrl hi2),ah (azz hf hml _),Int.toNat_natCast]
   rw [dN (show (List.replicate (R.length-V.length+1) (0:Int))[R.length-V.length]?=some 0 by rw [List.getElem?_replicate,if_pos (by omega)]),Int.toNat_natCast,awO]
   rw [ah (agM hf hV (Xo hc) (by omega) (by omega)),ah (arT hf h.ir (pV (acu _ _)) (by omega) (by omega)),ah (arT hf h.ia (Xo hc) (by omega) (by omega)),Tre.aF]
  ·refine ⟨A,R,fO ?_,h,by omega,hA⟩
   unfold jd
   dsimp only
   rw [Tre.aA,decide_eq_false (by rw [aS,aS];omega),cond_false,Tre.aF]
theorem Ik.start{F:FO}{N V:List Nat}(hN:inL F N)(ht:tq N):Ik F N V [] N:=⟨fun x hx=>absurd hx List.not_mem_nil,hN,fun h=>absurd rfl h,ht,fun i=>by rw [show F.fH V (cf []) i=0 from ajD zR,Nat.zero_xor]⟩
theorem akC{f:TF3}(hf:aN f=true){N V:List Nat}(hN:inL (FOf f hf) N)(hV:inL (FOf f hf) V)(hn:V≠[])(htV:tq V)(htN:tq N)(hNl:N.length≤100)(hVl:V.length≤100) :
  ∃A R,jO f (aQ N) (aQ V) false=some (aQ A,aQ R)∧Ik (FOf f hf) N V A R∧R.length<V.length∧A.length≤100:=by
 have hvl:0<V.length:=List.length_pos_iff.2 hn
 obtain ⟨A,R,h1,h2,h3,h4⟩:=axA hf hV hn (htV hn) N.length [] N (Nat.le_refl _) (Nat.zero_le _) hNl hVl (Ik.start hN htN)
 refine ⟨A,R,?_,h2,h3,h4⟩
 have hd:aI .i64 (((aQ V).length:Int)-1)=((V.length-1:Nat):Int):=by rw [aS];exact gQ (by omega) (by omega)
 rw [show aQ []=[] from rfl] at h1
 unfold jO IK
 dsimp only
 rw [ah (show fT (aQ N)=some (aQ N) from FH (by rw [aS];omega)),hd,ah h1,Tre.aF]
def vF:Env:=⟨tau,[(65,kJ),(62,mD),(76,Ac),(75,oC),(70,zY),(77,arC),(78,U7)],[(1000002,[((14,0),[],false)])]⟩
def NR:Code:=(Tryz.f47.body).getD .skip
def Ec (eH:Bool) (aU:List Int) (bG:Bool) (dA:Int) (bK:(Int×(Int×Unit))):((List Int)×(List Int))→St:=fun x=>bP [(2,(.imm eH .il aU)),(3,(.imm true .bool bG)),(4,(.ptr (6,0) [])),(10,(.ref (12,0) [])),(11,(.ref (13,0) [])),(12,(.i dA))] [((6,0),some ⟨true,aL,.own,bK⟩),((12,0),some ⟨false,.il,.own,x.1⟩),((13,0),some ⟨false,.il,.own,x.2⟩)]
def BN (_:Bool) (_:List Int) (_:Bool) (_:Int) (_:(Int×(Int×Unit))):((List Int)×(List Int))→Ex×St:=fun x=>(.exit 0,bP [(10,(.ref (12,0) [])),(11,(.ref (13,0) []))] [((12,0),some ⟨false,.il,.own,x.1⟩),((13,0),some ⟨false,.il,.own,x.2⟩)])
def XW (s:St):Tre (Ex×St):=
 aZ .il (s.tmps 2) fun z3 d2=>
 ay true .bool (s.tmps 3) fun d5=>
 eF (6,0) [] (s.tmps 4)<|
 dI (12,0) [] (s.tmps 10)<|
 dI (13,0) [] (s.tmps 11)<|
 ay true .n (s.tmps 12) fun d10=>
 bg true aL (s.roots (6,0)) fun m12 d13=>
 asM .own m12<|
 bg false .il (s.roots (12,0)) fun m15 d16=>
 asM .own m15<|
 bg false .il (s.roots (13,0)) fun m18 d19=>
 asM .own m18<|
 .mat (aO (jd d2 d5 d10 d13) (d16,d19)) fun x=>.ret (BN z3 d2 d5 d10 d13 x)
def oN:bq:=⟨([2,3,4,10,11,12],[(6,0),(12,0),(13,0)]),([10,11],[(12,0),(13,0)]),XW⟩
def Cy:List (Nat×bq):=[(2,oN)]
theorem Qt:∀(eH:Bool)(aU:List Int)(bG:Bool)(dA:Int)(bK:(Int×(Int×Unit)))(x:((List Int)×(List Int)))(c:St→Option (Ex×St)),den vF Cy (aT NR 0) (Ec eH aU bG dA bK x) (bR oN.kp oN.kx c)=(jd aU bG dA bK x).run (bS (Ec eH aU bG dA bK) (BN eH aU bG dA bK) c):=fun _ _ _ _ _ _ _=>by
 kernel_rfl
theorem UR:bQ vF Cy (aT NR 0) oN:=bX fun _ _ _=>bY fun _ _=>aJ fun _=>jD<|fI<|fI<|aJ fun _=>bV fun _ _=>tM<|bV fun _ _=>tM<|bV fun _ _=>tM<|fun h _ e17 _ e14 _ e11 e9 e8 e7 e6 e4 e1=>bO (Qt _ _ _ _ _) h (by subst_vars;exact aP rfl rfl ⟨e1,e4,e6,e7,e8,e9,trivial⟩ ⟨e11,e14,e17,trivial⟩)
def aeM:FnI:=fnI Tryz.f47 Cy
def IL (_:Bool) (_:Bool) (_:(Int×(Int×Unit))) (_:List Int) (_:List Int) (_:Bool):((List Int)×(List Int))→au:=fun r=>⟨(.tcons (.ref (1,0) []) (.tcons (.ref (1,1) []) .tnil)),[],[⟨false,.il,.own,r.1⟩,⟨false,.il,.own,r.2⟩]⟩
theorem abU:∀(zp0 zp1:Bool)(p0:(Int×(Int×Unit)))(p1 p2:List Int)(p3:Bool),bJ vF aeM ⟨[(.imm true aL p0),(.imm zp0 .il p1),(.imm zp1 .il p2),(.imm true .bool p3)],[]⟩=(IK p0 p1 p2 p3).run fun r=>some (IL zp0 zp1 p0 p1 p2 p3 r):=fun _ _ _ _ _ _=>by kernel_rfl
def aeL (av:List AV) (rs:List Root):Tre au:=
 aC av fun a0_ av0=>
 aC av0 fun a1_ av1=>
 aC av1 fun a2_ av2=>
 aC av2 fun a3_ av3=>
 aM av3<|
 aM rs<|
 ay true aL a0_ fun d1=>
 aZ .il a1_ fun z3 d2=>
 aZ .il a2_ fun z5 d4=>
 ay true .bool a3_ fun d6=>
 .mat (jO d1 d2 d4 d6) fun r=>.ret (IL z3 z5 d1 d2 d4 d6 r)
def Cz:Ctr:=dD [] aeL
theorem K4:Contract Tryz.prog .none 47 Cz:=aD (V:=vF) aW (ak nk avH (ak nQ ari (ak IQ aCn (ak pK anQ (ak IJ aCm (ak axv aEM (ak ahO aEN aH))))))) Tryz.func47 (bF (n:=1) fun k hk=>by
 match k,hk with
 |0,_=>exact bH (id:=2) UR) fun _ _ _=>aK fun _ _=>aK fun _ _=>aK fun _ _=>aK fun _ _=>bf<|bf<|aJ fun _=>bY fun _ _=>bY fun _ _=>aJ fun _=>fun h=>by intros;subst_vars;exact bn (abU _ _ _ _ _ _) h
def q9 (bL:List Int) (cZ:Int) (dU:(Int×(Int×Unit))):((List Int)×(List Int))→Tre (((List Int)×(List Int)) ⊕ ((List Int)×(List Int))):=fun s4=>
 .cond (decide ((s4.2.length:Int) ≥ (bL.length:Int)))
  (let v4:=aI .i64 ((s4.2.length:Int)-(bL.length:Int))
  let v5:=aI .i64 ((s4.2.length:Int)-1)
  .ite (0≤v5∧v5<(s4.2.length:Int))<|
  .mat (s4.2[v5.toNat]?) fun x6=>
  .mat (dR dU cZ) fun r7=>
  .mat (dW dU x6 r7) fun r8=>
  let v9:=aI .i64 ((bL.length:Int)-1)
  .mat (Mk dU r8 v9) fun r10=>
  .mat (Ml r10 v4) fun r11=>
  .mat (JU s4.1 r11) fun r12=>
  .mat (qh dU bL r11) fun r13=>
  .mat (JU s4.2 r13) fun r14=>
  .ret (.inl (r12,r14)))
  (.ret (.inr (s4.1,s4.2)))
def afU (p0:(Int×(Int×Unit))) (p1:List Int) (p2:List Int):Tre ((List Int)×(List Int)):=
 .mat (fT p1) fun r1=>
 let v2:=aI .i64 ((p2.length:Int)-1)
 .ite (0≤v2∧v2<(p2.length:Int))<|
 .mat (p2[v2.toNat]?) fun x3=>
 .mat (aO (q9 p2 x3 p0) ([],r1)) fun l15=>
 .ret (l15.1,l15.2)
def Mi (p0:(Int×(Int×Unit))) (p1:List Int) (p2:List Int):Option ((List Int)×(List Int)):=(afU p0 p1 p2).run some
-- more
theorem aAq{c k:Nat}(hk:k≤1000):Ml (c:Int) (k:Int)=some (aQ (uD k c)):=by
 have hk1:aI .i64 ((k:Int)+1)=((k+1:Nat):Int):=aR (by omega)
 unfold Ml afY
 rw [hk1,Tre.run_ite,if_pos ⟨rfl,by omega,rfl,by omega,by omega⟩,Int.toNat_natCast,dN (show (List.replicate (k+1) (0:Int))[k]?=some 0 by rw [List.getElem?_replicate,if_pos (by omega)])]
 dsimp only
 rw [Int.toNat_natCast,awO,Tre.aF]
theorem aya{f:TF3}(hf:aN f=true){N V:List Nat}(hV:inL (FOf f hf) V)(hn:V≠[])(ht:cf V (V.length-1)≠0):∀(m:Nat)(A R:List Nat),R.length≤m→A.length≤100→R.length≤100→V.length≤100→Ik (FOf f hf) N V A R →
  ∃A' R',aO (q9 (aQ V) (cf V (V.length-1):Int) f) (aQ A,aQ R)=some (aQ A',aQ R')∧Ik (FOf f hf) N V A' R'∧R'.length<V.length∧A'.length≤100:=by
 have hvl:0<V.length:=List.length_pos_iff.2 hn
 obtain ⟨iv,hi1,hi2,hi3⟩:=avT hf hV ht
 intro m
 induction m with
 |zero=>
  intro A R hm hA hR hV2 h
  refine ⟨A,R,fO ?_,h,by omega,hA⟩
  unfold q9
  dsimp only
  rw [Tre.aA,decide_eq_false (by rw [aS,aS];omega),cond_false,Tre.aF]
 |succ m ih=>
  intro A R hm hA hR hV2 h
  by_cases hl:V.length≤R.length
  ·obtain ⟨hc,hD,hlt⟩:=aq4 hf hV h hn hl hi2 hi3
   obtain ⟨b1,b2,b3⟩:=ajG (c:=(FOf f hf).sqn (Zd f.1.toNat (V.length-1)) ((FOf f hf).mul (cf R (R.length-1)) iv)) hA hR hvl hl (FOf f hf)
   obtain ⟨A',R',h1,h2,h3,h4⟩:=ih _ _ (by omega) b1 (by omega) hV2 hD
   refine ⟨A',R',?_,h2,h3,h4⟩
   rw [←h1]
   refine mM ?_
   have hk:aI .i64 (((aQ R).length:Int)-((aQ V).length:Int))=((R.length-V.length:Nat):Int):=by rw [aS,aS,dP (by omega) (by omega)];omega
   have hr:aI .i64 (((aQ R).length:Int)-1)=((R.length-1:Nat):Int):=by rw [aS];exact gQ (by omega) (by omega)
   have hv:aI .i64 (((aQ V).length:Int)-1)=((V.length-1:Nat):Int):=by rw [aS];exact gQ (by omega) (by omega)
   have hrl:=kC h.ir (R.length-1)
   have hml:=(FOf f hf).lt (cf R (R.length-1)) iv
   unfold q9
   dsimp only
   rw [Tre.aA,decide_eq_true (by rw [aS,aS];omega),cond_true,hk,hr,dN (dL (eO (show R.length-1<R.length by omega)))]
   rw [ah (awE hf ((Y2 hf).2 ⟨_,rfl,kC hV _⟩)),hi1,ah (agl hf hrl hi2),hv,ah (aAp hf hml _),ah (aAq (by omega))]
   rw [ah (awK hf h.ia (Xo hc) (by omega) (by omega)),ah (ahv hf hV (Xo hc) (by omega) (by omega)),ah (awK hf h.ir (pV (acu _ _)) (by omega) (by omega)),Tre.aF]
  ·refine ⟨A,R,fO ?_,h,by omega,hA⟩
   unfold q9
   dsimp only
   rw [Tre.aA,decide_eq_false (by rw [aS,aS];omega),cond_false,Tre.aF]
theorem aAh{f:TF3}(hf:aN f=true){N V:List Nat}(hN:inL (FOf f hf) N)(hV:inL (FOf f hf) V)(hn:V≠[])(htV:tq V)(htN:tq N)(hNl:N.length≤100)(hVl:V.length≤100) :
  ∃A R,Mi f (aQ N) (aQ V)=some (aQ A,aQ R)∧Ik (FOf f hf) N V A R∧R.length<V.length∧A.length≤100:=by
 have hvl:0<V.length:=List.length_pos_iff.2 hn
 obtain ⟨A,R,h1,h2,h3,h4⟩:=aya hf hV hn (htV hn) N.length [] N (Nat.le_refl _) (Nat.zero_le _) hNl hVl (Ik.start hN htN)
 refine ⟨A,R,?_,h2,h3,h4⟩
 have hd:aI .i64 (((aQ V).length:Int)-1)=((V.length-1:Nat):Int):=by rw [aS];exact gQ (by omega) (by omega)
 rw [show aQ []=[] from rfl] at h1
 unfold Mi afU
 dsimp only
 rw [ah (show fT (aQ N)=some (aQ N) from FH (by rw [aS];omega)),hd,dN (dL (eO (show V.length-1<V.length by omega))),ah h1,Tre.aF]
def Mj:Env:=⟨tau,[(108,Db),(117,JB),(68,qW),(128,ahi),(129,ahk),(130,alO),(102,JM)],[]⟩
def ahe:Code:=(Tryz.f107.body).getD .skip
def SQ (kK:Bool) (bL:List Int) (cZ:Int) (dU:(Int×(Int×Unit))):((List Int)×(List Int))→St:=fun x=>bP [(2,(.imm kK .il bL)),(3,(.ptr (5,0) [])),(8,(.ref (10,0) [])),(9,(.ref (11,0) [])),(10,(.i cZ))] [((5,0),some ⟨true,aL,.own,dU⟩),((10,0),some ⟨false,.il,.own,x.1⟩),((11,0),some ⟨false,.il,.own,x.2⟩)]
def O6 (_:Bool) (_:List Int) (_:Int) (_:(Int×(Int×Unit))):((List Int)×(List Int))→Ex×St:=fun x=>(.exit 0,bP [(8,(.ref (10,0) [])),(9,(.ref (11,0) []))] [((10,0),some ⟨false,.il,.own,x.1⟩),((11,0),some ⟨false,.il,.own,x.2⟩)])
def alM (s:St):Tre (Ex×St):=
 aZ .il (s.tmps 2) fun z3 d2=>
 eF (5,0) [] (s.tmps 3)<|
 dI (10,0) [] (s.tmps 8)<|
 dI (11,0) [] (s.tmps 9)<|
 ay true .n (s.tmps 10) fun d8=>
 bg true aL (s.roots (5,0)) fun m10 d11=>
 asM .own m10<|
 bg false .il (s.roots (10,0)) fun m13 d14=>
 asM .own m13<|
 bg false .il (s.roots (11,0)) fun m16 d17=>
 asM .own m16<|
 .mat (aO (q9 d2 d8 d11) (d14,d17)) fun x=>.ret (O6 z3 d2 d8 d11 x)
def Bh:bq:=⟨([2,3,8,9,10],[(5,0),(10,0),(11,0)]),([8,9],[(10,0),(11,0)]),alM⟩
def WW:List (Nat×bq):=[(4,Bh)]
theorem adI:∀(kK:Bool)(bL:List Int)(cZ:Int)(dU:(Int×(Int×Unit)))(x:((List Int)×(List Int)))(c:St→Option (Ex×St)),den Mj WW (aT ahe 0) (SQ kK bL cZ dU x) (bR Bh.kp Bh.kx c)=(q9 bL cZ dU x).run (bS (SQ kK bL cZ dU) (O6 kK bL cZ dU) c):=fun _ _ _ _ _ _=>by
 kernel_rfl
theorem aiL:bQ Mj WW (aT ahe 0) Bh:=bX fun _ _ _=>bY fun _ _=>jD<|fI<|fI<|aJ fun _=>bV fun _ _=>tM<|bV fun _ _=>tM<|bV fun _ _=>tM<|fun h _ e15 _ e12 _ e9 e7 e6 e5 e4 e1=>bO (adI _ _ _ _) h (by subst_vars;exact aP rfl rfl ⟨e1,e4,e5,e6,e7,trivial⟩ ⟨e9,e12,e15,trivial⟩)
def as5:FnI:=fnI Tryz.f107 WW
def Zp (_:Bool) (_:Bool) (_:(Int×(Int×Unit))) (_:List Int) (_:List Int):((List Int)×(List Int))→au:=fun r=>⟨(.tcons (.ref (1,0) []) (.tcons (.ref (1,1) []) .tnil)),[],[⟨false,.il,.own,r.1⟩,⟨false,.il,.own,r.2⟩]⟩
theorem ap5:∀(zp0 zp1:Bool)(p0:(Int×(Int×Unit)))(p1 p2:List Int),bJ Mj as5 ⟨[(.imm true aL p0),(.imm zp0 .il p1),(.imm zp1 .il p2)],[]⟩=(afU p0 p1 p2).run fun r=>some (Zp zp0 zp1 p0 p1 p2 r):=fun _ _ _ _ _=>by kernel_rfl
def as4 (av:List AV) (rs:List Root):Tre au:=
 aC av fun a0_ av0=>
 aC av0 fun a1_ av1=>
 aC av1 fun a2_ av2=>
 aM av2<|
 aM rs<|
 ay true aL a0_ fun d1=>
 aZ .il a1_ fun z3 d2=>
 aZ .il a2_ fun z5 d4=>
 .mat (Mi d1 d2 d4) fun r=>.ret (Zp z3 z5 d1 d2 d4 r)
def ahf:Ctr:=dD [] as4
theorem ap6:Contract Tryz.prog .none 107 ahf:=aD (V:=Mj) aW (ak EP aeD (ak SE ay4 (ak qw agz (ak ap9 aDf (ak aqb aDg (ak as9 aDh (ak SK ay1 aH))))))) Tryz.func107 (bF (n:=1) fun k hk=>by
 match k,hk with
 |0,_=>exact bH (id:=4) aiL) fun _ _ _=>aK fun _ _=>aK fun _ _=>aK fun _ _=>bf<|bf<|aJ fun _=>bY fun _ _=>bY fun _ _=>fun h=>by intros;subst_vars;exact bn (ap5 _ _ _ _ _) h
def HV (p0:(Int×(Int×Unit))) (p1:List Int) (p2:List Int):Tre (Int×(List Int)×(List Int)):=
 .mat (Mg p0 p1 p2) fun r1=>
 .cond (!decide (r1=0))
  (.ret (r1,[],[]))
  (.mat (Mi p0 p1 p2) fun r2=>
  .ret (0,r2.1,r2.2))
def qb (p0:(Int×(Int×Unit))) (p1:List Int) (p2:List Int):Option (Int×(List Int)×(List Int)):=(HV p0 p1 p2).run some
def Wv:Env:=⟨tau,[(106,ahd),(107,ahf)],[]⟩
def alh:FnI:=fnI Tryz.f72 []
def OV (_:Bool) (_:Bool) (_:(Int×(Int×Unit))) (_:List Int) (_:List Int):(Int×(List Int)×(List Int))→au:=fun r=>⟨(.tcons (.ref (1,0) []) (.tcons (.ref (1,1) []) (.tcons (.i r.1) .tnil))),[],[⟨false,.il,.own,r.2.1⟩,⟨false,.il,.own,r.2.2⟩]⟩
theorem aiv:∀(zp0 zp1:Bool)(p0:(Int×(Int×Unit)))(p1 p2:List Int),bJ Wv alh ⟨[(.imm true aL p0),(.imm zp0 .il p1),(.imm zp1 .il p2)],[]⟩=(HV p0 p1 p2).run fun r=>some (OV zp0 zp1 p0 p1 p2 r):=fun _ _ _ _ _=>by kernel_rfl
def alg (av:List AV) (rs:List Root):Tre au:=
 aC av fun a0_ av0=>
 aC av0 fun a1_ av1=>
 aC av1 fun a2_ av2=>
 aM av2<|
 aM rs<|
 ay true aL a0_ fun d1=>
 aZ .il a1_ fun z3 d2=>
 aZ .il a2_ fun z5 d4=>
 .mat (qb d1 d2 d4) fun r=>.ret (OV z3 z5 d1 d2 d4 r)
def Ww:Ctr:=dD [] alg
theorem aiw:Contract Tryz.prog .none 72 Ww:=aD (V:=Wv) aW (ak ap4 aCZ (ak ap6 aC0 aH)) Tryz.func72 bI fun _ _ _=>aK fun _ _=>aK fun _ _=>aK fun _ _=>bf<|bf<|aJ fun _=>bY fun _ _=>bY fun _ _=>fun h=>by intros;subst_vars;exact bn (aiv _ _ _ _ _) h
def mH (MH:List Int):(Int×(List Int))→Tre ((Int×(List Int)) ⊕ (List Int)):=fun s6=>
 .cond (decide (s6.1<(MH.length:Int)))
  (.ite (0≤s6.1∧s6.1<(MH.length:Int))<|
  .mat (MH[s6.1.toNat]?) fun x4=>
  .ite (0≤s6.1∧s6.1<(s6.2.length:Int))<|
  .mat (s6.2[s6.1.toNat]?) fun _=>
  let v6:=s6.2.set s6.1.toNat x4
  .ret (.inl (aI .i64 (s6.1+1),v6)))
  (.ret (.inr s6.2))
def Nv (p0:(Int×(Int×Unit))) (p1:List Int) (p2:List Int) (p3:Int):Tre ((List Int)×Bool):=
 .mat (E9 p1) fun r1=>
 .mat (E9 p2) fun r2=>
 .mat (qb p0 r1 r2) fun r3=>
 .cond (!decide (r3.1=0))
  (.ret ([],false))
  (.cond (decide ((r3.2.2.length:Int)>0))
   (.ret ([],false))
   (.cond (decide ((r3.2.1.length:Int)>p3))
    (.ret ([],false))
    (.ite ((.n:K)=.n∧0≤p3∧p3=p3∧p3*(8:Nat)≤140737488355328∧1≤8)<|
    .mat (aO (mH r3.2.1) (0,List.replicate p3.toNat (0:Int))) fun l7=>
    .ret (l7,true))))
def lK (p0:(Int×(Int×Unit))) (p1:List Int) (p2:List Int) (p3:Int):Option ((List Int)×Bool):=(Nv p0 p1 p2 p3).run some
-- more
theorem aBD{f:TF3}(hf:aN f=true){L:List Nat}(h:inL (FOf f hf) L)(hl:L.length≤1000):xZ f (aQ L)=some true:=by
 unfold xZ Nr
 rw [ah (show aO (jS (aQ L) f) 0=some (.inr ()) from ?_)]
 ·rfl
 refine dh (fun i=>(i:Int)) L.length _ (fun i hi=>?_) ?_
 ·have hc:=kC h i
  have hin:inR (cf L i:Int) 0 (Ut f)=true:=by
   rw [ajl] at hc
   rw [gV]
   unfold Ut
   have:((cf L i:Nat):Int)<((2 ^ f.1.toNat:Nat):Int):=by exact_mod_cast hc
   have h2:((2 ^ f.1.toNat:Nat):Int)=(2:Int) ^ f.1.toNat:=by rw [Int.natCast_pow];rfl
   omega
  unfold jS
  rw [dX (dL (eO hi)),ah (Rn hf),ajk hf]
  dsimp only
  rw [Tre.aA,hin,Bool.not_true,cond_false,Tre.aF,aR (by omega)]
 ·unfold jS
  rw [aS,dF,Tre.aF]
theorem awF{f:TF3}(hf:aN f=true){L:List Nat}(h:inL (FOf f hf) L)(ht:tq L)(hl:L.length≤12):rU f (aQ L)=some true:=by
 have h1:XP f (aQ L)=some true:=by
  unfold XP ap7
  rw [Tre.aA,aS,decide_eq_true (by omega),cond_true,ah (aBD hf h (by omega)),Tre.aA,cond_true,Tre.aA]
  by_cases h0:L.length=0
  ·rw [decide_eq_true (by omega),cond_true,Tre.aF]
  ·have:=ht fun hh=>h0 (by rw [hh];rfl)
   have hp:aI .i64 ((L.length:Int)-1)=((L.length-1:Nat):Int):=gQ (by omega) (by omega)
   have hll:(L.length:Int)=((aQ L).length:Int):=by rw [aS]
   rw [decide_eq_false (by omega),cond_false]
   dsimp only
   rw [hp,hll,dN (dL (eO (show L.length-1<L.length by omega))),Tre.aF,decide_eq_false (by omega)]
   rfl
 unfold rU Nj
 rw [ah (aaZ f),hf,Tre.aA,cond_true,ah h1,Tre.aF]
theorem atp{f:TF3}(hf:aN f=true){N V:List Nat}(hN:inL (FOf f hf) N)(hV:inL (FOf f hf) V)(htV:tq V)(htN:tq N)(hNl:N.length≤12)(hVl:V.length≤12):Mg f (aQ N) (aQ V)=some (if V=[] then 4 else 0):=by
 unfold Mg afR
 rw [ah (awF hf hN htN hNl),Tre.aA,Bool.not_true,cond_false,ah (awF hf hV htV hVl),Tre.aA,Bool.not_true,cond_false,Tre.aA,aS]
 by_cases h:V=[]
 ·subst h;rfl
 ·have:=List.length_pos_iff.2 h
  rw [decide_eq_false (by omega),if_neg h];rfl
theorem aAb{f:TF3}(hf:aN f=true){N V:List Nat}(hN:inL (FOf f hf) N)(hV:inL (FOf f hf) V)(hn:V≠[])(htV:tq V)(htN:tq N)(hNl:N.length≤12)(hVl:V.length≤12) :
  ∃A R,qb f (aQ N) (aQ V)=some (0,aQ A,aQ R)∧Ik (FOf f hf) N V A R∧R.length<V.length∧A.length≤100:=by
 obtain ⟨A,R,h1,h2,h3,h4⟩:=aAh hf hN hV hn htV htN (by omega) (by omega)
 refine ⟨A,R,?_,h2,h3,h4⟩
 unfold qb HV
 rw [ah (atp hf hN hV htV htN hNl hVl),if_neg hn,Tre.aA,decide_eq_true rfl,Bool.not_true,cond_false,ah h1,Tre.aF]
theorem ayb{f:TF3}(hf:aN f=true){N:List Nat}(hN:inL (FOf f hf) N)(htN:tq N)(hNl:N.length≤12):qb f (aQ N) (aQ [])=some (4,[],[]):=by
 unfold qb HV
 rw [ah (atp hf hN (fun x hx=>absurd hx List.not_mem_nil) (fun h=>absurd rfl h) htN hNl (Nat.zero_le _)),if_pos rfl,Tre.aA,decide_eq_false (by decide),Bool.not_false,cond_true,Tre.aF]
theorem azZ{A:List Nat}{k:Nat}(h:A.length≤k)(hk:k≤1000):aO (mH (aQ A)) (0,List.replicate k (0:Int))=some (aQ (oM k A)):=by
 have hst:∀i,i<A.length→(aQ (A.take i++List.replicate (k-i) 0)).set i (cf A i:Int)=aQ (A.take (i+1)++List.replicate (k-(i+1)) 0):=by
  intro i hi
  have hti:(A.take i).length=i:=by rw [List.length_take];omega
  rw [←Vz,show k-i=(k-(i+1))+1 by omega,List.replicate_succ,List.set_append_right _ _ (by omega),hti,Nat.sub_self,List.set_cons_zero,List.take_add_one,eO hi,List.append_assoc]
  rfl
 have h0:List.replicate k (0:Int)=aQ (A.take 0++List.replicate (k-0) 0):=by rw [List.take_zero,List.nil_append,yL,Nat.sub_zero]
 rw [h0]
 refine dh (fun i=>((i:Int),aQ (A.take i++List.replicate (k-i) 0))) A.length _ (fun i hi=>?_) ?_
 ·have hti:(A.take i).length=i:=by rw [List.length_take];omega
  have hx:(A.take i++List.replicate (k-i) 0)[i]?=some 0:=by
   rw [List.getElem?_append_right (by omega),hti,Nat.sub_self,List.getElem?_replicate,if_pos (by omega)]
  unfold mH
  dsimp only
  rw [dX (dL (eO hi)),dN (dL hx),Int.toNat_natCast,hst i hi,Tre.aF,aR (by omega)]
 ·unfold mH
  dsimp only
  rw [aS,dF,Tre.aF,List.take_length]
  rfl
def yt:Env:=⟨tau,[(73,aht),(72,Ww)],[(1000000,[((10,0),[],false)]),(1000002,[((10,0),[],false),((11,0),[],false)])]⟩
def Tc:Code:=(Tryz.f43.body).getD .skip
def GQ (MH:List Int):(Int×(List Int))→St:=fun x=>bP [(10,(.ref (23,0) [])),(13,(.ref (15,0) [])),(14,(.i x.1))] [((23,0),some ⟨false,.il,.own,MH⟩),((15,0),some ⟨false,.il,.own,x.2⟩)]
def E8 (_:List Int):(List Int)→Ex×St:=fun x=>(.exit 0,bP [(13,(.ref (15,0) []))] [((15,0),some ⟨false,.il,.own,x⟩)])
def abr (s:St):Tre (Ex×St):=
 dI (23,0) [] (s.tmps 10)<|
 dI (15,0) [] (s.tmps 13)<|
 ay true .n (s.tmps 14) fun d4=>
 bg false .il (s.roots (23,0)) fun m6 d7=>
 asM .own m6<|
 bg false .il (s.roots (15,0)) fun m9 d10=>
 asM .own m9<|
 .mat (aO (mH d7) (d4,d10)) fun x=>.ret (E8 d7 x)
def rC:bq:=⟨([10,13,14],[(23,0),(15,0)]),([13],[(15,0)]),abr⟩
def FX:List (Nat×bq):=[(6,rC)]
theorem Um:∀(MH:List Int)(x:(Int×(List Int)))(c:St→Option (Ex×St)),den yt FX (aT Tc 0) (GQ MH x) (bR rC.kp rC.kx c)=(mH MH x).run (bS (GQ MH) (E8 MH) c):=fun _ _ _=>by
 kernel_rfl
theorem YH:bQ yt FX (aT Tc 0) rC:=bX fun _ _ _=>fI<|fI<|aJ fun _=>bV fun _ _=>tM<|bV fun _ _=>tM<|fun h _ e8 _ e5 e3 e2 e1=>bO (Um _) h (by subst_vars;exact aP rfl rfl ⟨e1,e2,e3,trivial⟩ ⟨e5,e8,trivial⟩)
def aiU:FnI:=fnI Tryz.f43 FX
def Mw (_:Bool) (_:Bool) (_:(Int×(Int×Unit))) (_:List Int) (_:List Int) (_:Int):((List Int)×Bool)→au:=fun r=>⟨(.tcons (.imm true .il r.1) (.tcons (.imm true .bool r.2) .tnil)),[],[]⟩
theorem af6:∀(zp0 zp1:Bool)(p0:(Int×(Int×Unit)))(p1 p2:List Int)(p3:Int),bJ yt aiU ⟨[(.imm true aL p0),(.imm zp0 .il p1),(.imm zp1 .il p2),(.i p3)],[]⟩=(Nv p0 p1 p2 p3).run fun r=>some (Mw zp0 zp1 p0 p1 p2 p3 r):=fun _ _ _ _ _ _=>by kernel_rfl
def aiT (av:List AV) (rs:List Root):Tre au:=
 aC av fun a0_ av0=>
 aC av0 fun a1_ av1=>
 aC av1 fun a2_ av2=>
 aC av2 fun a3_ av3=>
 aM av3<|
 aM rs<|
 ay true aL a0_ fun d1=>
 aZ .il a1_ fun z3 d2=>
 aZ .il a2_ fun z5 d4=>
 ay true .n a3_ fun d6=>
 .mat (lK d1 d2 d4 d6) fun r=>.ret (Mw z3 z5 d1 d2 d4 d6 r)
def FY:Ctr:=dD [] aiT
theorem Pg:Contract Tryz.prog .none 43 FY:=aD (V:=yt) aW (ak aqo aEK (ak aiw aEJ aH)) Tryz.func43 (bF (n:=1) fun k hk=>by
 match k,hk with
 |0,_=>exact bH (id:=6) YH) fun _ _ _=>aK fun _ _=>aK fun _ _=>aK fun _ _=>aK fun _ _=>bf<|bf<|aJ fun _=>bY fun _ _=>bY fun _ _=>aJ fun _=>fun h=>by intros;subst_vars;exact bn (af6 _ _ _ _ _ _) h
def lg (aV:aG) (bA:List Int):(Int×(List Int))→Tre ((Int×(List Int)) ⊕ (List Int)):=fun s3=>
 .cond (decide (s3.1<(aV.2.1.length:Int)))
  (.ite (0≤s3.1∧s3.1<(aV.2.1.length:Int))<|
  .mat (aV.2.1[s3.1.toNat]?) fun x1=>
  .mat (Bu aV.1 bA x1) fun r2=>
  .ite ((s3.2.length+1)*8≤bM∧1≤8)<|
  .ret (.inl (aI .i64 (s3.1+1),s3.2++([r2]))))
  (.ret (.inr s3.2))
def J6 (p0:aG) (p1:List Int):Tre (List Int):=
 .mat (aO (lg p0 p1) (0,[])) fun l3=>
 .ret l3
def vZ (p0:aG) (p1:List Int):Option (List Int):=(J6 p0 p1).run some
-- more
theorem aAt{f:TF3}(hf:aN f=true){P X:List Nat}(hP:inL (FOf f hf) P)(hl:P.length≤1000)(hX:inL (FOf f hf) X)(hXl:X.length≤1000)(k:Int):vZ (f,aQ X,k,()) (aQ P)=some (aQ (X.map ((FOf f hf).lp P))):=by
 unfold vZ J6
 rw [ah (show aO (lg (f,aQ X,k,()) (aQ P)) (0,[])=some (aQ (X.map ((FOf f hf).lp P))) from ?_),Tre.aF]
 refine dh (fun i=>((i:Int),aQ ((X.take i).map ((FOf f hf).lp P)))) X.length _ (fun i hi=>?_) ?_
 ·unfold lg
  dsimp only
  rw [dX (dL (eO hi)),ah (aox hf hP hl (kC hX i)),Tre.run_ite,if_pos (by rw [aS,List.length_map,List.length_take];unfold bM;omega),Tre.aF,aR (by omega),List.take_add_one,eO hi,Option.toList_some,List.map_append,pW]
  rfl
 ·unfold lg
  dsimp only
  rw [aS,dF,Tre.aF,List.take_length]
def wh:Env:=⟨tau,[(42,RG)],[]⟩
def Px:Code:=(Tryz.f39.body).getD .skip
def Fe (dZ:Bool) (BF:Bool) (aV:aG) (bA:List Int):(Int×(List Int))→St:=fun x=>bP [(0,(.iptr dZ (.sl aX) ([aV]) [.idx 0])),(1,(.imm BF .il bA)),(5,(.ref (7,0) [])),(6,(.i x.1))] [((7,0),some ⟨false,.il,.own,x.2⟩)]
def Cj (_:Bool) (_:Bool) (_:aG) (_:List Int):(List Int)→Ex×St:=fun x=>(.exit 0,bP [(5,(.ref (7,0) []))] [((7,0),some ⟨false,.il,.own,x⟩)])
def YI (s:St):Tre (Ex×St):=
 PS aX (s.tmps 0) fun z2 d3=>
 aZ .il (s.tmps 1) fun z6 d5=>
 dI (7,0) [] (s.tmps 5)<|
 ay true .n (s.tmps 6) fun d9=>
 bg false .il (s.roots (7,0)) fun m11 d12=>
 asM .own m11<|
 .mat (aO (lg d3 d5) (d9,d12)) fun x=>.ret (Cj z2 z6 d3 d5 x)
def pF:bq:=⟨([0,1,5,6],[(7,0)]),([5],[(7,0)]),YI⟩
def Dk:List (Nat×bq):=[(3,pF)]
theorem RH:∀(dZ BF:Bool)(aV:aG)(bA:List Int)(x:(Int×(List Int)))(c:St→Option (Ex×St)),den wh Dk (aT Px 0) (Fe dZ BF aV bA x) (bR pF.kp pF.kx c)=(lg aV bA x).run (bS (Fe dZ BF aV bA) (Cj dZ BF aV bA) c):=fun _ _ _ _ _ _=>by
 kernel_rfl
theorem Xk:bQ wh Dk (aT Px 0) pF:=bX fun _ _ _=>aoz fun _ _=>bY fun _ _=>fI<|aJ fun _=>bV fun _ _=>tM<|fun h _ e10 e8 e7 e4 e1=>bO (RH _ _ _ _) h (by subst_vars;exact aP rfl rfl ⟨e1,e4,e7,e8,trivial⟩ ⟨e10,trivial⟩)
def agj:FnI:=fnI Tryz.f39 Dk
def J7 (_:Bool) (_:Bool) (_:aG) (_:List Int):(List Int)→au:=fun r=>⟨(.ref (1,0) []),[],[⟨false,.il,.own,r⟩]⟩
theorem ad4:∀(zp0 zp1:Bool)(p0:aG)(p1:List Int),bJ wh agj ⟨[(.iptr zp0 (.sl aX) ([p0]) [.idx 0]),(.imm zp1 .il p1)],[]⟩=(J6 p0 p1).run fun r=>some (J7 zp0 zp1 p0 p1 r):=fun _ _ _ _=>by kernel_rfl
def agi (av:List AV) (rs:List Root):Tre au:=
 aC av fun a0_ av0=>
 aC av0 fun a1_ av1=>
 aM av1<|
 aM rs<|
 PS aX a0_ fun z1 d2=>
 aZ .il a1_ fun z4 d3=>
 .mat (vZ d2 d3) fun r=>.ret (J7 z1 z4 d2 d3 r)
def Py:Ctr:=dD [0] agi
theorem ad5:Contract Tryz.prog .none 39 Py:=aD (V:=wh) aW (ak ZA aCd aH) Tryz.func39 (bF (n:=1) fun k hk=>by
 match k,hk with
 |0,_=>exact bH (id:=3) Xk) fun _ _ _=>aK fun _ _=>aK fun _ _=>bf<|bf<|aoz fun _ _=>bY fun _ _=>fun h=>by intros;subst_vars;exact bn (ad4 _ _ _ _) h
def zG (aV:List Int) (bA:List Int) (bW:Int) (dB:(Int×(Int×Unit))):(Int×(List Int))→Tre ((Int×(List Int)) ⊕ (List Int)):=fun s3=>
 .cond (decide (s3.1<(aV.length:Int)))
  (.ite (0≤s3.1∧s3.1<(aV.length:Int))<|
  .mat (aV[s3.1.toNat]?) fun x1=>
  .ite (0≤s3.1∧s3.1<(bA.length:Int))<|
  .mat (bA[s3.1.toNat]?) fun x2=>
  .mat (dW dB x2 bW) fun r3=>
  .ite ((s3.2.length+1)*8≤bM∧1≤8)<|
  let v4:=s3.2++([jw .i64 x1 r3])
  .ret (.inl (aI .i64 (s3.1+1),v4)))
  (.ret (.inr s3.2))
def alS (p0:(Int×(Int×Unit))) (p1:List Int) (p2:List Int) (p3:Int):Tre (List Int):=
 .mat (aO (zG p1 p2 p3 p0) (0,[])) fun l5=>
 .ret l5
def Rv (p0:(Int×(Int×Unit))) (p1:List Int) (p2:List Int) (p3:Int):Option (List Int):=(alS p0 p1 p2 p3).run some
-- more
def Rw:Env:=⟨tau,[(68,qW)],[]⟩
def alU:Code:=(Tryz.f38.body).getD .skip
def Xc (dZ:Bool) (BF:Bool) (aV:List Int) (bA:List Int) (bW:Int) (dB:(Int×(Int×Unit))):(Int×(List Int))→St:=fun x=>bP [(1,(.imm dZ .il aV)),(2,(.imm BF .il bA)),(3,(.i bW)),(4,(.ptr (6,0) [])),(9,(.ref (11,0) [])),(10,(.i x.1))] [((6,0),some ⟨true,aL,.own,dB⟩),((11,0),some ⟨false,.il,.own,x.2⟩)]
def S9 (_:Bool) (_:Bool) (_:List Int) (_:List Int) (_:Int) (_:(Int×(Int×Unit))):(List Int)→Ex×St:=fun x=>(.exit 0,bP [(9,(.ref (11,0) []))] [((11,0),some ⟨false,.il,.own,x⟩)])
def anl (s:St):Tre (Ex×St):=
 aZ .il (s.tmps 1) fun z3 d2=>
 aZ .il (s.tmps 2) fun z6 d5=>
 ay true .n (s.tmps 3) fun d8=>
 eF (6,0) [] (s.tmps 4)<|
 dI (11,0) [] (s.tmps 9)<|
 ay true .n (s.tmps 10) fun d12=>
 bg true aL (s.roots (6,0)) fun m14 d15=>
 asM .own m14<|
 bg false .il (s.roots (11,0)) fun m17 d18=>
 asM .own m17<|
 .mat (aO (zG d2 d5 d8 d15) (d12,d18)) fun x=>.ret (S9 z3 z6 d2 d5 d8 d15 x)
def DX:bq:=⟨([1,2,3,4,9,10],[(6,0),(11,0)]),([9],[(11,0)]),anl⟩
def abj:List (Nat×bq):=[(3,DX)]
theorem af3:∀(dZ BF:Bool)(aV bA:List Int)(bW:Int)(dB:(Int×(Int×Unit)))(x:(Int×(List Int)))(c:St→Option (Ex×St)),den Rw abj (aT alU 0) (Xc dZ BF aV bA bW dB x) (bR DX.kp DX.kx c)=(zG aV bA bW dB x).run (bS (Xc dZ BF aV bA bW dB) (S9 dZ BF aV bA bW dB) c):=fun _ _ _ _ _ _ _ _=>by
 kernel_rfl
theorem alW:bQ Rw abj (aT alU 0) DX:=bX fun _ _ _=>bY fun _ _=>bY fun _ _=>aJ fun _=>jD<|fI<|aJ fun _=>bV fun _ _=>tM<|bV fun _ _=>tM<|fun h _ e16 _ e13 e11 e10 e9 e7 e4 e1=>bO (af3 _ _ _ _ _ _) h (by subst_vars;exact aP rfl rfl ⟨e1,e4,e7,e9,e10,e11,trivial⟩ ⟨e13,e16,trivial⟩)
def avc:FnI:=fnI Tryz.f38 abj
def adQ (_:Bool) (_:Bool) (_:(Int×(Int×Unit))) (_:List Int) (_:List Int) (_:Int):(List Int)→au:=fun r=>⟨(.ref (1,0) []),[],[⟨false,.il,.own,r⟩]⟩
theorem atg:∀(zp0 zp1:Bool)(p0:(Int×(Int×Unit)))(p1 p2:List Int)(p3:Int),bJ Rw avc ⟨[(.imm true aL p0),(.imm zp0 .il p1),(.imm zp1 .il p2),(.i p3)],[]⟩=(alS p0 p1 p2 p3).run fun r=>some (adQ zp0 zp1 p0 p1 p2 p3 r):=fun _ _ _ _ _ _=>by kernel_rfl
def avb (av:List AV) (rs:List Root):Tre au:=
 aC av fun a0_ av0=>
 aC av0 fun a1_ av1=>
 aC av1 fun a2_ av2=>
 aC av2 fun a3_ av3=>
 aM av3<|
 aM rs<|
 ay true aL a0_ fun d1=>
 aZ .il a1_ fun z3 d2=>
 aZ .il a2_ fun z5 d4=>
 ay true .n a3_ fun d6=>
 .mat (Rv d1 d2 d4 d6) fun r=>.ret (adQ z3 z5 d1 d2 d4 d6 r)
def alV:Ctr:=dD [] avb
theorem ath:Contract Tryz.prog .none 38 alV:=aD (V:=Rw) aW (ak qw agz aH) Tryz.func38 (bF (n:=1) fun k hk=>by
 match k,hk with
 |0,_=>exact bH (id:=3) alW) fun _ _ _=>aK fun _ _=>aK fun _ _=>aK fun _ _=>aK fun _ _=>bf<|bf<|aJ fun _=>bY fun _ _=>bY fun _ _=>aJ fun _=>fun h=>by intros;subst_vars;exact bn (atg _ _ _ _ _ _) h
def abk (p0:(Int×(Int×Unit))) (p1:List Int) (p2:List Int):Tre Int:=
 .mat (Rv p0 p1 p2 1) fun r1=>
 .mat (aok p0.1 r1) fun r2=>
 .ret r2
def H8 (p0:(Int×(Int×Unit))) (p1:List Int) (p2:List Int):Option Int:=(abk p0 p1 p2).run some
-- more
theorem aDU{f:TF3}(hf:aN f=true){pts w m:List Nat}(hw:inL (FOf f hf) w)(hl:w.length=pts.length)(hwl:w.length≤1000):Rv f (aQ (pts.map ((FOf f hf).lp m))) (aQ w) 1=some (aQ ((FOf f hf).GZ pts w m)):=by
 have hel:=(FOf f hf).UC (m:=m) hl
 unfold Rv alS
 rw [ah (show aO (zG (aQ (pts.map ((FOf f hf).lp m))) (aQ w) 1 f) (0,[])=some (aQ ((FOf f hf).GZ pts w m)) from ?_),Tre.aF]
 refine dh (fun i=>((i:Int),aQ (((FOf f hf).GZ pts w m).take i))) w.length _ (fun i hi=>?_) ?_
 ·have hwi:=eO hi
  have hpi:=eO (show i<pts.length by omega)
  have hei:((FOf f hf).GZ pts w m)[i]?=some (cf w i^^^(FOf f hf).lp m (cf pts i)):=by
   unfold FO.GZ
   rw [List.getElem?_map,List.getElem?_zip_eq_some.2 (show pts[i]?=some (cf pts i,cf w i).1∧w[i]?=some (cf pts i,cf w i).2 from ⟨hpi,hwi⟩)]
   rfl
  have hci:(pts.map ((FOf f hf).lp m))[i]?=some ((FOf f hf).lp m (cf pts i)):=by rw [List.getElem?_map,hpi];rfl
  have h1:dW f (cf w i:Int) 1=some (cf w i:Int):=by
   have:=agl hf (kC hw i) (FOf f hf).hq
   rw [FO.one _ _ (kC hw i)] at this
   exact this
  unfold zG
  dsimp only
  rw [dX (dL hci),dN (dL hwi),ah h1,Tre.run_ite,if_pos (by rw [aS,List.length_take];unfold bM;omega),Tre.aF,aR (by omega),Xq hf ((FOf f hf).Y9 _ _) (kC hw i),Nat.xor_comm,List.take_add_one,hei,Option.toList_some,pW]
  rfl
 ·unfold zG
  dsimp only
  rw [Tre.aA,decide_eq_false (by rw [aS,List.length_map];omega),cond_false,Tre.aF,List.take_of_length_le (by omega)]
theorem ax7{f:TF3}(hf:aN f=true){pts w m:List Nat}(hw:inL (FOf f hf) w)(hl:w.length=pts.length)(hwl:w.length≤1000):H8 f (aQ (pts.map ((FOf f hf).lp m))) (aQ w)=some (rkN ((FOf f hf).GZ pts w m):Int):=by
 have hd:=nI hf
 have hel:=(FOf f hf).UC (m:=m) hl
 unfold H8 abk
 rw [ah (aDU hf hw hl hwl),ah (show aok f.1 (aQ ((FOf f hf).GZ pts w m))=some _ from jJ (by rw [Bool.and_eq_true];exact ⟨gV.2 (by omega),apc hf ((FOf f hf).aoS hw) (by omega) (Nat.le_refl _)⟩)),Tre.aF,az8]
def adR:Env:=⟨tau,[(38,alV),(85,WT)],[]⟩
def aqi:FnI:=fnI Tryz.f58 []
def Xd (_:Bool) (_:Bool) (_:(Int×(Int×Unit))) (_:List Int) (_:List Int):Int→au:=fun r=>⟨(.i r),[],[]⟩
theorem anm:∀(zp0 zp1:Bool)(p0:(Int×(Int×Unit)))(p1 p2:List Int),bJ adR aqi ⟨[(.imm true aL p0),(.imm zp0 .il p1),(.imm zp1 .il p2)],[]⟩=(abk p0 p1 p2).run fun r=>some (Xd zp0 zp1 p0 p1 p2 r):=fun _ _ _ _ _=>by kernel_rfl
def aqh (av:List AV) (rs:List Root):Tre au:=
 aC av fun a0_ av0=>
 aC av0 fun a1_ av1=>
 aC av1 fun a2_ av2=>
 aM av2<|
 aM rs<|
 ay true aL a0_ fun d1=>
 aZ .il a1_ fun z3 d2=>
 aZ .il a2_ fun z5 d4=>
 .mat (H8 d1 d2 d4) fun r=>.ret (Xd z3 z5 d1 d2 d4 r)
def adS:Ctr:=dD [] aqh
theorem ano:Contract Tryz.prog .none 58 adS:=aD (V:=adR) aW (ak ath aCc (ak adD aCp aH)) Tryz.func58 bI fun _ _ _=>aK fun _ _=>aK fun _ _=>aK fun _ _=>bf<|bf<|aJ fun _=>bY fun _ _=>bY fun _ _=>fun h=>by intros;subst_vars;exact bn (anm _ _ _ _ _) h
def aci (p0:List Int):Tre Int:=
 .ret (p0.length:Int)
def akr (p0:List Int):Option Int:=(aci p0).run some
theorem acj(p0:List Int):akr p0=some (p0.length:Int):=rfl
def Vw:Env:=⟨tau,[],[]⟩
def akt:FnI:=fnI Tryz.f45 []
def Ox (_:Bool) (_:List Int):Int→au:=fun r=>⟨(.i r),[],[]⟩
theorem ah6:∀(zp0:Bool)(p0:List Int),bJ Vw akt ⟨[(.imm zp0 .il p0)],[]⟩=(aci p0).run fun r=>some (Ox zp0 p0 r):=fun _ _=>by kernel_rfl
def aks (av:List AV) (rs:List Root):Tre au:=
 aC av fun a0_ av0=>
 aM av0<|
 aM rs<|
 aZ .il a0_ fun z2 d1=>
 .ret (Ox z2 d1 (d1.length:Int))
def kF:Ctr:=dD [] aks
theorem lD:Contract Tryz.prog .none 45 kF:=aD (V:=Vw) aW aH Tryz.func45 bI fun _ _ _=>aK fun _ _=>bf<|bf<|bY fun _ _=>fun h=>by intros;subst_vars;exact tC (ah6 _ _) (acj _) h
def Jc (p0:aG):Tre Int:=
 let v1:=aI .i64 ((p0.2.1.length:Int)-p0.2.2.1)
 let v2:=aI .i64 (Int.tdiv v1 2)
 .ret v2
def Vf (p0:aG):Option Int:=(Jc p0).run some
def eY(p0:aG):Int:=
 let v1:=aI .i64 ((p0.2.1.length:Int)-p0.2.2.1)
 let v2:=aI .i64 (Int.tdiv v1 2)
 v2
theorem Od(p0:aG):Vf p0=some (eY p0):=rfl
def Es:Env:=⟨tau,[(45,kF)],[]⟩
def Vh:FnI:=fnI Tryz.f61 []
def Aj (_:Bool) (_:aG):Int→au:=fun r=>⟨(.i r),[],[]⟩
theorem TM:∀(zp0:Bool)(p0:aG),bJ Es Vh ⟨[(.imm zp0 aX p0)],[]⟩=(Jc p0).run fun r=>some (Aj zp0 p0 r):=fun _ _=>by kernel_rfl
def Vg (av:List AV) (rs:List Root):Tre au:=
 aC av fun a0_ av0=>
 aM av0<|
 aM rs<|
 aZ aX a0_ fun z2 d1=>
 .ret (Aj z2 d1 (eY d1))
def Et:Ctr:=dD [] Vg
theorem TN:Contract Tryz.prog .none 61 Et:=aD (V:=Es) aW (ak lD ajO aH) Tryz.func61 bI fun _ _ _=>aK fun _ _=>bf<|bf<|bY fun _ _=>fun h=>by intros;subst_vars;exact tC (TM _ _) (Od _) h
def Ie:(List Int)→Tre ((List Int) ⊕ (List Int)):=fun s1=>
 .cond (decide ((s1.length:Int)>0))
  (let v1:=aI .i64 ((s1.length:Int)-1)
  .ite (0≤v1∧v1<(s1.length:Int))<|
  .mat (s1[v1.toNat]?) fun x2=>
  .cond (decide (x2=0))
   (.ite (0≤(0:Int)∧(0:Int)≤v1∧v1≤(s1.length:Int))<|
   let v3:=(s1.drop 0).take (v1-0).toNat
   .ret (.inl v3))
   (.ret (.inr s1)))
  (.ret (.inr s1))
def auD (p0:List Int):Tre (List Int):=
 .mat (aO Ie p0) fun l4=>
 .ret l4
def Vy (p0:List Int):Option (List Int):=(auD p0).run some
-- more
theorem akG{l:List Nat}{n:Nat}(hn:0<n)(hl:n≤l.length)(hl2:l.length≤1000):(Ie (aQ (l.take n))).run some=some (if cf l (n-1)=0 then .inl (aQ (l.take (n-1))) else .inr (aQ (l.take n))):=by
 have hlen:(aQ (l.take n)).length=n:=by rw [aS,List.length_take];omega
 have hx:(aQ (l.take n))[n-1]?=some (cf l (n-1):Int):=by
  refine dL ?_
  rw [List.getElem?_take_of_lt (by omega)];exact eO (by omega)
 have hm:aI .i64 (((aQ (l.take n)).length:Int)-1)=((n-1:Nat):Int):=by rw [hlen,gQ (by omega) (by omega)]
 unfold Ie
 dsimp only
 rw [Tre.aA,decide_eq_true (by omega),cond_true]
 rw [hm,dN hx,Tre.aA]
 by_cases h0:cf l (n-1)=0
 ·rw [if_pos h0,decide_eq_true (by omega),cond_true,Tre.run_ite,if_pos (by omega),Tre.aF]
  have he:(((n-1:Nat):Int)-0).toNat=n-1:=by omega
  rw [he,List.drop_zero,←XC,List.take_take,Nat.min_eq_left (by omega)]
 ·rw [if_neg h0,decide_eq_false (by omega),cond_false,Tre.aF]
theorem arV{l:List Nat}(hl2:l.length≤1000):Vy (aQ l)=some (aQ (cB l)):=by
 have htl:=iP l
 unfold Vy auD
 rw [ah (show aO Ie (aQ l)=some (aQ (cB l)) from ?_),Tre.aF]
 have h0:aQ l=aQ (l.take (l.length-0)):=by rw [Nat.sub_zero,List.take_length]
 rw [h0]
 refine dh (fun i=>aQ (l.take (l.length-i))) (l.length-(cB l).length) _ (fun i hi=>?_) ?_
 ·rw [akG (by omega) (by omega) hl2,if_pos (Ct (by omega)),Nat.sub_sub]
 ·rw [show l.length-(l.length-(cB l).length)=(cB l).length by omega]
  by_cases hz:(cB l).length=0
  ·have:cB l=[]:=List.length_eq_zero_iff.1 hz
   rw [hz,List.take_zero,this]
   rfl
  ·rw [akG (by omega) htl hl2,if_neg ((PE l).resolve_left hz),aef]
def aco:Env:=⟨tau,[],[]⟩
def arK:Code:=(Tryz.f48.body).getD .skip
def acp (avn:Bool):(List Int)→St:=fun x=>bP [(0,(.imm avn .il x))] []
def Y1 (avn:Bool):(List Int)→Ex×St:=fun x=>(.exit 0,bP [(0,(.imm avn .il x))] [])
def arM (s:St):Tre (Ex×St):=
 aZ .il (s.tmps 0) fun z3 d2=>
 .mat (aO Ie d2) fun x=>.ret (Y1 z3 x)
def Lr:bq:=⟨([0],[]),([0],[]),arM⟩
def akv:List (Nat×bq):=[(1,Lr)]
theorem akw:∀(avn:Bool)(x:List Int)(c:St→Option (Ex×St)),den aco akv (aT arK 0) (acp avn x) (bR Lr.kp Lr.kx c)=(Ie x).run (bS (acp avn) (Y1 avn) c):=fun _ _ _=>by
 kernel_rfl
theorem ao7:bQ aco akv (aT arK 0) Lr:=bX fun _ _ _=>bY fun _ _=>fun h e1=>bO (akw _) h (by subst_vars;exact aP rfl rfl ⟨e1,trivial⟩ trivial)
def azs:FnI:=fnI Tryz.f48 akv
def akx (zp0:Bool) (_:List Int):(List Int)→au:=fun r=>⟨(.imm zp0 .il r),[],[]⟩
theorem axw:∀(zp0:Bool)(p0:List Int),bJ aco azs ⟨[(.imm zp0 .il p0)],[]⟩=(auD p0).run fun r=>some (akx zp0 p0 r):=fun _ _=>by kernel_rfl
def azr (av:List AV) (rs:List Root):Tre au:=
 aC av fun a0_ av0=>
 aM av0<|
 aM rs<|
 aZ .il a0_ fun z2 d1=>
 .mat (Vy d1) fun r=>.ret (akx z2 d1 r)
def arL:Ctr:=dD [0] azr
theorem axx:Contract Tryz.prog .none 48 arL:=aD (V:=aco) aW aH Tryz.func48 (bF (n:=1) fun k hk=>by
 match k,hk with
 |0,_=>exact bH (id:=1) ao7) fun _ _ _=>aK fun _ _=>bf<|bf<|bY fun _ _=>fun h=>by intros;subst_vars;exact bn (axw _ _) h
def kU (aV:List Int) (bA:List Int) (bW:Int) (dB:(Int×(Int×Unit))):(Int×(List Int))→Tre ((Int×(List Int)) ⊕ (List Int)):=fun s3=>
 .cond (decide (s3.1<bW))
  (.ite (0≤s3.1∧s3.1<(bA.length:Int))<|
  .mat (bA[s3.1.toNat]?) fun x1=>
  .mat (rQ dB aV x1) fun r2=>
  .ite ((s3.2.length+1)*8≤bM∧1≤8)<|
  .ret (.inl (aI .i64 (s3.1+1),s3.2++([r2]))))
  (.ret (.inr s3.2))
def I4 (p0:(Int×(Int×Unit))) (p1:List Int) (p2:List Int):Tre (List Int):=
 .mat (aO (kU p1 p2 (p2.length:Int) p0) (0,[])) fun l3=>
 .ret l3
def pQ (p0:(Int×(Int×Unit))) (p1:List Int) (p2:List Int):Option (List Int):=(I4 p0 p1 p2).run some
def vI:Env:=⟨tau,[(69,FC)],[]⟩
def Oa:Code:=(Tryz.f46.body).getD .skip
def Em (dZ:Bool) (BF:Bool) (aV:List Int) (bA:List Int) (bW:Int) (dB:(Int×(Int×Unit))):(Int×(List Int))→St:=fun x=>bP [(1,(.imm dZ .il aV)),(3,(.ptr (5,0) [])),(7,(.ref (9,0) [])),(11,(.imm BF .il bA)),(12,(.i bW)),(13,(.i x.1))] [((5,0),some ⟨true,aL,.own,dB⟩),((9,0),some ⟨false,.il,.own,x.2⟩)]
def BZ (_:Bool) (_:Bool) (_:List Int) (_:List Int) (_:Int) (_:(Int×(Int×Unit))):(List Int)→Ex×St:=fun x=>(.exit 0,bP [(7,(.ref (9,0) []))] [((9,0),some ⟨false,.il,.own,x⟩)])
def X5 (s:St):Tre (Ex×St):=
 aZ .il (s.tmps 1) fun z3 d2=>
 eF (5,0) [] (s.tmps 3)<|
 dI (9,0) [] (s.tmps 7)<|
 aZ .il (s.tmps 11) fun z8 d7=>
 ay true .n (s.tmps 12) fun d10=>
 ay true .n (s.tmps 13) fun d12=>
 bg true aL (s.roots (5,0)) fun m14 d15=>
 asM .own m14<|
 bg false .il (s.roots (9,0)) fun m17 d18=>
 asM .own m17<|
 .mat (aO (kU d2 d7 d10 d15) (d12,d18)) fun x=>.ret (BZ z3 z8 d2 d7 d10 d15 x)
def oU:bq:=⟨([1,3,7,11,12,13],[(5,0),(9,0)]),([7],[(9,0)]),X5⟩
def CJ:List (Nat×bq):=[(3,oU)]
theorem Qy:∀(dZ BF:Bool)(aV bA:List Int)(bW:Int)(dB:(Int×(Int×Unit)))(x:(Int×(List Int)))(c:St→Option (Ex×St)),den vI CJ (aT Oa 0) (Em dZ BF aV bA bW dB x) (bR oU.kp oU.kx c)=(kU aV bA bW dB x).run (bS (Em dZ BF aV bA bW dB) (BZ dZ BF aV bA bW dB) c):=fun _ _ _ _ _ _ _ _=>by
 kernel_rfl
theorem U9:bQ vI CJ (aT Oa 0) oU:=bX fun _ _ _=>bY fun _ _=>jD<|fI<|bY fun _ _=>aJ fun _=>aJ fun _=>bV fun _ _=>tM<|bV fun _ _=>tM<|fun h _ e16 _ e13 e11 e9 e6 e5 e4 e1=>bO (Qy _ _ _ _ _ _) h (by subst_vars;exact aP rfl rfl ⟨e1,e4,e5,e6,e9,e11,trivial⟩ ⟨e13,e16,trivial⟩)
def aeY:FnI:=fnI Tryz.f46 CJ
def I5 (_:Bool) (_:Bool) (_:(Int×(Int×Unit))) (_:List Int) (_:List Int):(List Int)→au:=fun r=>⟨(.ref (1,0) []),[],[⟨false,.il,.own,r⟩]⟩
theorem ab3:∀(zp0 zp1:Bool)(p0:(Int×(Int×Unit)))(p1 p2:List Int),bJ vI aeY ⟨[(.imm true aL p0),(.imm zp0 .il p1),(.imm zp1 .il p2)],[]⟩=(I4 p0 p1 p2).run fun r=>some (I5 zp0 zp1 p0 p1 p2 r):=fun _ _ _ _ _=>by kernel_rfl
def aeX (av:List AV) (rs:List Root):Tre au:=
 aC av fun a0_ av0=>
 aC av0 fun a1_ av1=>
 aC av1 fun a2_ av2=>
 aM av2<|
 aM rs<|
 ay true aL a0_ fun d1=>
 aZ .il a1_ fun z3 d2=>
 aZ .il a2_ fun z5 d4=>
 .mat (pQ d1 d2 d4) fun r=>.ret (I5 z3 z5 d1 d2 d4 r)
def CK:Ctr:=dD [] aeX
theorem Lb:Contract Tryz.prog .none 46 CK:=aD (V:=vI) aW (ak N9 aCl aH) Tryz.func46 (bF (n:=1) fun k hk=>by
 match k,hk with
 |0,_=>exact bH (id:=3) U9) fun _ _ _=>aK fun _ _=>aK fun _ _=>aK fun _ _=>bf<|bf<|aJ fun _=>bY fun _ _=>bY fun _ _=>fun h=>by intros;subst_vars;exact bn (ab3 _ _ _ _ _) h
def yF (p0:aG) (p1:List Int):Tre (List Int):=
 .mat (pQ p0.1 p1 p0.2.1) fun r1=>
 .ret r1
def nR (p0:aG) (p1:List Int):Option (List Int):=(yF p0 p1).run some
-- more
theorem akH{f:TF3}(hf:aN f=true){P X:List Nat}(hP:inL (FOf f hf) P)(hl:P.length≤1000)(hX:inL (FOf f hf) X)(hXl:X.length≤1000):pQ f (aQ P) (aQ X)=some (aQ (X.map ((FOf f hf).lp P))):=by
 unfold pQ I4
 rw [ah (show aO (kU (aQ P) (aQ X) ((aQ X).length:Int) f) (0,[])=some (aQ (X.map ((FOf f hf).lp P))) from ?_),Tre.aF]
 refine dh (fun i=>((i:Int),aQ ((X.take i).map ((FOf f hf).lp P)))) X.length _ (fun i hi=>?_) ?_
 ·unfold kU
  dsimp only
  rw [dX (dL (eO hi)),ah (an2 hf hP hl (kC hX i)),Tre.run_ite,if_pos (by rw [aS,List.length_map,List.length_take];unfold bM;omega),Tre.aF,aR (by omega),List.take_add_one,eO hi,Option.toList_some,List.map_append,pW]
  rfl
 ·unfold kU
  dsimp only
  rw [aS,dF,Tre.aF,List.take_length]
theorem auG{f:TF3}(hf:aN f=true){P X:List Nat}(hP:inL (FOf f hf) P)(hl:P.length≤1000)(hX:inL (FOf f hf) X)(hXl:X.length≤1000)(k:Int):nR (f,aQ X,k,()) (aQ P)=some (aQ (X.map ((FOf f hf).lp P))):=by
 unfold nR yF
 dsimp only
 rw [ah (akH hf hP hl hX hXl),Tre.aF]
def Ep:Env:=⟨tau,[(46,CK)],[]⟩
def Ve:FnI:=fnI Tryz.f35 []
def Ai (_:Bool) (_:Bool) (_:aG) (_:List Int):(List Int)→au:=fun r=>⟨(.ref (1,0) []),[],[⟨false,.il,.own,r⟩]⟩
theorem TK:∀(zp0 zp1:Bool)(p0:aG)(p1:List Int),bJ Ep Ve ⟨[(.imm zp0 aX p0),(.imm zp1 .il p1)],[]⟩=(yF p0 p1).run fun r=>some (Ai zp0 zp1 p0 p1 r):=fun _ _ _ _=>by kernel_rfl
def Vd (av:List AV) (rs:List Root):Tre au:=
 aC av fun a0_ av0=>
 aC av0 fun a1_ av1=>
 aM av1<|
 aM rs<|
 aZ aX a0_ fun z2 d1=>
 aZ .il a1_ fun z4 d3=>
 .mat (nR d1 d3) fun r=>.ret (Ai z2 z4 d1 d3 r)
def Er:Ctr:=dD [] Vd
theorem TL:Contract Tryz.prog .none 35 Er:=aD (V:=Ep) aW (ak Lb aCf aH) Tryz.func35 bI fun _ _ _=>aK fun _ _=>aK fun _ _=>bf<|bf<|bY fun _ _=>bY fun _ _=>fun h=>by intros;subst_vars;exact bn (TK _ _ _ _) h
def CS (aV:List Int) (bA:Int):(Int×(List Int))→Tre ((Int×(List Int)) ⊕ (List Int)):=fun s3=>
 .cond (decide (s3.1<bA))
  (.ite (0≤s3.1∧s3.1<(aV.length:Int))<|
  .mat (aV[s3.1.toNat]?) fun x2=>
  .ite (0≤s3.1∧s3.1<(s3.2.length:Int))<|
  .mat (s3.2[s3.1.toNat]?) fun x3=>
  .ite (0≤s3.1∧s3.1<(s3.2.length:Int))<|
  .mat (s3.2[s3.1.toNat]?) fun _=>
  let v5:=s3.2.set s3.1.toNat (jw .i64 x3 x2)
  .ret (.inl (aI .i64 (s3.1+1),v5)))
  (.ret (.inr s3.2))
def aoZ (p0:List Int) (p1:List Int):Tre (List Int):=
 .mat (fT p0) fun r1=>
 .mat (aO (CS p1 (p1.length:Int)) (0,r1)) fun l6=>
 .ret l6
def XA (p0:List Int) (p1:List Int):Option (List Int):=(aoZ p0 p1).run some
-- more
theorem axy{f:TF3}(hf:aN f=true){pts w m:List Nat}(hw:inL (FOf f hf) w)(hl:w.length=pts.length)(hwl:w.length≤1000):XA (aQ w) (aQ (pts.map ((FOf f hf).lp m)))=some (aQ ((FOf f hf).GZ pts w m)):=by
 have hel:=(FOf f hf).UC (m:=m) hl
 have hst:∀i,i<w.length→(((FOf f hf).GZ pts w m).take i++w.drop i)[i]?=some (cf w i)∧(pts.map ((FOf f hf).lp m))[i]?=some ((FOf f hf).lp m (cf pts i))∧(((FOf f hf).GZ pts w m).take i++w.drop i).set i (cf w i^^^(FOf f hf).lp m (cf pts i))=((FOf f hf).GZ pts w m).take (i+1)++w.drop (i+1):=by
  intro i hi
  have hti:(((FOf f hf).GZ pts w m).take i).length=i:=by rw [List.length_take];omega
  have hwi:=eO hi
  have hpi:=eO (show i<pts.length by omega)
  have hei:((FOf f hf).GZ pts w m)[i]?=some (cf w i^^^(FOf f hf).lp m (cf pts i)):=by
   unfold FO.GZ
   rw [List.getElem?_map,List.getElem?_zip_eq_some.2 (show pts[i]?=some (cf pts i,cf w i).1∧w[i]?=some (cf pts i,cf w i).2 from ⟨hpi,hwi⟩)]
   rfl
  have hd:w.drop i=cf w i::w.drop (i+1):=by
   obtain ⟨h1,h2⟩:=List.getElem?_eq_some_iff.1 hwi
   rw [List.drop_eq_getElem_cons h1,h2]
  refine ⟨by rw [List.getElem?_append_right (by omega),hti,Nat.sub_self,hd];rfl,by rw [List.getElem?_map,hpi];rfl,?_⟩
  rw [List.set_append_right _ _ (by omega),hti,Nat.sub_self,hd,List.set_cons_zero,List.take_add_one,hei,Option.toList_some,List.append_assoc]
  rfl
 unfold XA aoZ
 rw [ah (show fT (aQ w)=some (aQ w) from FH (by rw [aS];omega))]
 rw [ah (show aO (CS (aQ (pts.map ((FOf f hf).lp m))) ((aQ (pts.map ((FOf f hf).lp m))).length:Int)) (0,aQ w)=some (aQ ((FOf f hf).GZ pts w m)) from ?_),Tre.aF]
 refine dh (fun i=>((i:Int),aQ (((FOf f hf).GZ pts w m).take i++w.drop i))) w.length _ (fun i hi=>?_) ?_
 ·obtain ⟨h1,h2,h3⟩:=hst i hi
  unfold CS
  dsimp only
  rw [dX (dL h2),dN (dL h1),dN (dL h1),Xq hf (kC hw i) ((FOf f hf).Y9 _ _),Int.toNat_natCast,←Vz,h3,Tre.aF,aR (by omega)]
 ·unfold CS
  dsimp only
  rw [aS,List.length_map,←hl,dF,Tre.aF,List.drop_length,List.append_nil,List.take_of_length_le (by omega)]
def XB:Env:=⟨tau,[(65,kJ)],[]⟩
def anV:Code:=(Tryz.f34.body).getD .skip
def YU (dZ:Bool) (aV:List Int) (bA:Int):(Int×(List Int))→St:=fun x=>bP [(5,(.ref (7,0) [])),(10,(.imm dZ .il aV)),(11,(.i bA)),(12,(.i x.1))] [((7,0),some ⟨false,.il,.own,x.2⟩)]
def Vr (_:Bool) (_:List Int) (_:Int):(List Int)→Ex×St:=fun x=>(.exit 0,bP [(5,(.ref (7,0) []))] [((7,0),some ⟨false,.il,.own,x⟩)])
def ao0 (s:St):Tre (Ex×St):=
 dI (7,0) [] (s.tmps 5)<|
 aZ .il (s.tmps 10) fun z4 d3=>
 ay true .n (s.tmps 11) fun d6=>
 ay true .n (s.tmps 12) fun d8=>
 bg false .il (s.roots (7,0)) fun m10 d11=>
 asM .own m10<|
 .mat (aO (CS d3 d6) (d8,d11)) fun x=>.ret (Vr z4 d3 d6 x)
def Hg:bq:=⟨([5,10,11,12],[(7,0)]),([5],[(7,0)]),ao0⟩
def ae3:List (Nat×bq):=[(3,Hg)]
theorem ahY:∀(dZ:Bool)(aV:List Int)(bA:Int)(x:(Int×(List Int)))(c:St→Option (Ex×St)),den XB ae3 (aT anV 0) (YU dZ aV bA x) (bR Hg.kp Hg.kx c)=(CS aV bA x).run (bS (YU dZ aV bA) (Vr dZ aV bA) c):=fun _ _ _ _ _=>by
 kernel_rfl
theorem amI:bQ XB ae3 (aT anV 0) Hg:=bX fun _ _ _=>fI<|bY fun _ _=>aJ fun _=>aJ fun _=>bV fun _ _=>tM<|fun h _ e9 e7 e5 e2 e1=>bO (ahY _ _ _) h (by subst_vars;exact aP rfl rfl ⟨e1,e2,e5,e7,trivial⟩ ⟨e9,trivial⟩)
def axt:FnI:=fnI Tryz.f34 ae3
def agG (_:Bool) (_:Bool) (_:List Int) (_:List Int):(List Int)→au:=fun r=>⟨(.ref (1,0) []),[],[⟨false,.il,.own,r⟩]⟩
theorem auv:∀(zp0 zp1:Bool)(p0 p1:List Int),bJ XB axt ⟨[(.imm zp0 .il p0),(.imm zp1 .il p1)],[]⟩=(aoZ p0 p1).run fun r=>some (agG zp0 zp1 p0 p1 r):=fun _ _ _ _=>by kernel_rfl
def axr (av:List AV) (rs:List Root):Tre au:=
 aC av fun a0_ av0=>
 aC av0 fun a1_ av1=>
 aM av1<|
 aM rs<|
 aZ .il a0_ fun z2 d1=>
 aZ .il a1_ fun z4 d3=>
 .mat (XA d1 d3) fun r=>.ret (agG z2 z4 d1 d3 r)
def anW:Ctr:=dD [] axr
theorem auw:Contract Tryz.prog .none 34 anW:=aD (V:=XB) aW (ak nk avH aH) Tryz.func34 (bF (n:=1) fun k hk=>by
 match k,hk with
 |0,_=>exact bH (id:=3) amI) fun _ _ _=>aK fun _ _=>aK fun _ _=>bf<|bf<|bY fun _ _=>bY fun _ _=>fun h=>by intros;subst_vars;exact bn (auv _ _ _ _) h
def akm (p0:List Int):Tre Int:=
 .mat (aq9 p0) fun r1=>
 .ret (r1.length:Int)
def QI (p0:List Int):Option Int:=(akm p0).run some
-- more
theorem aBp{f:TF3}(hf:aN f=true){L:List Nat}(h:inL (FOf f hf) L)(hl:L.length≤1000):QI (aQ L)=some (rkN L:Int):=by
 have h5:=(Xx hf).2
 unfold QI akm
 rw [ah (show aq9 (aQ L)=some _ from jJ (apc hf h hl (by omega))),Tre.aF,az8]
def akn:Env:=⟨tau,[(64,Li),(45,kF)],[]⟩
def auA:FnI:=fnI Tryz.f33 []
def acg (_:Bool) (_:List Int):Int→au:=fun r=>⟨(.i r),[],[]⟩
theorem arG:∀(zp0:Bool)(p0:List Int),bJ akn auA ⟨[(.imm zp0 .il p0)],[]⟩=(akm p0).run fun r=>some (acg zp0 p0 r):=fun _ _=>by kernel_rfl
def auz (av:List AV) (rs:List Root):Tre au:=
 aC av fun a0_ av0=>
 aM av0<|
 aM rs<|
 aZ .il a0_ fun z2 d1=>
 .mat (QI d1) fun r=>.ret (acg z2 d1 r)
def ako:Ctr:=dD [] auz
theorem arH:Contract Tryz.prog .none 33 ako:=aD (V:=akn) aW (ak QG ay9 (ak lD ajO aH)) Tryz.func33 bI fun _ _ _=>aK fun _ _=>bf<|bf<|bY fun _ _=>fun h=>by intros;subst_vars;exact bn (arG _ _) h
def gY (pI:Int) (UL:Int) (DC:(Int×(Int×Unit))):(Int×(List Int))→Tre ((Int×(List Int)) ⊕ (List Int)):=fun s7=>
 .cond (decide (s7.1<UL))
  (.mat (gG DC pI s7.1) fun r2=>
  .ite ((s7.2.length+1)*8≤bM∧1≤8)<|
  .ret (.inl (aI .i64 (s7.1+1),s7.2++([r2]))))
  (.ret (.inr s7.2))
def gH (jZ:Int) (KS:Int) (zW:aG) (Dm:(Int×(Int×Unit))):(Int×(List Int))→Tre ((Int×(List Int)) ⊕ (List Int)):=fun s12=>
 .cond (decide (s12.1<KS))
  (.ite (0≤jZ∧jZ<(zW.2.1.length:Int))<|
  .mat (zW.2.1[jZ.toNat]?) fun x5=>
  .mat (gG Dm x5 s12.1) fun r6=>
  .ite ((s12.2.length+1)*8≤bM∧1≤8)<|
  .ret (.inl (aI .i64 (s12.1+1),s12.2++([r6]))))
  (.ret (.inr s12.2))
def gX (bA:Int) (bW:List Int) (dY:Int) (iZ:aG) (Iy:(Int×(Int×Unit))):(Int×(List (List Int)))→Tre ((Int×(List (List Int))) ⊕ (List (List Int))):=fun s3=>
 .cond (decide (s3.1<dY))
  (.ite (0≤s3.1∧s3.1<(bW.length:Int))<|
  .mat (bW[s3.1.toNat]?) fun x1=>
  .mat (aO (gY x1 (aI .i64 (bA+1)) Iy) (0,[])) fun l3=>
  let v4:=aI .i64 (bA+iZ.2.2.1)
  .mat (aO (gH s3.1 v4 iZ Iy) (0,l3)) fun l7=>
  .ite ((s3.2.length+1)*24≤bM∧1≤24)<|
  .ret (.inl (aI .i64 (s3.1+1),s3.2++([l7]))))
  (.ret (.inr s3.2))
def yE (p0:aG) (p1:List Int):Tre (Bool×(List Int)):=
 .mat (aO (gX (eY p0) p1 (p1.length:Int) p0 p0.1) (0,[])) fun l8=>
 let v9:=aI .i64 (2*(eY p0))
 let v10:=aI .i64 ((aI .i64 (v9+1))+p0.2.2.1)
 .mat (kR p0.1 v10 l8) fun r11=>
 .alt r11
  (fun _=>
   .ret (false,[]))
  (fun b13=>
   .ite (0<b13.length)<|
   let v14:=aI .i64 ((eY p0)+1)
   .ite (0≤(0:Int)∧(0:Int)≤v14∧v14≤(b13.length:Int))<|
   let v15:=(b13.drop 0).take (v14-0).toNat
   .mat (Vy v15) fun r16=>
   .ite (0≤v14∧v14≤(b13.length:Int)∧(b13.length:Int)≤(b13.length:Int))<|
   let v17:=(b13.drop v14.toNat).take ((b13.length:Int)-v14).toNat
   .mat (Vy v17) fun r18=>
   .cond (decide ((r16.length:Int)=0))
    (.ret (false,[]))
    (.mat (jO p0.1 r18 r16 false) fun r19=>
    .cond (decide ((r19.2.length:Int)>0))
     (.ret (false,[]))
     (.cond (decide ((r19.1.length:Int)>p0.2.2.1))
      (.ret (false,[]))
      (let v20:=aI .i64 (p0.2.2.1-(r19.1.length:Int))
      .ite (0≤v20∧(r19.1.length+v20.toNat)*8≤bM∧1≤8)<|
      let v21:=r19.1++List.replicate v20.toNat 0
      .mat (nR p0 v21) fun r22=>
      .mat (XA p1 r22) fun r23=>
      .mat (QI r23) fun r24=>
      .ret (decide (r24≤(eY p0)),v21)))))
def kD (p0:aG) (p1:List Int):Option (Bool×(List Int)):=(yE p0 p1).run some
-- more
theorem XT(F:FO)(n x:Nat):F.zP (n+1) x=F.zP n x++[F.sqn n x]:=by
 unfold FO.zP
 rw [List.range_succ,List.map_append]
 rfl
theorem aww{F:FO}{k:Nat}{A:List Nat}(h:inL F A):inL F (oM k A):=acs h fun x hx=>by rw [(List.mem_replicate.1 hx).2];exact F.zlt
def ahE {f:TF3} (hf:aN f=true) (P W:List Nat) (k t:Nat):Option (List Nat):=by
 classical
 exact if (D9 f (2*t+1+k) (OO hf t k P W)).length=2*t+1+k then none else if h:∃m,abF hf P W k t m then some (Classical.choose h) else none
theorem anM{f:TF3}{hf:aN f=true}{P W:List Nat}{k t:Nat}(h:(D9 f (2*t+1+k) (OO hf t k P W)).length=2*t+1+k):ahE hf P W k t=none:=by
 unfold ahE;rw [if_pos h]
theorem Cu{f:TF3}{hf:aN f=true}{P W:List Nat}{k t:Nat}(h:∀m,¬abF hf P W k t m):ahE hf P W k t=none:=by
 unfold ahE
 split
 ·rfl
 ·rw [dif_neg fun ⟨m,hm⟩=>h m hm]
theorem anN{f:TF3}{hf:aN f=true}{P W:List Nat}{k t:Nat}{m:List Nat}(h:(D9 f (2*t+1+k) (OO hf t k P W)).length≠2*t+1+k)(hm:abF hf P W k t m)(hu:∀m',abF hf P W k t m'→m'=m):ahE hf P W k t=some m:=by
 unfold ahE
 rw [if_neg h,dif_pos ⟨m,hm⟩,hu _ (Classical.choose_spec (⟨m,hm⟩:∃m,abF hf P W k t m))]
theorem awZ{f:TF3}{hf:aN f=true}{P W:List Nat}{k t:Nat}{m:List Nat}(h:ahE hf P W k t=some m):abF hf P W k t m:=by
 unfold ahE at h
 split at h
 ·cases h
 ·split at h
  ·rename_i h1
   rw [←Option.some.inj h]
   exact Classical.choose_spec h1
  ·cases h
theorem auK{f:TF3}{P:List Nat}{k:Nat}(hk:k≤P.length)(hn:P.length≤1000):eY (f,aQ P,(k:Int),())=(((P.length-k)/2:Nat):Int):=by
 unfold eY
 dsimp only
 rw [aS,show aI .i64 ((P.length:Int)-(k:Int))=((P.length-k:Nat):Int) by rw [dP (by omega) (by omega)];omega]
 rw [show Int.tdiv ((P.length-k:Nat):Int) 2=(((P.length-k)/2:Nat):Int) from (Int.ofNat_tdiv (P.length-k) 2).symm]
 exact Ih (by omega)
theorem XM{f:TF3}(hf:aN f=true){P W:List Nat}{t k:Nat}(hl:W.length=P.length):(OO hf t k P W).length=P.length:=by
 unfold OO
 rw [List.length_map,List.length_zip,hl,Nat.min_self]
theorem aol{f:TF3}(hf:aN f=true){P W:List Nat}{t k i:Nat}(hl:W.length=P.length)(hi:i<P.length):(OO hf t k P W)[i]?=some (aQ (asD hf t k (cf P i) (cf W i))):=by
 unfold OO
 rw [List.getElem?_map,List.getElem?_zip_eq_some.2 (show P[i]?=some (cf P i,cf W i).1∧W[i]?=some (cf P i,cf W i).2 from ⟨eO hi,eO (by omega)⟩)]
 rfl
theorem axz{f:TF3}(hf:aN f=true){P W:List Nat}{k t:Nat}(hP:inL (FOf f hf) P)(hW:inL (FOf f hf) W)(hl:W.length=P.length)(hn:P.length≤1000)(hk:k≤1000)(ht:t≤1000) :
  aO (gX (t:Int) (aQ W) ((aQ W).length:Int) (f,aQ P,(k:Int),()) f) (0,[])=some (OO hf t k P W):=by
 have hrl:=XM hf (t:=t) (k:=k) hl
 refine dh (fun i=>((i:Int),(OO hf t k P W).take i)) P.length _ (fun i hi=>?_) ?_
 ·have hwi:=eO (show i<W.length by omega)
  have hpi:=eO hi
  have ht1:aI .i64 ((t:Int)+1)=((t+1:Nat):Int):=aR (by omega)
  have htk:aI .i64 ((t:Int)+(k:Int))=((t+k:Nat):Int):=by rw [dP (by omega) (by omega)];omega
  have h1:aO (gY (cf W i:Int) ((t+1:Nat):Int) f) (0,[])=some (aQ ((FOf f hf).zP (t+1) (cf W i))):=by
   refine dh (fun j=>((j:Int),aQ ((FOf f hf).zP j (cf W i)))) (t+1) _ (fun j hj=>?_) ?_
   ·unfold gY
    dsimp only
    rw [Tre.aA,decide_eq_true (by omega),cond_true,ah (akF hf (kC hW i) j),Tre.run_ite,if_pos (by rw [aS,FO.Bz];unfold bM;omega),Tre.aF,aR (by omega),XT,pW]
    rfl
   ·unfold gY
    dsimp only
    rw [dF,Tre.aF]
  have h2:aO (gH (i:Int) ((t+k:Nat):Int) (f,aQ P,(k:Int),()) f) (0,aQ ((FOf f hf).zP (t+1) (cf W i)))=some (aQ (asD hf t k (cf P i) (cf W i))):=by
   have h0:aQ ((FOf f hf).zP (t+1) (cf W i))=aQ ((FOf f hf).zP (t+1) (cf W i)++(FOf f hf).zP 0 (cf P i)):=by
    rw [show (FOf f hf).zP 0 (cf P i)=[] from rfl,List.append_nil]
   rw [h0]
   refine dh (fun j=>((j:Int),aQ ((FOf f hf).zP (t+1) (cf W i)++(FOf f hf).zP j (cf P i)))) (t+k) _ (fun j hj=>?_) ?_
   ·unfold gH
    dsimp only
    rw [Tre.aA,decide_eq_true (by omega),cond_true,dN (dL hpi),ah (akF hf (kC hP i) j),Tre.run_ite,if_pos (by rw [aS,List.length_append,FO.Bz,FO.Bz];unfold bM;omega),Tre.aF,aR (by omega),XT _ j,←List.append_assoc,pW (_++_) [_]]
    rfl
   ·unfold gH
    dsimp only
    rw [dF,Tre.aF]
    rfl
  unfold gX
  dsimp only
  rw [dX (dL hwi),ht1,ah h1,htk,ah h2,Tre.run_ite,if_pos (by rw [List.length_take];unfold bM;omega),Tre.aF,aR (by omega),List.take_add_one,aol hf hl hi]
  rfl
 ·unfold gX
  dsimp only
  rw [aS,hl,dF,Tre.aF,List.take_of_length_le (by omega)]
theorem akE{V N:List Nat}{t:Nat}(h:V.length=t+1):((aQ (V++N)).drop 0).take (((t+1:Nat):Int)-0).toNat=aQ V∧((aQ (V++N)).drop ((t+1:Nat):Int).toNat).take (((aQ (V++N)).length:Int)-((t+1:Nat):Int)).toNat=aQ N:=by
 have hl:(aQ V).length=t+1:=by rw [aS,h]
 rw [List.drop_zero,show (((t+1:Nat):Int)-0).toNat=t+1 by omega,Int.toNat_natCast,aS,List.length_append,h,pW]
 refine ⟨by rw [List.take_append_of_le_length (by omega),List.take_of_length_le (by omega)],?_⟩
 rw [List.drop_append_of_le_length (by omega),List.drop_of_length_le (by omega),List.nil_append,List.take_of_length_le (by rw [aS];omega)]
theorem akB{f:TF3}(hf:aN f=true){P W:List Nat}{k:Nat}(hi:FO.wU P)(hP:inL (FOf f hf) P)(hW:inL (FOf f hf) W)(hl:W.length=P.length)(hn:P.length≤10)(hk:1≤k)(hkn:k≤P.length) :
  (∃m,ahE hf P W k ((P.length-k)/2)=some m∧kD (f,aQ P,(k:Int),()) (aQ W)=some (true,aQ m))∨(ahE hf P W k ((P.length-k)/2)=none∧∃M,kD (f,aQ P,(k:Int),()) (aQ W)=some (false,M)):=by
 generalize ht:(P.length-k)/2=t
 have hr:eY (f,aQ P,(k:Int),())=(t:Int):=by rw [auK hkn (by omega),ht]
 have h2t:2*t+k≤P.length:=by omega
 have hrows:=axz hf hP hW hl (by omega) (show k≤1000 by omega) (show t≤1000 by omega)
 have hgr:=asE hf (t:=t) (k:=k) hP hW
 have hrl:=XM hf (t:=t) (k:=k) hl
 have h9:aI .i64 (2*(t:Int))=((2*t:Nat):Int):=by rw [dP (by omega) (by omega)];omega
 have h10:aI .i64 (((2*t:Nat):Int)+1)=((2*t+1:Nat):Int):=aR (by omega)
 have h11:aI .i64 (((2*t+1:Nat):Int)+(k:Int))=((2*t+1+k:Nat):Int):=by rw [dP (by omega) (by omega)];omega
 have ht1:aI .i64 ((t:Int)+1)=((t+1:Nat):Int):=aR (by omega)
 unfold kD yE
 dsimp only
 rw [hr,ah hrows,h9,h10,h11]
 rcases auI hf (show 2*t+1+k≤1000 by omega) hgr (by omega) with ⟨hfull,hke⟩|⟨hnf,x,hke,hker⟩
 ·exact .inr ⟨anM hfull,[],by rw [ah hke];rfl⟩
 obtain ⟨V,N,rfl,hV,hN,hVi,hNi,hx,ho⟩:=an4 hf hP hW hker
 have hall:∀m,abF hf P W k t m→_:=fun m hm=>avD hf hi hP hW hl (by omega) hk h2t hm hV hN hVi hNi hx ho
 obtain ⟨hp1,hp2⟩:=akE (N:=N) hV
 have hxl:(aQ (V++N)).length=2*t+1+k:=by rw [aS,List.length_append];omega
 have hvt:=iP V
 have hnt:=iP N
 rw [ah hke,Tre.apP,Tre.run_ite,if_pos (by omega),ht1,Tre.run_ite,if_pos (by omega),hp1,ah (arV (by omega)),Tre.run_ite,if_pos (by omega),hp2,ah (arV (by omega)),Tre.aA]
 by_cases hv0:cB V=[]
 ·refine .inr ⟨Cu fun m hm=>(hall m hm).1 hv0,[],?_⟩
  rw [decide_eq_true (by rw [aS,hv0];rfl)];rfl
 have hvpos:=List.length_pos_iff.2 hv0
 obtain ⟨A,R,hd1,hd2,hd3,hd4⟩:=akC hf (pV hNi) (pV hVi) hv0 (oI V) (oI N) (by omega) (by omega)
 rw [decide_eq_false (by rw [aS];omega),cond_false,ah hd1,Tre.aA]
 by_cases hR:R=[]
 ·rw [decide_eq_false (by rw [hR];show ¬((0:Nat):Int)>0;decide),cond_false,Tre.aA]
  by_cases hA:A.length≤k
  ·have hw20:aI .i64 ((k:Int)-((aQ A).length:Int))=((k-A.length:Nat):Int):=by rw [aS,dP (by omega) (by omega)];omega
   have hpad:aQ A++List.replicate (k-A.length) (0:Int)=aQ (oM k A):=by unfold oM;rw [pW,yL]
   have hMi:=aww (k:=k) hd2.ia
   have hMl:(oM k A).length=k:=V8 hA
   have hel:=(FOf f hf).UC (m:=oM k A) hl
   rw [decide_eq_false (by rw [aS];omega),cond_false,hw20,Int.toNat_natCast,Tre.run_ite,if_pos ⟨by omega,by rw [aS];unfold bM;omega,by omega⟩,hpad]
   rw [ah (auG hf hMi (by omega) hP (by omega) _),ah (axy hf hW hl (by omega)),ah (aBp hf ((FOf f hf).aoS hW) (by omega)),Tre.aF]
   by_cases hrk:rkN ((FOf f hf).GZ P W (oM k A))≤t
   ·refine .inl ⟨oM k A,anN hnf ⟨hMl,hMi,hrk⟩ fun m' hm'=>?_,by rw [decide_eq_true (by omega)]⟩
    obtain ⟨he,_⟩:=(hall m' hm').2 A R hd2 hd3
    rw [he,Rc hm'.1]
   ·refine .inr ⟨Cu fun m hm=>hrk ?_,_,by rw [decide_eq_false (by omega)]⟩
    obtain ⟨he,_⟩:=(hall m hm).2 A R hd2 hd3
    rw [he,Rc hm.1]
    exact hm.2.2
  ·refine .inr ⟨Cu fun m hm=>hA ?_,[],?_⟩
   ·obtain ⟨he,_⟩:=(hall m hm).2 A R hd2 hd3
    have:=iP m
    rw [he]
    have:=hm.1
    omega
   ·rw [decide_eq_true (by rw [aS];omega)];rfl
 ·have hRp:=List.length_pos_iff.2 hR
  refine .inr ⟨Cu fun m hm=>hR ((hall m hm).2 A R hd2 hd3).2,[],?_⟩
  rw [decide_eq_true (by rw [aS];omega)];rfl
def fF:Env:=⟨tau,[(61,Et),(62,mD),(63,K7),(48,arL),(47,Cz),(45,kF),(35,Er),(34,anW),(33,ako)],[(1000002,[((17,0),[],false)])]⟩
def iJ:Code:=(Tryz.f32.body).getD .skip
def xg (avp:Bool) (avq:Bool) (avr:Bool) (yB:List Int) (pG:Int) (ZW:Int) (pI:Int) (yC:List Int) (ZX:Int) (ZY:Int) (UL:Int) (Z0:aG) (DC:(Int×(Int×Unit))) (Qp:(List (List Int))):(Int×(List Int))→St:=fun x=>bP [(1,(.imm avp .il yB)),(2,(.ptr (4,0) [])),(6,(.ptr (8,0) [])),(7,(.i pG)),(8,(.ref (10,0) [])),(9,(.i ZW)),(10,(.i pI)),(11,(.ref (13,0) [])),(24,(.imm avq .il yC)),(25,(.i ZX)),(26,(.i ZY)),(33,(.i UL)),(34,(.i x.1))] [((4,0),some ⟨true,aX,(.imm avr),Z0⟩),((8,0),some ⟨true,aL,.own,DC⟩),((10,0),some ⟨false,(.sl .il),.own,Qp⟩),((13,0),some ⟨false,.il,.own,x.2⟩)]
def wD (avp:Bool) (avq:Bool) (avr:Bool) (yB:List Int) (pG:Int) (ZW:Int) (_:Int) (yC:List Int) (ZX:Int) (ZY:Int) (_:Int) (Z0:aG) (DC:(Int×(Int×Unit))) (Qp:(List (List Int))):(List Int)→Ex×St:=fun x=>(.exit 2,bP [(1,(.imm avp .il yB)),(2,(.ptr (4,0) [])),(6,(.ptr (8,0) [])),(7,(.i pG)),(8,(.ref (10,0) [])),(9,(.i ZW)),(11,(.ref (13,0) [])),(24,(.imm avq .il yC)),(25,(.i ZX)),(26,(.i ZY))] [((4,0),some ⟨true,aX,(.imm avr),Z0⟩),((8,0),some ⟨true,aL,.own,DC⟩),((10,0),some ⟨false,(.sl .il),.own,Qp⟩),((13,0),some ⟨false,.il,.own,x⟩)])
def Oc (s:St):Tre (Ex×St):=
 aZ .il (s.tmps 1) fun z3 d2=>
 eF (4,0) [] (s.tmps 2)<|
 eF (8,0) [] (s.tmps 6)<|
 ay true .n (s.tmps 7) fun d7=>
 dI (10,0) [] (s.tmps 8)<|
 ay true .n (s.tmps 9) fun d10=>
 ay true .n (s.tmps 10) fun d12=>
 dI (13,0) [] (s.tmps 11)<|
 aZ .il (s.tmps 24) fun z16 d15=>
 ay true .n (s.tmps 25) fun d18=>
 ay true .n (s.tmps 26) fun d20=>
 ay true .n (s.tmps 33) fun d22=>
 ay true .n (s.tmps 34) fun d24=>
 bg true aX (s.roots (4,0)) fun m26 d27=>
 lu m26 fun z28=>
 bg true aL (s.roots (8,0)) fun m30 d31=>
 asM .own m30<|
 bg false (.sl .il) (s.roots (10,0)) fun m33 d34=>
 asM .own m33<|
 bg false .il (s.roots (13,0)) fun m36 d37=>
 asM .own m36<|
 .mat (aO (gY d12 d22 d31) (d24,d37)) fun x=>.ret (wD z3 z16 z28 d2 d7 d10 d12 d15 d18 d20 d22 d27 d31 d34 x)
def kW:bq:=⟨([1,2,6,7,8,9,10,11,24,25,26,33,34],[(4,0),(8,0),(10,0),(13,0)]),([1,2,6,7,8,9,11,24,25,26],[(4,0),(8,0),(10,0),(13,0)]),Oc⟩
def wB (Kl:Bool) (Km:Bool) (ami:Bool) (jY:List Int) (qF:Int) (jZ:Int) (kP:List Int) (P8:Int) (qG:Int) (KS:Int) (zW:aG) (Dm:(Int×(Int×Unit))) (Ir:(List (List Int))):(Int×(List Int))→St:=fun x=>bP [(1,(.imm Kl .il jY)),(2,(.ptr (4,0) [])),(6,(.ptr (8,0) [])),(7,(.i qF)),(8,(.ref (10,0) [])),(9,(.i jZ)),(11,(.ref (13,0) [])),(24,(.imm Km .il kP)),(25,(.i P8)),(26,(.i qG)),(48,(.i KS)),(49,(.i x.1))] [((4,0),some ⟨true,aX,(.imm ami),zW⟩),((8,0),some ⟨true,aL,.own,Dm⟩),((10,0),some ⟨false,(.sl .il),.own,Ir⟩),((13,0),some ⟨false,.il,.own,x.2⟩)]
def uL (Kl:Bool) (Km:Bool) (ami:Bool) (jY:List Int) (qF:Int) (_:Int) (kP:List Int) (P8:Int) (qG:Int) (_:Int) (zW:aG) (Dm:(Int×(Int×Unit))) (Ir:(List (List Int))):(List Int)→Ex×St:=fun x=>(.exit 4,bP [(1,(.imm Kl .il jY)),(2,(.ptr (4,0) [])),(6,(.ptr (8,0) [])),(7,(.i qF)),(8,(.ref (10,0) [])),(11,(.ref (13,0) [])),(24,(.imm Km .il kP)),(25,(.i P8)),(26,(.i qG))] [((4,0),some ⟨true,aX,(.imm ami),zW⟩),((8,0),some ⟨true,aL,.own,Dm⟩),((10,0),some ⟨false,(.sl .il),.own,Ir⟩),((13,0),some ⟨false,.il,.own,x⟩)])
def MQ (s:St):Tre (Ex×St):=
 aZ .il (s.tmps 1) fun z3 d2=>
 eF (4,0) [] (s.tmps 2)<|
 eF (8,0) [] (s.tmps 6)<|
 ay true .n (s.tmps 7) fun d7=>
 dI (10,0) [] (s.tmps 8)<|
 ay true .n (s.tmps 9) fun d10=>
 dI (13,0) [] (s.tmps 11)<|
 aZ .il (s.tmps 24) fun z14 d13=>
 ay true .n (s.tmps 25) fun d16=>
 ay true .n (s.tmps 26) fun d18=>
 ay true .n (s.tmps 48) fun d20=>
 ay true .n (s.tmps 49) fun d22=>
 bg true aX (s.roots (4,0)) fun m24 d25=>
 lu m24 fun z26=>
 bg true aL (s.roots (8,0)) fun m28 d29=>
 asM .own m28<|
 bg false (.sl .il) (s.roots (10,0)) fun m31 d32=>
 asM .own m31<|
 bg false .il (s.roots (13,0)) fun m34 d35=>
 asM .own m34<|
 .mat (aO (gH d10 d20 d25 d29) (d22,d35)) fun x=>.ret (uL z3 z14 z26 d2 d7 d10 d13 d16 d18 d20 d25 d29 d32 x)
def j5:bq:=⟨([1,2,6,7,8,9,11,24,25,26,48,49],[(4,0),(8,0),(10,0),(13,0)]),([1,2,6,7,8,11,24,25,26],[(4,0),(8,0),(10,0),(13,0)]),MQ⟩
def w9 (dZ:Bool) (BF:Bool) (avo:Bool) (aV:List Int) (bA:Int) (bW:List Int) (dY:Int) (iZ:aG) (Iy:(Int×(Int×Unit))):(Int×(List (List Int)))→St:=fun x=>bP [(1,(.imm dZ .il aV)),(2,(.ptr (4,0) [])),(6,(.ptr (8,0) [])),(7,(.i bA)),(8,(.ref (10,0) [])),(24,(.imm BF .il bW)),(25,(.i dY)),(26,(.i x.1))] [((4,0),some ⟨true,aX,(.imm avo),iZ⟩),((8,0),some ⟨true,aL,.own,Iy⟩),((10,0),some ⟨false,(.sl .il),.own,x.2⟩)]
def wC (dZ:Bool) (_:Bool) (avo:Bool) (aV:List Int) (bA:Int) (_:List Int) (_:Int) (iZ:aG) (Iy:(Int×(Int×Unit))):(List (List Int))→Ex×St:=fun x=>(.exit 0,bP [(1,(.imm dZ .il aV)),(2,(.ptr (4,0) [])),(6,(.ptr (8,0) [])),(7,(.i bA)),(8,(.ref (10,0) []))] [((4,0),some ⟨true,aX,(.imm avo),iZ⟩),((8,0),some ⟨true,aL,.own,Iy⟩),((10,0),some ⟨false,(.sl .il),.own,x⟩)])
def Ob (s:St):Tre (Ex×St):=
 aZ .il (s.tmps 1) fun z3 d2=>
 eF (4,0) [] (s.tmps 2)<|
 eF (8,0) [] (s.tmps 6)<|
 ay true .n (s.tmps 7) fun d7=>
 dI (10,0) [] (s.tmps 8)<|
 aZ .il (s.tmps 24) fun z11 d10=>
 ay true .n (s.tmps 25) fun d13=>
 ay true .n (s.tmps 26) fun d15=>
 bg true aX (s.roots (4,0)) fun m17 d18=>
 lu m17 fun z19=>
 bg true aL (s.roots (8,0)) fun m21 d22=>
 asM .own m21<|
 bg false (.sl .il) (s.roots (10,0)) fun m24 d25=>
 asM .own m24<|
 .mat (aO (gX d7 d10 d13 d18 d22) (d15,d25)) fun x=>.ret (wC z3 z11 z19 d2 d7 d10 d13 d18 d22 x)
def kV:bq:=⟨([1,2,6,7,8,24,25,26],[(4,0),(8,0),(10,0)]),([1,2,6,7,8],[(4,0),(8,0),(10,0)]),Ob⟩
def fV:List (Nat×bq):=[(7,kW),(12,j5),(3,kV)]
theorem Jb:∀(avp avq avr:Bool)(yB:List Int)(pG ZW pI:Int)(yC:List Int)(ZX ZY UL:Int)(Z0:aG)(DC:(Int×(Int×Unit)))(Qp:(List (List Int)))(x:(Int×(List Int)))(c:St→Option (Ex×St)),den fF fV (aT iJ 1) (xg avp avq avr yB pG ZW pI yC ZX ZY UL Z0 DC Qp x) (bR kW.kp kW.kx c)=(gY pI UL DC x).run (bS (xg avp avq avr yB pG ZW pI yC ZX ZY UL Z0 DC Qp) (wD avp avq avr yB pG ZW pI yC ZX ZY UL Z0 DC Qp) c):=fun _ _ _ _ _ _ _ _ _ _ _ _ _ _ _ _=>by
 kernel_rfl
theorem MS:bQ fF fV (aT iJ 1) kW:=bX fun _ _ _=>bY fun _ _=>jD<|jD<|aJ fun _=>fI<|aJ fun _=>aJ fun _=>fI<|bY fun _ _=>aJ fun _=>aJ fun _=>aJ fun _=>aJ fun _=>bV fun _ _=>BA fun _=>bV fun _ _=>tM<|bV fun _ _=>tM<|bV fun _ _=>tM<|fun h _ e35 _ e32 _ e29 _ e25 e23 e21 e19 e17 e14 e13 e11 e9 e8 e6 e5 e4 e1=>bO (Jb _ _ _ _ _ _ _ _ _ _ _ _ _ _) h (by subst_vars;exact aP rfl rfl ⟨e1,e4,e5,e6,e8,e9,e11,e13,e14,e17,e19,e21,e23,trivial⟩ ⟨e25,e29,e32,e35,trivial⟩)
theorem He:∀(Kl Km ami:Bool)(jY:List Int)(qF jZ:Int)(kP:List Int)(P8 qG KS:Int)(zW:aG)(Dm:(Int×(Int×Unit)))(Ir:(List (List Int)))(x:(Int×(List Int)))(c:St→Option (Ex×St)),den fF fV (aT iJ 2) (wB Kl Km ami jY qF jZ kP P8 qG KS zW Dm Ir x) (bR j5.kp j5.kx c)=(gH jZ KS zW Dm x).run (bS (wB Kl Km ami jY qF jZ kP P8 qG KS zW Dm Ir) (uL Kl Km ami jY qF jZ kP P8 qG KS zW Dm Ir) c):=fun _ _ _ _ _ _ _ _ _ _ _ _ _ _ _=>by
 kernel_rfl
theorem Kv:bQ fF fV (aT iJ 2) j5:=bX fun _ _ _=>bY fun _ _=>jD<|jD<|aJ fun _=>fI<|aJ fun _=>fI<|bY fun _ _=>aJ fun _=>aJ fun _=>aJ fun _=>aJ fun _=>bV fun _ _=>BA fun _=>bV fun _ _=>tM<|bV fun _ _=>tM<|bV fun _ _=>tM<|fun h _ e33 _ e30 _ e27 _ e23 e21 e19 e17 e15 e12 e11 e9 e8 e6 e5 e4 e1=>bO (He _ _ _ _ _ _ _ _ _ _ _ _ _) h (by subst_vars;exact aP rfl rfl ⟨e1,e4,e5,e6,e8,e9,e11,e12,e15,e17,e19,e21,trivial⟩ ⟨e23,e27,e30,e33,trivial⟩)
theorem Ja:∀(dZ BF avo:Bool)(aV:List Int)(bA:Int)(bW:List Int)(dY:Int)(iZ:aG)(Iy:(Int×(Int×Unit)))(x:(Int×(List (List Int))))(c:St→Option (Ex×St)),den fF fV (aT iJ 0) (w9 dZ BF avo aV bA bW dY iZ Iy x) (bR kV.kp kV.kx c)=(gX bA bW dY iZ Iy x).run (bS (w9 dZ BF avo aV bA bW dY iZ Iy) (wC dZ BF avo aV bA bW dY iZ Iy) c):=fun _ _ _ _ _ _ _ _ _ _ _=>by
 kernel_rfl
theorem MR:bQ fF fV (aT iJ 0) kV:=bX fun _ _ _=>bY fun _ _=>jD<|jD<|aJ fun _=>fI<|bY fun _ _=>aJ fun _=>aJ fun _=>bV fun _ _=>BA fun _=>bV fun _ _=>tM<|bV fun _ _=>tM<|fun h _ e23 _ e20 _ e16 e14 e12 e9 e8 e6 e5 e4 e1=>bO (Ja _ _ _ _ _ _ _ _ _) h (by subst_vars;exact aP rfl rfl ⟨e1,e4,e5,e6,e8,e9,e12,e14,trivial⟩ ⟨e16,e20,e23,trivial⟩)
def Vb:FnI:=fnI Tryz.f32 fV
def Ah (_:Bool) (_:Bool) (_:aG) (_:List Int):(Bool×(List Int))→au:=fun r=>⟨(.tcons (.ref (1,0) []) (.tcons (.imm true .bool r.1) .tnil)),[],[⟨false,.il,.own,r.2⟩]⟩
theorem TH:∀(zp0 zp1:Bool)(p0:aG)(p1:List Int),bJ fF Vb ⟨[(.imm zp0 aX p0),(.imm zp1 .il p1)],[]⟩=(yE p0 p1).run fun r=>some (Ah zp0 zp1 p0 p1 r):=fun _ _ _ _=>by kernel_rfl
def Va (av:List AV) (rs:List Root):Tre au:=
 aC av fun a0_ av0=>
 aC av0 fun a1_ av1=>
 aM av1<|
 aM rs<|
 aZ aX a0_ fun z2 d1=>
 aZ .il a1_ fun z4 d3=>
 .mat (kD d1 d3) fun r=>.ret (Ah z2 z4 d1 d3 r)
def Eo:Ctr:=dD [] Va
theorem TJ:Contract Tryz.prog .none 32 Eo:=aD (V:=fF) aW (ak TN aEE (ak nQ ari (ak aad aEF (ak axx avG (ak K4 aCg (ak lD ajO (ak TL aEu (ak auw aEt (ak arH aEs aH))))))))) Tryz.func32 (bF (n:=3) fun k hk=>by
 match k,hk with
 |0,_=>exact bH (id:=3) MR
 |1,_=>exact bH (id:=7) MS
 |2,_=>exact bH (id:=12) Kv) fun _ _ _=>aK fun _ _=>aK fun _ _=>bf<|bf<|bY fun _ _=>bY fun _ _=>fun h=>by intros;subst_vars;exact bn (TH _ _ _ _) h
def jr (dH:aG) (dS:List Int) (eT:Int) (dV:Int):(Int×(List Int))→Tre ((Int×(List Int)) ⊕ (List Int)):=fun s8=>
 .cond (decide (s8.1≤eT))
  (.ite (0≤dV∧dV<(dS.length:Int))<|
  .mat (dS[dV.toNat]?) fun x2=>
  .mat (ko dH.1 x2 s8.1) fun r3=>
  .ite ((s8.2.length+1)*8≤bM∧1≤8)<|
  .ret (.inl (aI .i64 (s8.1+1),s8.2++([r3]))))
  (.ret (.inr s8.2))
def iN (jY:aG) (jZ:Int) (kP:Int):(Int×(List Int))→Tre ((Int×(List Int)) ⊕ (List Int)):=fun s12=>
 let v5:=aI .i64 (jZ+jY.2.2.1)
 .cond (decide (s12.1<v5))
  (.ite (0≤kP∧kP<(jY.2.1.length:Int))<|
  .mat (jY.2.1[kP.toNat]?) fun x6=>
  .mat (ko jY.1 x6 s12.1) fun r7=>
  .ite ((s12.2.length+1)*8≤bM∧1≤8)<|
  .ret (.inl (aI .i64 (s12.1+1),s12.2++([r7]))))
  (.ret (.inr s12.2))
def jq (bL:aG) (cZ:List Int) (dU:Int):(Int×(List (List Int)))→Tre ((Int×(List (List Int))) ⊕ (List (List Int))):=fun s4=>
 .cond (decide (s4.1<(cZ.length:Int)))
  (.mat (aO (jr bL cZ dU s4.1) (0,[])) fun l4=>
  .mat (aO (iN bL dU s4.1) (0,l4)) fun l8=>
  .ite ((s4.2.length+1)*24≤bM∧1≤24)<|
  .ret (.inl (aI .i64 (s4.1+1),s4.2++([l8]))))
  (.ret (.inr s4.2))
def Di (p0:aG) (p1:List Int):Tre ((Int×Bool×(List Int)) ⊕ ((List Int)×Int×Bool)):=
 let v1:=xI (p0.2.1.length:Int) p0.2.2.1
 .mat (aO (jq p0 p1 v1) (0,[])) fun l9=>
 let v10:=aI .i64 ((aI .i64 (2*v1))+1)
 let v11:=aI .i64 (v10+p0.2.2.1)
 .mat (zK p0.1 v11 l9) fun r12=>
 .cond (!r12.1)
  (.ret (.inl (0,false,[])))
  (.ite (0≤aI .i64 (v1+1)∧aI .i64 (v1+1)≤(r12.2.length:Int)∧(r12.2.length:Int)≤(r12.2.length:Int))<|
  .ite (0≤(0:Int)∧(0:Int)≤aI .i64 (v1+1)∧aI .i64 (v1+1)≤(r12.2.length:Int))<|
  .mat (lK p0.1 ((r12.2.drop ((aI .i64 (v1+1)).toNat)).take (((r12.2.length:Int)-(aI .i64 (v1+1))).toNat)) ((r12.2.drop 0).take (((aI .i64 (v1+1))-0).toNat)) p0.2.2.1) fun r13=>
  .cond (!r13.2)
   (.ret (.inl (0,false,[])))
   (.mat (vZ p0 r13.1) fun r14=>
   .mat (H8 p0.1 r14 p1) fun r15=>
   .cond (decide (r15>v1))
    (.ret (.inl (0,false,[])))
    (.ret (.inr (r13.1,r15,true)))))
def mR (p0:aG) (p1:List Int):Option ((Int×Bool×(List Int)) ⊕ ((List Int)×Int×Bool)):=(Di p0 p1).run some
-- more
theorem avh{P:List Nat}{k:Nat}(hk:k≤P.length)(hn:P.length≤1000):xI ((aQ P).length:Int) (k:Int)=(((P.length-k)/2:Nat):Int):=by
 unfold xI
 rw [aS,show aI .i64 ((P.length:Int)-(k:Int))=((P.length-k:Nat):Int) by rw [dP (by omega) (by omega)];omega]
 rw [show Int.tdiv ((P.length-k:Nat):Int) 2=(((P.length-k)/2:Nat):Int) from (Int.ofNat_tdiv (P.length-k) 2).symm]
 exact Ih (by omega)
theorem ax9{f:TF3}(hf:aN f=true){P W:List Nat}{k t:Nat}(hP:inL (FOf f hf) P)(hW:inL (FOf f hf) W)(hl:W.length=P.length)(hn:P.length≤1000)(hk:k≤1000)(ht:t≤1000) :
  aO (jq (f,aQ P,(k:Int),()) (aQ W) (t:Int)) (0,[])=some (OO hf t k P W):=by
 have hrl:=XM hf (t:=t) (k:=k) hl
 refine dh (fun i=>((i:Int),(OO hf t k P W).take i)) P.length _ (fun i hi=>?_) ?_
 ·have hwi:=eO (show i<W.length by omega)
  have hpi:=eO hi
  have htk:aI .i64 ((t:Int)+(k:Int))=((t+k:Nat):Int):=by rw [dP (by omega) (by omega)];omega
  have h1:aO (jr (f,aQ P,(k:Int),()) (aQ W) (t:Int) (i:Int)) (0,[])=some (aQ ((FOf f hf).zP (t+1) (cf W i))):=by
   refine dh (fun j=>((j:Int),aQ ((FOf f hf).zP j (cf W i)))) (t+1) _ (fun j hj=>?_) ?_
   ·unfold jr
    dsimp only
    rw [Tre.aA,decide_eq_true (by omega),cond_true,dN (dL hwi),ah (agm hf (kC hW i) j),Tre.run_ite,if_pos (by rw [aS,FO.Bz];unfold bM;omega),Tre.aF,aR (by omega),XT,pW]
    rfl
   ·unfold jr
    dsimp only
    rw [Tre.aA,decide_eq_false (by omega),cond_false,Tre.aF]
  have h2:aO (iN (f,aQ P,(k:Int),()) (t:Int) (i:Int)) (0,aQ ((FOf f hf).zP (t+1) (cf W i)))=some (aQ (asD hf t k (cf P i) (cf W i))):=by
   have h0:aQ ((FOf f hf).zP (t+1) (cf W i))=aQ ((FOf f hf).zP (t+1) (cf W i)++(FOf f hf).zP 0 (cf P i)):=by
    rw [show (FOf f hf).zP 0 (cf P i)=[] from rfl,List.append_nil]
   rw [h0]
   refine dh (fun j=>((j:Int),aQ ((FOf f hf).zP (t+1) (cf W i)++(FOf f hf).zP j (cf P i)))) (t+k) _ (fun j hj=>?_) ?_
   ·unfold iN
    dsimp only
    rw [htk,Tre.aA,decide_eq_true (by omega),cond_true,dN (dL hpi),ah (agm hf (kC hP i) j),Tre.run_ite,if_pos (by rw [aS,List.length_append,FO.Bz,FO.Bz];unfold bM;omega),Tre.aF,aR (by omega),XT _ j,←List.append_assoc,pW (_++_) [_]]
    rfl
   ·unfold iN
    dsimp only
    rw [htk,dF,Tre.aF]
    rfl
  unfold jq
  dsimp only
  rw [Tre.aA,decide_eq_true (by rw [aS];omega),cond_true,ah h1,ah h2,Tre.run_ite,if_pos (by rw [List.length_take];unfold bM;omega),Tre.aF,aR (by omega),List.take_add_one,aol hf hl hi]
  rfl
 ·unfold jq
  dsimp only
  rw [aS,hl,dF,Tre.aF,List.take_of_length_le (by omega)]
theorem ahw{f:TF3}(hf:aN f=true){V N:List Nat}{k:Nat}(hVi:inL (FOf f hf) V)(hNi:inL (FOf f hf) N)(hVl:V.length≤12)(hNl:N.length≤12)(hk:k≤1000) :
  (cB V=[]∧lK f (aQ N) (aQ V) (k:Int)=some ([],false))∨(cB V≠[]∧∃A R,Ik (FOf f hf) (cB N) (cB V) A R∧R.length<(cB V).length ∧
   lK f (aQ N) (aQ V) (k:Int)=some (if R=[]∧A.length≤k then (aQ (oM k A),true) else ([],false))):=by
 have hvt:=iP V
 have hnt:=iP N
 unfold lK Nv
 rw [ah (aow (by omega)),ah (aow (by omega))]
 by_cases hv0:cB V=[]
 ·refine .inl ⟨hv0,?_⟩
  rw [hv0,ah (ayb hf (pV hNi) (oI N) (by omega)),Tre.aA,decide_eq_false (by decide),Bool.not_false,cond_true,Tre.aF]
 ·obtain ⟨A,R,h1,h2,h3,h4⟩:=aAb hf (pV hNi) (pV hVi) hv0 (oI V) (oI N) (by omega) (by omega)
  refine .inr ⟨hv0,A,R,h2,h3,?_⟩
  rw [ah h1,Tre.aA,decide_eq_true rfl,Bool.not_true,cond_false,Tre.aA]
  by_cases hR:R=[]
  ·rw [decide_eq_false (by rw [hR];show ¬((0:Nat):Int)>0;decide),cond_false,Tre.aA]
   by_cases hA:A.length≤k
   ·rw [decide_eq_false (by rw [aS];omega),cond_false,Tre.run_ite,if_pos ⟨rfl,by omega,rfl,by omega,by omega⟩,Int.toNat_natCast,ah (azZ hA hk),Tre.aF,if_pos ⟨hR,hA⟩]
   ·rw [decide_eq_true (by rw [aS];omega),cond_true,Tre.aF,if_neg fun h=>hA h.2]
  ·have hRp:=List.length_pos_iff.2 hR
   rw [decide_eq_true (by rw [aS];omega),cond_true,Tre.aF,if_neg fun h=>hR h.1]
theorem avd{f:TF3}(hf:aN f=true){P W:List Nat}{k:Nat}(hi:FO.wU P)(hP:inL (FOf f hf) P)(hW:inL (FOf f hf) W)(hl:W.length=P.length)(hn:P.length≤10)(hk:1≤k)(hkn:k≤P.length) :
  (∃m,ahE hf P W k ((P.length-k)/2)=some m∧mR (f,aQ P,(k:Int),()) (aQ W)=some (.inr (aQ m,(rkN ((FOf f hf).GZ P W m):Int),true)))∨(ahE hf P W k ((P.length-k)/2)=none∧mR (f,aQ P,(k:Int),()) (aQ W)=some (.inl (0,false,[]))):=by
 have hr:=avh (P:=P) hkn (by omega)
 generalize ht:(P.length-k)/2=t at hr ⊢
 have h2t:2*t+k≤P.length:=by omega
 have hrows:=ax9 hf hP hW hl (by omega) (show k≤1000 by omega) (show t≤1000 by omega)
 have hgr:=asE hf (t:=t) (k:=k) hP hW
 have hrl:=XM hf (t:=t) (k:=k) hl
 have h9:aI .i64 (2*(t:Int))=((2*t:Nat):Int):=by rw [dP (by omega) (by omega)];omega
 have h10:aI .i64 (((2*t:Nat):Int)+1)=((2*t+1:Nat):Int):=aR (by omega)
 have h11:aI .i64 (((2*t+1:Nat):Int)+(k:Int))=((2*t+1+k:Nat):Int):=by rw [dP (by omega) (by omega)];omega
 have ht1:aI .i64 ((t:Int)+1)=((t+1:Nat):Int):=aR (by omega)
 unfold mR Di
 dsimp only
 rw [hr,ah hrows,h9,h10,h11]
 rcases aAj hf (show 2*t+1+k≤1000 by omega) hgr (by omega) with ⟨hfull,hke⟩|⟨hnf,x,hke,hker⟩
 ·exact .inr ⟨anM hfull,by rw [ah hke];rfl⟩
 obtain ⟨V,N,rfl,hV,hN,hVi,hNi,hx,ho⟩:=an4 hf hP hW hker
 have hall:∀m,abF hf P W k t m→_:=fun m hm=>avD hf hi hP hW hl (by omega) hk h2t hm hV hN hVi hNi hx ho
 obtain ⟨hp1,hp2⟩:=akE (N:=N) hV
 have hxl:(aQ (V++N)).length=2*t+1+k:=by rw [aS,List.length_append];omega
 rw [ah hke]
 dsimp only
 rw [Tre.aA,Bool.not_true,cond_false,ht1,Tre.run_ite,if_pos (by omega),Tre.run_ite,if_pos (by omega),hp1,hp2]
 rcases ahw hf (k:=k) hVi hNi (by omega) (by omega) (by omega) with ⟨hv0,hd⟩|⟨hv0,A,R,hd2,hd3,hd⟩
 ·refine .inr ⟨Cu fun m hm=>(hall m hm).1 hv0,?_⟩
  rw [ah hd];rfl
 ·rw [ah hd]
  by_cases hc:R=[]∧A.length≤k
  ·rw [if_pos hc]
   obtain ⟨hR,hA⟩:=hc
   have hMi:=aww (k:=k) hd2.ia
   have hMl:(oM k A).length=k:=V8 hA
   rw [Tre.aA,Bool.not_true,cond_false,ah (aAt hf hMi (by omega) hP (by omega) _),ah (ax7 hf hW hl (by omega)),Tre.aA]
   by_cases hrk:rkN ((FOf f hf).GZ P W (oM k A))≤t
   ·refine .inl ⟨oM k A,anN hnf ⟨hMl,hMi,hrk⟩ fun m' hm'=>?_,by rw [decide_eq_false (by omega),cond_false,Tre.aF]⟩
    obtain ⟨he,_⟩:=(hall m' hm').2 A R hd2 hd3
    rw [he,Rc hm'.1]
   ·refine .inr ⟨Cu fun m hm=>hrk ?_,by rw [decide_eq_true (by omega),cond_true,Tre.aF]⟩
    obtain ⟨he,_⟩:=(hall m hm).2 A R hd2 hd3
    rw [he,Rc hm.1]
    exact hm.2.2
  ·rw [if_neg hc]
   refine .inr ⟨Cu fun m hm=>hc ?_,rfl⟩
   obtain ⟨he,hR⟩:=(hall m hm).2 A R hd2 hd3
   have:=iP m
   have:=hm.1
   exact ⟨hR,by rw [he];omega⟩
def gB:Env:=⟨tau,[(55,Zy),(56,sI),(57,ahq),(43,FY),(39,Py),(58,adS)],[]⟩
def jV:Code:=(Tryz.f29.body).getD .skip
def Bp (BG:Bool) (yV:Bool) (dH:aG) (dS:List Int) (eT:Int) (dV:Int) (mI:(List (List Int))):(Int×(List Int))→St:=fun x=>bP [(0,(.iptr BG (.sl aX) ([dH]) [.idx 0])),(1,(.imm yV .il dS)),(7,(.i eT)),(8,(.ref (10,0) [])),(9,(.i dV)),(10,(.ref (12,0) [])),(11,(.i x.1))] [((10,0),some ⟨false,(.sl .il),.own,mI⟩),((12,0),some ⟨false,.il,.own,x.2⟩)]
def zJ (BG:Bool) (yV:Bool) (dH:aG) (dS:List Int) (eT:Int) (dV:Int) (mI:(List (List Int))):(List Int)→Ex×St:=fun x=>(.exit 2,bP [(0,(.iptr BG (.sl aX) ([dH]) [.idx 0])),(1,(.imm yV .il dS)),(7,(.i eT)),(8,(.ref (10,0) [])),(9,(.i dV)),(10,(.ref (12,0) []))] [((10,0),some ⟨false,(.sl .il),.own,mI⟩),((12,0),some ⟨false,.il,.own,x⟩)])
def Ul (s:St):Tre (Ex×St):=
 PS aX (s.tmps 0) fun z2 d3=>
 aZ .il (s.tmps 1) fun z6 d5=>
 ay true .n (s.tmps 7) fun d8=>
 dI (10,0) [] (s.tmps 8)<|
 ay true .n (s.tmps 9) fun d11=>
 dI (12,0) [] (s.tmps 10)<|
 ay true .n (s.tmps 11) fun d14=>
 bg false (.sl .il) (s.roots (10,0)) fun m16 d17=>
 asM .own m16<|
 bg false .il (s.roots (12,0)) fun m19 d20=>
 asM .own m19<|
 .mat (aO (jr d3 d5 d8 d11) (d14,d20)) fun x=>.ret (zJ z2 z6 d3 d5 d8 d11 d17 x)
def ni:bq:=⟨([0,1,7,8,9,10,11],[(10,0),(12,0)]),([0,1,7,8,9,10],[(10,0),(12,0)]),Ul⟩
def zH (Kl:Bool) (Km:Bool) (jY:aG) (qF:List Int) (jZ:Int) (kP:Int) (qG:(List (List Int))):(Int×(List Int))→St:=fun x=>bP [(0,(.iptr Kl (.sl aX) ([jY]) [.idx 0])),(1,(.imm Km .il qF)),(7,(.i jZ)),(8,(.ref (10,0) [])),(9,(.i kP)),(10,(.ref (12,0) [])),(12,(.i x.1))] [((10,0),some ⟨false,(.sl .il),.own,qG⟩),((12,0),some ⟨false,.il,.own,x.2⟩)]
def xH (Kl:Bool) (Km:Bool) (jY:aG) (qF:List Int) (jZ:Int) (kP:Int) (qG:(List (List Int))):(List Int)→Ex×St:=fun x=>(.exit 4,bP [(0,(.iptr Kl (.sl aX) ([jY]) [.idx 0])),(1,(.imm Km .il qF)),(7,(.i jZ)),(8,(.ref (10,0) [])),(9,(.i kP)),(10,(.ref (12,0) []))] [((10,0),some ⟨false,(.sl .il),.own,qG⟩),((12,0),some ⟨false,.il,.own,x⟩)])
def Ry (s:St):Tre (Ex×St):=
 PS aX (s.tmps 0) fun z2 d3=>
 aZ .il (s.tmps 1) fun z6 d5=>
 ay true .n (s.tmps 7) fun d8=>
 dI (10,0) [] (s.tmps 8)<|
 ay true .n (s.tmps 9) fun d11=>
 dI (12,0) [] (s.tmps 10)<|
 ay true .n (s.tmps 12) fun d14=>
 bg false (.sl .il) (s.roots (10,0)) fun m16 d17=>
 asM .own m16<|
 bg false .il (s.roots (12,0)) fun m19 d20=>
 asM .own m19<|
 .mat (aO (iN d3 d8 d11) (d14,d20)) fun x=>.ret (xH z2 z6 d3 d5 d8 d11 d17 x)
def lY:bq:=⟨([0,1,7,8,9,10,12],[(10,0),(12,0)]),([0,1,7,8,9,10],[(10,0),(12,0)]),Ry⟩
def Bo (kK:Bool) (F9:Bool) (bL:aG) (cZ:List Int) (dU:Int):(Int×(List (List Int)))→St:=fun x=>bP [(0,(.iptr kK (.sl aX) ([bL]) [.idx 0])),(1,(.imm F9 .il cZ)),(7,(.i dU)),(8,(.ref (10,0) [])),(9,(.i x.1))] [((10,0),some ⟨false,(.sl .il),.own,x.2⟩)]
def zI (kK:Bool) (F9:Bool) (bL:aG) (cZ:List Int) (dU:Int):(List (List Int))→Ex×St:=fun x=>(.exit 0,bP [(0,(.iptr kK (.sl aX) ([bL]) [.idx 0])),(1,(.imm F9 .il cZ)),(7,(.i dU)),(8,(.ref (10,0) []))] [((10,0),some ⟨false,(.sl .il),.own,x⟩)])
def Uk (s:St):Tre (Ex×St):=
 PS aX (s.tmps 0) fun z2 d3=>
 aZ .il (s.tmps 1) fun z6 d5=>
 ay true .n (s.tmps 7) fun d8=>
 dI (10,0) [] (s.tmps 8)<|
 ay true .n (s.tmps 9) fun d11=>
 bg false (.sl .il) (s.roots (10,0)) fun m13 d14=>
 asM .own m13<|
 .mat (aO (jq d3 d5 d8) (d11,d14)) fun x=>.ret (zI z2 z6 d3 d5 d8 x)
def ng:bq:=⟨([0,1,7,8,9],[(10,0)]),([0,1,7,8],[(10,0)]),Uk⟩
def iI:List (Nat×bq):=[(8,ni),(12,lY),(4,ng)]
theorem Nu:∀(BG yV:Bool)(dH:aG)(dS:List Int)(eT dV:Int)(mI:(List (List Int)))(x:(Int×(List Int)))(c:St→Option (Ex×St)),den gB iI (aT jV 1) (Bp BG yV dH dS eT dV mI x) (bR ni.kp ni.kx c)=(jr dH dS eT dV x).run (bS (Bp BG yV dH dS eT dV mI) (zJ BG yV dH dS eT dV mI) c):=fun _ _ _ _ _ _ _ _ _=>by
 kernel_rfl
theorem RA:bQ gB iI (aT jV 1) ni:=bX fun _ _ _=>aoz fun _ _=>bY fun _ _=>aJ fun _=>fI<|aJ fun _=>fI<|aJ fun _=>bV fun _ _=>tM<|bV fun _ _=>tM<|fun h _ e18 _ e15 e13 e12 e10 e9 e7 e4 e1=>bO (Nu _ _ _ _ _ _ _) h (by subst_vars;exact aP rfl rfl ⟨e1,e4,e7,e9,e10,e12,e13,trivial⟩ ⟨e15,e18,trivial⟩)
theorem KC:∀(Kl Km:Bool)(jY:aG)(qF:List Int)(jZ kP:Int)(qG:(List (List Int)))(x:(Int×(List Int)))(c:St→Option (Ex×St)),den gB iI (aT jV 2) (zH Kl Km jY qF jZ kP qG x) (bR lY.kp lY.kx c)=(iN jY jZ kP x).run (bS (zH Kl Km jY qF jZ kP qG) (xH Kl Km jY qF jZ kP qG) c):=fun _ _ _ _ _ _ _ _ _=>by
 kernel_rfl
theorem Pf:bQ gB iI (aT jV 2) lY:=bX fun _ _ _=>aoz fun _ _=>bY fun _ _=>aJ fun _=>fI<|aJ fun _=>fI<|aJ fun _=>bV fun _ _=>tM<|bV fun _ _=>tM<|fun h _ e18 _ e15 e13 e12 e10 e9 e7 e4 e1=>bO (KC _ _ _ _ _ _ _) h (by subst_vars;exact aP rfl rfl ⟨e1,e4,e7,e9,e10,e12,e13,trivial⟩ ⟨e15,e18,trivial⟩)
theorem Nt:∀(kK F9:Bool)(bL:aG)(cZ:List Int)(dU:Int)(x:(Int×(List (List Int))))(c:St→Option (Ex×St)),den gB iI (aT jV 0) (Bo kK F9 bL cZ dU x) (bR ng.kp ng.kx c)=(jq bL cZ dU x).run (bS (Bo kK F9 bL cZ dU) (zI kK F9 bL cZ dU) c):=fun _ _ _ _ _ _ _=>by
 kernel_rfl
theorem Rz:bQ gB iI (aT jV 0) ng:=bX fun _ _ _=>aoz fun _ _=>bY fun _ _=>aJ fun _=>fI<|aJ fun _=>bV fun _ _=>tM<|fun h _ e12 e10 e9 e7 e4 e1=>bO (Nt _ _ _ _ _) h (by subst_vars;exact aP rfl rfl ⟨e1,e4,e7,e9,e10,trivial⟩ ⟨e12,trivial⟩)
def abq:FnI:=fnI Tryz.f29 iI
def u6 (_:Bool) (_:Bool) (_:aG) (_:List Int):((Int×Bool×(List Int)) ⊕ ((List Int)×Int×Bool))→au
 |.inl r=>⟨(.tcons (.ref (1,0) []) (.tcons (.i r.1) (.tcons (.imm true .bool r.2.1) .tnil))),[],[⟨false,.il,.own,r.2.2⟩]⟩
 |.inr r=>⟨(.tcons (.imm true .il r.1) (.tcons (.i r.2.1) (.tcons (.imm true .bool r.2.2) .tnil))),[],[]⟩
theorem YF:∀(zp0 zp1:Bool)(p0:aG)(p1:List Int),bJ gB abq ⟨[(.iptr zp0 (.sl aX) ([p0]) [.idx 0]),(.imm zp1 .il p1)],[]⟩=(Di p0 p1).run fun r=>some (u6 zp0 zp1 p0 p1 r):=fun _ _ _ _=>by kernel_rfl
def abp (av:List AV) (rs:List Root):Tre au:=
 aC av fun a0_ av0=>
 aC av0 fun a1_ av1=>
 aM av1<|
 aM rs<|
 PS aX a0_ fun z1 d2=>
 aZ .il a1_ fun z4 d3=>
 .mat (mR d2 d3) fun r=>.alt r (fun a0=>.ret (u6 z1 z4 d2 d3 (.inl a0))) (fun b0=>.ret (u6 z1 z4 d2 d3 (.inr b0)))
def JY:Ctr:=dD [0] abp
theorem YG:Contract Tryz.prog .none 29 JY:=aD (V:=gB) aW (ak al4 aEB (ak uY arh (ak aqm aEC (ak Pg aCe (ak ad5 aEx (ak ano aED aH)))))) Tryz.func29 (bF (n:=3) fun k hk=>by
 match k,hk with
 |0,_=>exact bH (id:=4) Rz
 |1,_=>exact bH (id:=8) RA
 |2,_=>exact bH (id:=12) Pf) fun _ _ _=>aK fun _ _=>aK fun _ _=>bf<|bf<|aoz fun _ _=>bY fun _ _=>fun h=>by intros;subst_vars;exact ajT (YF _ _ _ _) h (by rintro (x|x)<;>rfl)
def jR (dH:List Int) (eT:aG) (dV:List Int):(Int×(List Int))→Tre ((Int×(List Int)) ⊕ (List Int)):=fun s8=>
 .cond (decide (s8.1<(dH.length:Int)))
  (.ite (0≤s8.1∧s8.1<(dH.length:Int))<|
  .mat (dH[s8.1.toNat]?) fun x4=>
  .mat (Bu eT.1 dV x4) fun r5=>
  .ite ((s8.2.length+1)*8≤bM∧1≤8)<|
  .ret (.inl (aI .i64 (s8.1+1),s8.2++([r5]))))
  (.ret (.inr s8.2))
def FM (p0:aG) (p1:List Int) (p2:bB):Tre ((List Int)×Int):=
 .mat (vV p1 true p0 p2) fun r1=>
 .cond (!decide (r1=0))
  (.ret ([],r1))
  (.mat (tV p0.1 p2.2.1) fun r2=>
  let v3:=aI .i64 (p0.2.2.1+(p2.2.1.length:Int))
  .mat (aO (jR p1 p0 r2.2) (0,[])) fun l6=>
  .mat (mR (p0.1,(p0.2.1,(v3,()))) l6) fun r7=>
  .alt r7
   (fun a8=>
    .cond (!a8.2.1)
     (.ret ([],6))
     (.mat (lK p0.1 a8.2.2 r2.2 p0.2.2.1) fun r10=>
     .cond (!r10.2)
      (.ret ([],6))
      (.ret (r10.1,0))))
   (fun b9=>
    .cond (!b9.2.2)
     (.ret ([],6))
     (.mat (lK p0.1 b9.1 r2.2 p0.2.2.1) fun r11=>
     .cond (!r11.2)
      (.ret ([],6))
      (.ret (r11.1,0)))))
def tX (p0:aG) (p1:List Int) (p2:bB):Option ((List Int)×Int):=(FM p0 p1 p2).run some
def tY:Env:=⟨tau,[(41,Pm),(37,LJ),(42,RG),(29,JY),(43,FY)],[(1000000,[((8,0),[],false)])]⟩
def LK:Code:=(Tryz.f20.body).getD .skip
def Ch (BG:Bool) (yV:Bool) (agp:Bool) (dH:List Int) (eT:aG) (dV:List Int) (fE:aG):(Int×(List Int))→St:=fun x=>bP [(1,(.imm BG .il dH)),(3,(.ptr (5,0) [])),(9,(.ref (11,0) [])),(11,(.ptr (13,0) [])),(12,(.ref (14,0) [])),(13,(.i x.1))] [((5,0),some ⟨true,aX,(.imm yV),eT⟩),((11,0),some ⟨false,.il,.own,dV⟩),((13,0),some ⟨true,aX,(.imm agp),fE⟩),((14,0),some ⟨false,.il,.own,x.2⟩)]
def Ba (_:Bool) (yV:Bool) (agp:Bool) (_:List Int) (eT:aG) (dV:List Int) (fE:aG):(List Int)→Ex×St:=fun x=>(.exit 0,bP [(3,(.ptr (5,0) [])),(9,(.ref (11,0) [])),(11,(.ptr (13,0) [])),(12,(.ref (14,0) []))] [((5,0),some ⟨true,aX,(.imm yV),eT⟩),((11,0),some ⟨false,.il,.own,dV⟩),((13,0),some ⟨true,aX,(.imm agp),fE⟩),((14,0),some ⟨false,.il,.own,x⟩)])
def Wu (s:St):Tre (Ex×St):=
 aZ .il (s.tmps 1) fun z3 d2=>
 eF (5,0) [] (s.tmps 3)<|
 dI (11,0) [] (s.tmps 9)<|
 eF (13,0) [] (s.tmps 11)<|
 dI (14,0) [] (s.tmps 12)<|
 ay true .n (s.tmps 13) fun d9=>
 bg true aX (s.roots (5,0)) fun m11 d12=>
 lu m11 fun z13=>
 bg false .il (s.roots (11,0)) fun m15 d16=>
 asM .own m15<|
 bg true aX (s.roots (13,0)) fun m18 d19=>
 lu m18 fun z20=>
 bg false .il (s.roots (14,0)) fun m22 d23=>
 asM .own m22<|
 .mat (aO (jR d2 d12 d16) (d9,d23)) fun x=>.ret (Ba z3 z13 z20 d2 d12 d16 d19 x)
def nY:bq:=⟨([1,3,9,11,12,13],[(5,0),(11,0),(13,0),(14,0)]),([3,9,11,12],[(5,0),(11,0),(13,0),(14,0)]),Wu⟩
def A9:List (Nat×bq):=[(8,nY)]
theorem OU:∀(BG yV agp:Bool)(dH:List Int)(eT:aG)(dV:List Int)(fE:aG)(x:(Int×(List Int)))(c:St→Option (Ex×St)),den tY A9 (aT LK 0) (Ch BG yV agp dH eT dV fE x) (bR nY.kp nY.kx c)=(jR dH eT dV x).run (bS (Ch BG yV agp dH eT dV fE) (Ba BG yV agp dH eT dV fE) c):=fun _ _ _ _ _ _ _ _ _=>by
 kernel_rfl
theorem Uc:bQ tY A9 (aT LK 0) nY:=bX fun _ _ _=>bY fun _ _=>jD<|fI<|jD<|fI<|aJ fun _=>bV fun _ _=>BA fun _=>bV fun _ _=>tM<|bV fun _ _=>BA fun _=>bV fun _ _=>tM<|fun h _ e21 _ e17 _ e14 _ e10 e8 e7 e6 e5 e4 e1=>bO (OU _ _ _ _ _ _ _) h (by subst_vars;exact aP rfl rfl ⟨e1,e4,e5,e6,e7,e8,trivial⟩ ⟨e10,e14,e17,e21,trivial⟩)
def adh:FnI:=fnI Tryz.f20 A9
def Gv (_:Bool) (_:Bool) (_:Bool) (_:aG) (_:List Int) (_:bB):((List Int)×Int)→au:=fun r=>⟨(.tcons (.imm true .il r.1) (.tcons (.i r.2) .tnil)),[],[]⟩
theorem aaR:∀(zp0 zp1 zp2:Bool)(p0:aG)(p1:List Int)(p2:bB),bJ tY adh ⟨[(.imm zp0 aX p0),(.imm zp1 .il p1),(.imm zp2 bZ p2)],[]⟩=(FM p0 p1 p2).run fun r=>some (Gv zp0 zp1 zp2 p0 p1 p2 r):=fun _ _ _ _ _ _=>by kernel_rfl
def adg (av:List AV) (rs:List Root):Tre au:=
 aC av fun a0_ av0=>
 aC av0 fun a1_ av1=>
 aC av1 fun a2_ av2=>
 aM av2<|
 aM rs<|
 aZ aX a0_ fun z2 d1=>
 aZ .il a1_ fun z4 d3=>
 aZ bZ a2_ fun z6 d5=>
 .mat (tX d1 d3 d5) fun r=>.ret (Gv z2 z4 z6 d1 d3 d5 r)
def LM:Ctr:=dD [] adg
theorem aaS:Contract Tryz.prog .none 20 LM:=aD (V:=tY) aW (ak adY aEz (ak aaQ aEw (ak ZA aCd (ak YG aEo (ak Pg aCe aH))))) Tryz.func20 (bF (n:=1) fun k hk=>by
 match k,hk with
 |0,_=>exact bH (id:=8) Uc) fun _ _ _=>aK fun _ _=>aK fun _ _=>aK fun _ _=>bf<|bf<|bY fun _ _=>bY fun _ _=>bY fun _ _=>fun h=>by intros;subst_vars;exact bn (aaR _ _ _ _ _ _) h
def qK (bL:Int):Int→Tre (Int ⊕ (Bool ⊕ Unit)):=fun s4=>
 .mat (qP s4) fun r1=>
 .mat (qP bL) fun r2=>
 .cond (decide (aI .i64 (2*r1)≤r2))
  (.mat (aax bL s4) fun r3=>
  .cond (decide (r3=0))
   (.ret (.inr (.inl false)))
   (.ret (.inl (aI .i64 (s4+1)))))
  (.ret (.inr (.inr ())))
def FD (p0:Int):Tre Bool:=
 .cond (decide (p0<2))
  (.ret false)
  (.cond (decide (p0 ≥ 64))
   (.ret false)
   (.mat (aO (qK p0) 2) fun l4=>
   .alt l4
    (fun a5=>
     .ret a5)
    (fun _=>
     .ret true)))
def tL (p0:Int):Option Bool:=(FD p0).run some
def tN:Env:=⟨tau,[(133,Ho),(111,aay)],[]⟩
def Lc:Code:=(Tryz.f136.body).getD .skip
def sS (bL:Int):Int→St:=fun x=>bP [(0,(.i bL)),(3,(.i x))] []
def lS (_:Int):(Bool ⊕ Unit)→Ex×St
 |.inl x=>(.ret,bP [(2,(.imm true .bool x))] [])
 |.inr _=>(.exit 0,bP [(2,.dead)] [])
def Ew (s:St):Tre (Ex×St):=
 ay true .n (s.tmps 0) fun d2=>
 ay true .n (s.tmps 3) fun d4=>
 .mat (aO (qK d2) d4) fun x=>.alt x (fun a0=>.ret (lS d2 (.inl a0))) (fun b0=>.ret (lS d2 (.inr b0)))
def kE:bq:=⟨([0,3],[]),([2],[]),Ew⟩
def Al:List (Nat×bq):=[(4,kE)]
theorem Oh:∀(bL x:Int)(c:St→Option (Ex×St)),den tN Al (aT Lc 0) (sS bL x) (bR kE.kp kE.kx c)=(qK bL x).run (bS (sS bL) (lS bL) c):=fun _ _ _=>by
 kernel_rfl
theorem TR:bQ tN Al (aT Lc 0) kE:=fK fun s e s' h=>by
 generalize hs:restrict kE.kp s=s1 at h
 have h:(Ew s1).run some=some (e,s'):=h
 obtain ⟨d2,e1,h_0⟩:=cu h
 obtain ⟨d4,e3,h_1⟩:=cu h_0
 obtain ⟨y,hy,hz⟩:=gN h_1
 refine ⟨_,_,sS d2,lS d2,qK d2,d4,y,?_,hy,?_,Oh d2⟩
 ·subst hs;exact aP (T:=[(0,(.i d2)),(3,(.i d4))]) (U:=[]) rfl rfl ⟨e1,e3,trivial⟩ trivial
 ·rcases y with x|x<;>exact Option.some.inj hz
def ab5:FnI:=fnI Tryz.f136 Al
def Gg (_:Int):Bool→au:=fun r=>⟨(.imm true .bool r),[],[]⟩
theorem aai:∀(p0:Int),bJ tN ab5 ⟨[(.i p0)],[]⟩=(FD p0).run fun r=>some (Gg p0 r):=fun _=>by kernel_rfl
def ab4 (av:List AV) (rs:List Root):Tre au:=
 aC av fun a0_ av0=>
 aM av0<|
 aM rs<|
 ay true .n a0_ fun d1=>
 .mat (tL d1) fun r=>.ret (Gg d1 r)
def Ld:Ctr:=dD [] ab4
theorem aaj:Contract Tryz.prog .none 136 Ld:=aD (V:=tN) aW (ak M6 aun (ak agL ay3 aH)) Tryz.func136 (bF (n:=1) fun k hk=>by
 match k,hk with
 |0,_=>exact bH (id:=4) TR) fun _ _ _=>aK fun _ _=>bf<|bf<|aJ fun _=>fun h=>by intros;subst_vars;exact bn (aai _) h
def Hf (p0:(Int×(Int×Unit))):Tre Bool:=
 .cond (inR p0.1 1 5)
  (.mat (tL p0.2.1) fun r1=>
  .cond r1
   (.mat (qP p0.2.1) fun r2=>
   .ret (decide (r2=p0.1)))
   (.ret false))
  (.ret false)
def uM (p0:(Int×(Int×Unit))):Option Bool:=(Hf p0).run some
-- more
theorem R8(f:Int×Int×Unit):uM f=some (aN f):=by
 refine arj ?_ ?_ (by kernel_rfl) f
 ·intro f h
  unfold uM Hf
  rw [Tre.aA,h];rfl
 ·intro f h
  unfold uM Hf
  rw [Tre.aA]
  have:tL f.2.1=some false:=by
   unfold tL FD
   rw [Tre.aA]
   by_cases h1:f.2.1<2
   ·rw [decide_eq_true h1];rfl
   ·rw [decide_eq_false h1,cond_false,Tre.aA,decide_eq_true (by omega)];rfl
  rw [ah this]
  cases inR f.1 1 5<;>rfl
def Vp:Env:=⟨tau,[(92,yJ),(136,Ld),(133,Ho)],[]⟩
def akc:FnI:=fnI Tryz.f118 []
def Ol (_:(Int×(Int×Unit))):Bool→au:=fun r=>⟨(.imm true .bool r),[],[]⟩
theorem ahU:∀(p0:(Int×(Int×Unit))),bJ Vp akc ⟨[(.imm true aL p0)],[]⟩=(Hf p0).run fun r=>some (Ol p0 r):=fun _=>by kernel_rfl
def akb (av:List AV) (rs:List Root):Tre au:=
 aC av fun a0_ av0=>
 aM av0<|
 aM rs<|
 ay true aL a0_ fun d1=>
 .mat (uM d1) fun r=>.ret (Ol d1 r)
def Vq:Ctr:=dD [] akb
theorem ahV:Contract Tryz.prog .none 118 Vq:=aD (V:=Vp) aW (ak zk anR (ak aaj aDm (ak M6 aun aH))) Tryz.func118 bI fun _ _ _=>aK fun _ _=>bf<|bf<|aJ fun _=>fun h=>by intros;subst_vars;exact bn (ahU _) h
def yD (p0:Int) (p1:(Int×(Int×Unit))):Tre Bool:=
 .mat (rP p1) fun r1=>
 let v2:=inR p0 0 (aI .i64 (r1-1))
 .ret (!v2)
def nM (p0:Int) (p1:(Int×(Int×Unit))):Option Bool:=(yD p0 p1).run some
def Ed:Env:=⟨tau,[(95,Fx),(92,yJ)],[]⟩
def U0:FnI:=fnI Tryz.f94 []
def Ab (_:Int) (p1:(Int×(Int×Unit))):Bool→au:=fun r=>⟨(.imm true .bool r),[⟨true,aL,.own,p1⟩],[]⟩
theorem Tw:∀(p0:Int)(p1:(Int×(Int×Unit))),bJ Ed U0 ⟨[(.i p0),(.ptr (0,0) [])],[⟨true,aL,.own,p1⟩]⟩=(yD p0 p1).run fun r=>some (Ab p0 p1 r):=fun _ _=>by kernel_rfl
def UZ (av:List AV) (rs:List Root):Tre au:=
 aC av fun a0_ av0=>
 aC av0 fun a1_ av1=>
 aM av1<|
 aC rs fun r0_ rs0=>
 aM rs0<|
 ay true .n a0_ fun d1=>
 eF (0,0) [] a1_<|
 wV true aL r0_ fun m2 d3=>
 asM .own m2<|
 .mat (nM d1 d3) fun r=>.ret (Ab d1 d3 r)
def Ee:Ctr:=dD [] UZ
theorem Tx:Contract Tryz.prog .none 94 Ee:=aD (V:=Ed) aW (ak NQ aCr (ak zk anR aH)) Tryz.func94 bI fun _ _ _=>aK fun _ _=>aK fun _ _=>bf<|aK fun _ _=>bf<|aJ fun _=>jD<|tRt fun _ _=>tM<|fun h=>by intros;subst_vars;exact bn (Tw _ _) h
def afv (aU:List Int) (bG:Int) (bK:(Int×(Int×Unit))):Int→Tre (Int ⊕ (Int ⊕ Unit)):=fun s2=>
 .cond (decide (s2<bG))
  (.ite (0≤s2∧s2<(aU.length:Int))<|
  .mat (aU[s2.toNat]?) fun x1=>
  .mat (nM x1 bK) fun r2=>
  .cond r2
   (.ret (.inr (.inl s2)))
   (.ret (.inl (aI .i64 (s2+1)))))
  (.ret (.inr (.inr ())))
def nm7 (p0:List Int) (p1:(Int×(Int×Unit))):Tre Int:=
 .mat (aO (afv p0 (p0.length:Int) p1) 0) fun l3=>
 .alt l3
  (fun a4=>
   .ret a4)
  (fun _=>
   .ret (-1))
def awo (p0:List Int) (p1:(Int×(Int×Unit))):Option Int:=(nm7 p0 p1).run some
def awp:Env:=⟨tau,[(94,Ee)],[]⟩
def aCI:Code:=(Tryz.f99.body).getD .skip
def afw (eH:Bool) (aU:List Int) (bG:Int) (bK:(Int×(Int×Unit))):Int→St:=fun x=>bP [(0,(.imm eH .il aU)),(1,(.fn 94 [(0,0)])),(7,(.i bG)),(8,(.i x))] [((0,0),some ⟨true,aL,.own,bK⟩)]
def Q9 (_:Bool) (_:List Int) (_:Int) (bK:(Int×(Int×Unit))):(Int ⊕ Unit)→Ex×St
 |.inl x=>(.ret,bP [(4,(.i x))] [((0,0),some ⟨true,aL,.own,bK⟩)])
 |.inr _=>(.exit 0,bP [(4,.dead)] [((0,0),some ⟨true,aL,.own,bK⟩)])
def asr (s:St):Tre (Ex×St):=
 aZ .il (s.tmps 0) fun z3 d2=>
 Tk 94 [(0,0)] (s.tmps 1)<|
 ay true .n (s.tmps 7) fun d6=>
 ay true .n (s.tmps 8) fun d8=>
 bg true aL (s.roots (0,0)) fun m10 d11=>
 asM .own m10<|
 .mat (aO (afv d2 d6 d11) d8) fun x=>.alt x (fun a0=>.ret (Q9 z3 d2 d6 d11 (.inl a0))) (fun b0=>.ret (Q9 z3 d2 d6 d11 (.inr b0)))
def V5:bq:=⟨([0,1,7,8],[(0,0)]),([4],[(0,0)]),asr⟩
def azP:List (Nat×bq):=[(2,V5)]
theorem asu:∀(eH:Bool)(aU:List Int)(bG:Int)(bK:(Int×(Int×Unit)))(x:Int)(c:St→Option (Ex×St)),den awp azP (aT aCI 0) (afw eH aU bG bK x) (bR V5.kp V5.kx c)=(afv aU bG bK x).run (bS (afw eH aU bG bK) (Q9 eH aU bG bK) c):=fun _ _ _ _ _ _=>by
 kernel_rfl
theorem axN:bQ awp azP (aT aCI 0) V5:=fK fun s e s' h=>by
 generalize hs:restrict V5.kp s=s1 at h
 have h:(asr s1).run some=some (e,s'):=h
 obtain ⟨z3,d2,e1,h_0⟩:=fA h
 obtain ⟨e4,h_1⟩:=Cq h_0
 obtain ⟨d6,e5,h_2⟩:=cu h_1
 obtain ⟨d8,e7,h_3⟩:=cu h_2
 obtain ⟨m10,d11,e9,h_4⟩:=fQ h_3
 obtain ⟨rfl,h_5⟩:=rO h_4
 obtain ⟨y,hy,hz⟩:=gN h_5
 refine ⟨_,_,afw z3 d2 d6 d11,Q9 z3 d2 d6 d11,afv d2 d6 d11,d8,y,?_,hy,?_,asu z3 d2 d6 d11⟩
 ·subst hs;exact aP (T:=[(0,(.imm z3 .il d2)),(1,(.fn 94 [(0,0)])),(7,(.i d6)),(8,(.i d8))]) (U:=[((0,0),some ⟨true,aL,.own,d11⟩)]) rfl rfl ⟨e1,e4,e5,e7,trivial⟩ ⟨e9,trivial⟩
 ·rcases y with x|x<;>exact Option.some.inj hz
def aFg:FnI:=fnI Tryz.f99 azP
def awq (_:Bool) (_:List Int) (p1:(Int×(Int×Unit))):Int→au:=fun r=>⟨(.i r),[⟨true,aL,.own,p1⟩],[]⟩
theorem aDN:∀(zp0:Bool)(p0:List Int)(p1:(Int×(Int×Unit))),bJ awp aFg ⟨[(.imm zp0 .il p0),(.fn 94 [(0,0)])],[⟨true,aL,.own,p1⟩]⟩=(nm7 p0 p1).run fun r=>some (awq zp0 p0 p1 r):=fun _ _ _=>by kernel_rfl
def aFf (av:List AV) (rs:List Root):Tre au:=
 aC av fun a0_ av0=>
 aC av0 fun a1_ av1=>
 aM av1<|
 aC rs fun r0_ rs0=>
 aM rs0<|
 aZ .il a0_ fun z2 d1=>
 Tk 94 [(0,0)] a1_<|
 wV true aL r0_ fun m3 d4=>
 asM .own m3<|
 .mat (awo d1 d4) fun r=>.ret (awq z2 d1 d4 r)
def aCJ:Ctr:=dD [] aFf
theorem aDO:Contract Tryz.prog .none 99 aCJ:=aD (V:=awp) aW (ak Tx aET aH) Tryz.func99 (bF (n:=1) fun k hk=>by
 match k,hk with
 |0,_=>exact bH (id:=2) axN) fun _ _ _=>aK fun _ _=>aK fun _ _=>bf<|aK fun _ _=>bf<|bY fun _ _=>tFn<|tRt fun _ _=>tM<|fun h=>by intros;subst_vars;exact bn (aDN _ _ _) h
def nm5 (p0:List Int) (p1:(Int×(Int×Unit))):Tre Bool:=
 .mat (awo p0 p1) fun r1=>
 .ret (decide (r1 ≥ 0))
def awj (p0:List Int) (p1:(Int×(Int×Unit))):Option Bool:=(nm5 p0 p1).run some
def aCE:Env:=⟨tau,[(99,aCJ)],[]⟩
def aFc:FnI:=fnI Tryz.f93 []
def awk (_:Bool) (_:List Int) (p1:(Int×(Int×Unit))):Bool→au:=fun r=>⟨(.imm true .bool r),[⟨true,aL,.own,p1⟩],[]⟩
theorem aDJ:∀(zp0:Bool)(p0:List Int)(p1:(Int×(Int×Unit))),bJ aCE aFc ⟨[(.imm zp0 .il p0),(.fn 94 [(0,0)])],[⟨true,aL,.own,p1⟩]⟩=(nm5 p0 p1).run fun r=>some (awk zp0 p0 p1 r):=fun _ _ _=>by kernel_rfl
def aFb (av:List AV) (rs:List Root):Tre au:=
 aC av fun a0_ av0=>
 aC av0 fun a1_ av1=>
 aM av1<|
 aC rs fun r0_ rs0=>
 aM rs0<|
 aZ .il a0_ fun z2 d1=>
 Tk 94 [(0,0)] a1_<|
 wV true aL r0_ fun m3 d4=>
 asM .own m3<|
 .mat (awj d1 d4) fun r=>.ret (awk z2 d1 d4 r)
def aCF:Ctr:=dD [] aFb
theorem aDK:Contract Tryz.prog .none 93 aCF:=aD (V:=aCE) aW (ak aDO avJ aH) Tryz.func93 bI fun _ _ _=>aK fun _ _=>aK fun _ _=>bf<|aK fun _ _=>bf<|bY fun _ _=>tFn<|tRt fun _ _=>tM<|fun h=>by intros;subst_vars;exact bn (aDJ _ _ _) h
def UU (p0:(Int×(Int×Unit))) (p1:List Int):Tre Bool:=
 .mat (awj p1 p0) fun r1=>
 .ret (!r1)
def wZ (p0:(Int×(Int×Unit))) (p1:List Int):Option Bool:=(UU p0 p1).run some
-- more
theorem aeN{f:TF3}(hf:aN f=true)(x:Int):nM x f=some (!inR x 0 (Ut f)):=by
 have:=nI hf
 have h1:rP f=some (Ua .i64 1 f.1):=by
  unfold rP MK
  rw [Tre.run_ite,if_pos (by omega)]
  rfl
 unfold nM yD
 rw [ah h1,aAx hf]
 rfl
theorem UW{f:TF3}(hf:aN f=true)(c:List Int)(hc:c.length<4611686018427387904):wZ f c=some (oK f c):=by
 have h1:awo c f=some (ny (fun x=>!inR x 0 (Ut f)) 0 c):=by
  unfold awo nm7
  rw [Tre.kg,vC (xs:=c) (fun i x=>cond (!inR x 0 (Ut f)) (some (.inl (i:Int))) none) (.inr ())]
  ·rw [Option.bind_some,←NI (p:=fun x=>!inR x 0 (Ut f))]
   generalize Ga _ _ _ _=r
   cases r<;>rfl
  ·intro i x hx
   have hi:i<c.length:=(List.getElem?_eq_some_iff.1 hx).1
   unfold afv
   rw [dX hx,ah (aeN hf x),Tre.aA]
   cases inR x 0 (Ut f)
   ·rfl
   ·simp only [Bool.not_true,cond_false,Tre.aF,aR (show i<4611686018427387904 by omega)]
  ·unfold afv
   exact dF
 have h2:awj c f=some (decide (ny (fun x=>!inR x 0 (Ut f)) 0 c ≥ 0)):=by
  unfold awj nm5
  rw [ah h1]
  rfl
 unfold wZ UU oK
 rw [ah h2,←azu (p:=fun x=>inR x 0 (Ut f))]
 rfl
def YQ:Env:=⟨tau,[(93,aCF)],[]⟩
def amF:FnI:=fnI Tryz.f60 []
def RY (_:Bool) (_:(Int×(Int×Unit))) (_:List Int):Bool→au:=fun r=>⟨(.imm true .bool r),[],[]⟩
theorem aj4:∀(zp0:Bool)(p0:(Int×(Int×Unit)))(p1:List Int),bJ YQ amF ⟨[(.imm true aL p0),(.imm zp0 .il p1)],[]⟩=(UU p0 p1).run fun r=>some (RY zp0 p0 p1 r):=fun _ _ _=>by kernel_rfl
def amE (av:List AV) (rs:List Root):Tre au:=
 aC av fun a0_ av0=>
 aC av0 fun a1_ av1=>
 aM av1<|
 aM rs<|
 ay true aL a0_ fun d1=>
 aZ .il a1_ fun z3 d2=>
 .mat (wZ d1 d2) fun r=>.ret (RY z3 d1 d2 r)
def ML:Ctr:=dD [] amE
theorem UY:Contract Tryz.prog .none 60 ML:=aD (V:=YQ) aW (ak aDK aCq aH) Tryz.func60 bI fun _ _ _=>aK fun _ _=>aK fun _ _=>bf<|bf<|aJ fun _=>bY fun _ _=>fun h=>by intros;subst_vars;exact bn (aj4 _ _ _) h
def IU (p0:(Int×(Int×Unit))) (p1:List Int):Tre Bool:=
 let v1:=inR (p1.length:Int) 1 5
 .cond v1
  (.mat (wZ p0 p1) fun r2=>
  .ret r2)
  (.ret false)
def vG (p0:(Int×(Int×Unit))) (p1:List Int):Option Bool:=(IU p0 p1).run some
def NS:Env:=⟨tau,[(45,kF),(92,yJ),(60,ML)],[]⟩
def aeP:FnI:=fnI Tryz.f121 []
def IV (_:Bool) (_:(Int×(Int×Unit))) (_:List Int):Bool→au:=fun r=>⟨(.imm true .bool r),[],[]⟩
theorem abX:∀(zp0:Bool)(p0:(Int×(Int×Unit)))(p1:List Int),bJ NS aeP ⟨[(.imm true aL p0),(.imm zp0 .il p1)],[]⟩=(IU p0 p1).run fun r=>some (IV zp0 p0 p1 r):=fun _ _ _=>by kernel_rfl
def aeO (av:List AV) (rs:List Root):Tre au:=
 aC av fun a0_ av0=>
 aC av0 fun a1_ av1=>
 aM av1<|
 aM rs<|
 ay true aL a0_ fun d1=>
 aZ .il a1_ fun z3 d2=>
 .mat (vG d1 d2) fun r=>.ret (IV z3 d1 d2 r)
def NT:Ctr:=dD [] aeO
theorem abY:Contract Tryz.prog .none 121 NT:=aD (V:=NS) aW (ak lD ajO (ak zk anR (ak UY aCk aH))) Tryz.func121 bI fun _ _ _=>aK fun _ _=>aK fun _ _=>bf<|bf<|aJ fun _=>bY fun _ _=>fun h=>by intros;subst_vars;exact bn (abX _ _ _) h
def pR (p0:List Int) (p1:(Int×(Int×Unit))) (p2:(List (List Int))):Tre Bool:=
 .mat (vG p1 p0) fun r1=>
 .cond (!r1)
  (.ret true)
  (.ite ((0:Int)≤0∧(0:Int)<(p2.length:Int))<|
  .mat (p2[0]?) fun x2=>
  .ret (!decide ((p0.length:Int)=(x2.length:Int))))
def gL (p0:List Int) (p1:(Int×(Int×Unit))) (p2:(List (List Int))):Option Bool:=(pR p0 p1 p2).run some
def wu:Env:=⟨tau,[(121,NT)],[]⟩
def Ku:FnI:=fnI Tryz.f120 []
def tK (_:Bool) (zp1:Bool) (_:List Int) (p1:(Int×(Int×Unit))) (p2:(List (List Int))):Bool→au:=fun r=>⟨(.imm true .bool r),[⟨true,aL,.own,p1⟩,⟨true,(.sl .il),(.imm zp1),p2⟩],[]⟩
theorem I8:∀(zp0 zp1:Bool)(p0:List Int)(p1:(Int×(Int×Unit)))(p2:(List (List Int))),bJ wu Ku ⟨[(.imm zp0 .il p0),(.ptr (0,0) []),(.ptr (0,1) [])],[⟨true,aL,.own,p1⟩,⟨true,(.sl .il),(.imm zp1),p2⟩]⟩=(pR p0 p1 p2).run fun r=>some (tK zp0 zp1 p0 p1 p2 r):=fun _ _ _ _ _=>by kernel_rfl
def Kt (av:List AV) (rs:List Root):Tre au:=
 aC av fun a0_ av0=>
 aC av0 fun a1_ av1=>
 aC av1 fun a2_ av2=>
 aM av2<|
 aC rs fun r0_ rs0=>
 aC rs0 fun r1_ rs1=>
 aM rs1<|
 aZ .il a0_ fun z2 d1=>
 eF (0,0) [] a1_<|
 eF (0,1) [] a2_<|
 wV true aL r0_ fun m3 d4=>
 asM .own m3<|
 wV true (.sl .il) r1_ fun m5 d6=>
 lu m5 fun z7=>
 .mat (gL d1 d4 d6) fun r=>.ret (tK z2 z7 d1 d4 d6 r)
def wz:Ctr:=dD [] Kt
theorem I9:Contract Tryz.prog .none 120 wz:=aD (V:=wu) aW (ak abY aDa aH) Tryz.func120 bI fun _ _ _=>aK fun _ _=>aK fun _ _=>aK fun _ _=>bf<|aK fun _ _=>aK fun _ _=>bf<|bY fun _ _=>jD<|jD<|tRt fun _ _=>tM<|tRt fun _ _=>BA fun _=>fun h=>by intros;subst_vars;exact bn (I8 _ _ _ _ _) h
def VY (aU:(List (List Int))) (bG:Int) (bK:(Int×(Int×Unit))) (Iw:(List (List Int))):Int→Tre (Int ⊕ (Int ⊕ Unit)):=fun s2=>
 .cond (decide (s2<bG))
  (.ite (0≤s2∧s2<(aU.length:Int))<|
  .mat (aU[s2.toNat]?) fun x1=>
  .mat (gL x1 bK Iw) fun r2=>
  .cond r2
   (.ret (.inr (.inl s2)))
   (.ret (.inl (aI .i64 (s2+1)))))
  (.ret (.inr (.inr ())))
def nm3 (p0:(List (List Int))) (p1:(Int×(Int×Unit))) (p2:(List (List Int))):Tre Int:=
 .mat (aO (VY p0 (p0.length:Int) p1 p2) 0) fun l3=>
 .alt l3
  (fun a4=>
   .ret a4)
  (fun _=>
   .ret (-1))
def awd (p0:(List (List Int))) (p1:(Int×(Int×Unit))) (p2:(List (List Int))):Option Int:=(nm3 p0 p1 p2).run some
def awe:Env:=⟨tau,[(120,wz)],[]⟩
def aCA:Code:=(Tryz.f122.body).getD .skip
def afq (eH:Bool) (Xr:Bool) (aU:(List (List Int))) (bG:Int) (bK:(Int×(Int×Unit))) (Iw:(List (List Int))):Int→St:=fun x=>bP [(0,(.imm eH (.sl .il) aU)),(1,(.fn 120 [(0,0),(0,1)])),(7,(.i bG)),(8,(.i x))] [((0,0),some ⟨true,aL,.own,bK⟩),((0,1),some ⟨true,(.sl .il),(.imm Xr),Iw⟩)]
def Q6 (_:Bool) (Xr:Bool) (_:(List (List Int))) (_:Int) (bK:(Int×(Int×Unit))) (Iw:(List (List Int))):(Int ⊕ Unit)→Ex×St
 |.inl x=>(.ret,bP [(4,(.i x))] [((0,0),some ⟨true,aL,.own,bK⟩),((0,1),some ⟨true,(.sl .il),(.imm Xr),Iw⟩)])
 |.inr _=>(.exit 0,bP [(4,.dead)] [((0,0),some ⟨true,aL,.own,bK⟩),((0,1),some ⟨true,(.sl .il),(.imm Xr),Iw⟩)])
def asi (s:St):Tre (Ex×St):=
 aZ (.sl .il) (s.tmps 0) fun z3 d2=>
 Tk 120 [(0,0),(0,1)] (s.tmps 1)<|
 ay true .n (s.tmps 7) fun d6=>
 ay true .n (s.tmps 8) fun d8=>
 bg true aL (s.roots (0,0)) fun m10 d11=>
 asM .own m10<|
 bg true (.sl .il) (s.roots (0,1)) fun m13 d14=>
 lu m13 fun z15=>
 .mat (aO (VY d2 d6 d11 d14) d8) fun x=>.alt x (fun a0=>.ret (Q6 z3 z15 d2 d6 d11 d14 (.inl a0))) (fun b0=>.ret (Q6 z3 z15 d2 d6 d11 d14 (.inr b0)))
def VZ:bq:=⟨([0,1,7,8],[(0,0),(0,1)]),([4],[(0,0),(0,1)]),asi⟩
def azM:List (Nat×bq):=[(2,VZ)]
theorem asj:∀(eH Xr:Bool)(aU:(List (List Int)))(bG:Int)(bK:(Int×(Int×Unit)))(Iw:(List (List Int)))(x:Int)(c:St→Option (Ex×St)),den awe azM (aT aCA 0) (afq eH Xr aU bG bK Iw x) (bR VZ.kp VZ.kx c)=(VY aU bG bK Iw x).run (bS (afq eH Xr aU bG bK Iw) (Q6 eH Xr aU bG bK Iw) c):=fun _ _ _ _ _ _ _ _=>by
 kernel_rfl
theorem axK:bQ awe azM (aT aCA 0) VZ:=fK fun s e s' h=>by
 generalize hs:restrict VZ.kp s=s1 at h
 have h:(asi s1).run some=some (e,s'):=h
 obtain ⟨z3,d2,e1,h_0⟩:=fA h
 obtain ⟨e4,h_1⟩:=Cq h_0
 obtain ⟨d6,e5,h_2⟩:=cu h_1
 obtain ⟨d8,e7,h_3⟩:=cu h_2
 obtain ⟨m10,d11,e9,h_4⟩:=fQ h_3
 obtain ⟨rfl,h_5⟩:=rO h_4
 obtain ⟨m13,d14,e12,h_6⟩:=fQ h_5
 obtain ⟨z15,rfl,h_7⟩:=KM h_6
 obtain ⟨y,hy,hz⟩:=gN h_7
 refine ⟨_,_,afq z3 z15 d2 d6 d11 d14,Q6 z3 z15 d2 d6 d11 d14,VY d2 d6 d11 d14,d8,y,?_,hy,?_,asj z3 z15 d2 d6 d11 d14⟩
 ·subst hs;exact aP (T:=[(0,(.imm z3 (.sl .il) d2)),(1,(.fn 120 [(0,0),(0,1)])),(7,(.i d6)),(8,(.i d8))]) (U:=[((0,0),some ⟨true,aL,.own,d11⟩),((0,1),some ⟨true,(.sl .il),(.imm z15),d14⟩)]) rfl rfl ⟨e1,e4,e5,e7,trivial⟩ ⟨e9,e12,trivial⟩
 ·rcases y with x|x<;>exact Option.some.inj hz
def aE8:FnI:=fnI Tryz.f122 azM
def awf (_:Bool) (zp1:Bool) (_:(List (List Int))) (p1:(Int×(Int×Unit))) (p2:(List (List Int))):Int→au:=fun r=>⟨(.i r),[⟨true,aL,.own,p1⟩,⟨true,(.sl .il),(.imm zp1),p2⟩],[]⟩
theorem aDF:∀(zp0 zp1:Bool)(p0:(List (List Int)))(p1:(Int×(Int×Unit)))(p2:(List (List Int))),bJ awe aE8 ⟨[(.imm zp0 (.sl .il) p0),(.fn 120 [(0,0),(0,1)])],[⟨true,aL,.own,p1⟩,⟨true,(.sl .il),(.imm zp1),p2⟩]⟩=(nm3 p0 p1 p2).run fun r=>some (awf zp0 zp1 p0 p1 p2 r):=fun _ _ _ _ _=>by kernel_rfl
def aE7 (av:List AV) (rs:List Root):Tre au:=
 aC av fun a0_ av0=>
 aC av0 fun a1_ av1=>
 aM av1<|
 aC rs fun r0_ rs0=>
 aC rs0 fun r1_ rs1=>
 aM rs1<|
 aZ (.sl .il) a0_ fun z2 d1=>
 Tk 120 [(0,0),(0,1)] a1_<|
 wV true aL r0_ fun m3 d4=>
 asM .own m3<|
 wV true (.sl .il) r1_ fun m5 d6=>
 lu m5 fun z7=>
 .mat (awd d1 d4 d6) fun r=>.ret (awf z2 z7 d1 d4 d6 r)
def aCB:Ctr:=dD [] aE7
theorem aDG:Contract Tryz.prog .none 122 aCB:=aD (V:=awe) aW (ak I9 aC9 aH) Tryz.func122 (bF (n:=1) fun k hk=>by
 match k,hk with
 |0,_=>exact bH (id:=2) axK) fun _ _ _=>aK fun _ _=>aK fun _ _=>bf<|aK fun _ _=>aK fun _ _=>bf<|bY fun _ _=>tFn<|tRt fun _ _=>tM<|tRt fun _ _=>BA fun _=>fun h=>by intros;subst_vars;exact bn (aDF _ _ _ _ _) h
def nm0 (p0:(List (List Int))) (p1:(Int×(Int×Unit))) (p2:(List (List Int))):Tre Bool:=
 .mat (awd p0 p1 p2) fun r1=>
 .ret (decide (r1 ≥ 0))
def av4 (p0:(List (List Int))) (p1:(Int×(Int×Unit))) (p2:(List (List Int))):Option Bool:=(nm0 p0 p1 p2).run some
def aCu:Env:=⟨tau,[(122,aCB)],[]⟩
def aE2:FnI:=fnI Tryz.f119 []
def av5 (_:Bool) (zp1:Bool) (_:(List (List Int))) (p1:(Int×(Int×Unit))) (p2:(List (List Int))):Bool→au:=fun r=>⟨(.imm true .bool r),[⟨true,aL,.own,p1⟩,⟨true,(.sl .il),(.imm zp1),p2⟩],[]⟩
theorem aDz:∀(zp0 zp1:Bool)(p0:(List (List Int)))(p1:(Int×(Int×Unit)))(p2:(List (List Int))),bJ aCu aE2 ⟨[(.imm zp0 (.sl .il) p0),(.fn 120 [(0,0),(0,1)])],[⟨true,aL,.own,p1⟩,⟨true,(.sl .il),(.imm zp1),p2⟩]⟩=(nm0 p0 p1 p2).run fun r=>some (av5 zp0 zp1 p0 p1 p2 r):=fun _ _ _ _ _=>by kernel_rfl
def aE1 (av:List AV) (rs:List Root):Tre au:=
 aC av fun a0_ av0=>
 aC av0 fun a1_ av1=>
 aM av1<|
 aC rs fun r0_ rs0=>
 aC rs0 fun r1_ rs1=>
 aM rs1<|
 aZ (.sl .il) a0_ fun z2 d1=>
 Tk 120 [(0,0),(0,1)] a1_<|
 wV true aL r0_ fun m3 d4=>
 asM .own m3<|
 wV true (.sl .il) r1_ fun m5 d6=>
 lu m5 fun z7=>
 .mat (av4 d1 d4 d6) fun r=>.ret (av5 z2 z7 d1 d4 d6 r)
def aCv:Ctr:=dD [] aE1
theorem aDA:Contract Tryz.prog .none 119 aCv:=aD (V:=aCu) aW (ak aDG ay6 aH) Tryz.func119 bI fun _ _ _=>aK fun _ _=>aK fun _ _=>bf<|aK fun _ _=>aK fun _ _=>bf<|bY fun _ _=>tFn<|tRt fun _ _=>tM<|tRt fun _ _=>BA fun _=>fun h=>by intros;subst_vars;exact bn (aDz _ _ _ _ _) h
def vJ (p0:(Int×(Int×Unit))) (p1:(List (List Int))):Tre Int:=
 .mat (uM p0) fun r1=>
 .cond (!r1)
  (.ret 1)
  (.mat (av4 p1 p0 p1) fun r2=>
  .cond r2
   (.ret 2)
   (.ret 0))
def jP (p0:(Int×(Int×Unit))) (p1:(List (List Int))):Option Int:=(vJ p0 p1).run some
def I6:Env:=⟨tau,[(118,Vq),(119,aCv)],[]⟩
def aah:FnI:=fnI Tryz.f90 []
def En (_:Bool) (_:(Int×(Int×Unit))) (_:(List (List Int))):Int→au:=fun r=>⟨(.i r),[],[]⟩
theorem X6:∀(zp0:Bool)(p0:(Int×(Int×Unit)))(p1:(List (List Int))),bJ I6 aah ⟨[(.imm true aL p0),(.imm zp0 (.sl .il) p1)],[]⟩=(vJ p0 p1).run fun r=>some (En zp0 p0 p1 r):=fun _ _ _=>by kernel_rfl
def aag (av:List AV) (rs:List Root):Tre au:=
 aC av fun a0_ av0=>
 aC av0 fun a1_ av1=>
 aM av1<|
 aM rs<|
 ay true aL a0_ fun d1=>
 aZ (.sl .il) a1_ fun z3 d2=>
 .mat (jP d1 d2) fun r=>.ret (En z3 d1 d2 r)
def I7:Ctr:=dD [] aag
theorem X7:Contract Tryz.prog .none 90 I7:=aD (V:=I6) aW (ak ahV aC7 (ak aDA aC8 aH)) Tryz.func90 bI fun _ _ _=>aK fun _ _=>aK fun _ _=>bf<|bf<|aJ fun _=>bY fun _ _=>fun h=>by intros;subst_vars;exact bn (X6 _ _ _) h
def CU (p0:List Int):Tre Bool:=
 .mat (aq9 p0) fun r1=>
 .ret (decide ((r1.length:Int)=(p0.length:Int)))
def Ji (p0:List Int):Option Bool:=(CU p0).run some
def aBn (xs:List Int):Option Bool:=ajx (FJ 62 xs) (decide (((Tm xs).length:Int)=(xs.length:Int)))
theorem TY(p0:List Int)(y:Bool)(h:aBn p0=some y):Ji p0=some y:=by
 obtain ⟨hok,rfl⟩:=rY h
 unfold Ji CU
 rw [ah (show aq9 p0=some _ from jJ hok)]
 rfl
def Jj:Env:=⟨tau,[(64,Li)],[]⟩
def aar:FnI:=fnI Tryz.f91 []
def ED (_:Bool) (_:List Int):Bool→au:=fun r=>⟨(.imm true .bool r),[],[]⟩
theorem Yd:∀(zp0:Bool)(p0:List Int),bJ Jj aar ⟨[(.imm zp0 .il p0)],[]⟩=(CU p0).run fun r=>some (ED zp0 p0 r):=fun _ _=>by kernel_rfl
def aaq (av:List AV) (rs:List Root):Tre au:=
 aC av fun a0_ av0=>
 aM av0<|
 aM rs<|
 aZ .il a0_ fun z2 d1=>
 .mat (aBn d1) fun r=>.ret (ED z2 d1 r)
def Jk:Ctr:=dD [] aaq
theorem Ye:Contract Tryz.prog .none 91 Jk:=aD (V:=Jj) aW (ak QG ay9 aH) Tryz.func91 bI fun _ _ _=>aK fun _ _=>bf<|bf<|bY fun _ _=>fun h=>by intros;subst_vars;exact qE (Yd _ _) (TY _) h
def CQ (p0:aG):Tre Bool:=
 .mat (jP p0.1 ([p0.2.1])) fun r1=>
 .cond (decide (r1=0))
  (.mat (aBn p0.2.1) fun r2=>
  .cond r2
   (let v3:=inR p0.2.2.1 1 (p0.2.1.length:Int)
   .ret v3)
   (.ret false))
  (.ret false)
def mK (p0:aG):Option Bool:=(CQ p0).run some
def Jh:Env:=⟨tau,[(90,I7),(91,Jk),(45,kF),(92,yJ)],[]⟩
def aap:FnI:=fnI Tryz.f59 []
def EC (_:Bool) (_:aG):Bool→au:=fun r=>⟨(.imm true .bool r),[],[]⟩
theorem Yc:∀(zp0:Bool)(p0:aG),bJ Jh aap ⟨[(.imm zp0 aX p0)],[]⟩=(CQ p0).run fun r=>some (EC zp0 p0 r):=fun _ _=>by kernel_rfl
def aao (av:List AV) (rs:List Root):Tre au:=
 aC av fun a0_ av0=>
 aM av0<|
 aM rs<|
 aZ aX a0_ fun z2 d1=>
 .mat (mK d1) fun r=>.ret (EC z2 d1 r)
def yI:Ctr:=dD [] aao
theorem Gh:Contract Tryz.prog .none 59 yI:=aD (V:=Jh) aW (ak X7 aER (ak Ye aES (ak lD ajO (ak zk anR aH)))) Tryz.func59 bI fun _ _ _=>aK fun _ _=>bf<|bf<|bY fun _ _=>fun h=>by intros;subst_vars;exact bn (Yc _ _) h
def yG (p0:aG) (p1:List Int):Tre Int:=
 .mat (mK p0) fun r1=>
 .cond (!r1)
  (.ret 1)
  (.cond (!decide ((p1.length:Int)=(p0.2.1.length:Int)))
   (.ret 2)
   (.mat (wZ p0.1 p1) fun r2=>
   .cond (!r2)
    (.ret 2)
    (.ret 0)))
def nS (p0:aG) (p1:List Int):Option Int:=(yG p0 p1).run some
-- more
theorem auH{f:TF3}(hf:aN f=true)(c:List Int):vG f c=some (inR (c.length:Int) 1 5&&oK f c):=by
 unfold vG IU
 dsimp only
 rw [Tre.aA]
 cases hi:inR (c.length:Int) 1 5
 ·rfl
 ·have:=gV.1 hi
  rw [cond_true,ah (UW hf c (by omega)),Tre.aF,Bool.true_and]
theorem ape{f:TF3}(hf:aN f=true)(c:List Int):jP f [c]=some (if inR (c.length:Int) 1 5=true∧oK f c=true then 0 else 2):=by
 have h1:gL c f [c]=some (!(inR (c.length:Int) 1 5&&oK f c)):=by
  unfold gL pR
  rw [ah (auH hf c),Tre.aA]
  cases inR (c.length:Int) 1 5&&oK f c
  ·rfl
  ·rw [Bool.not_true,cond_false,Tre.run_ite,if_pos ⟨by omega,by simp⟩,ah (show [c][0]?=some c from rfl),Tre.aF,decide_eq_true rfl]
   rfl
 have h2:awd [c] f [c]=some (if inR (c.length:Int) 1 5=true∧oK f c=true then -1 else 0):=by
  unfold awd nm3
  by_cases hc:inR (c.length:Int) 1 5=true∧oK f c=true
  ·rw [hc.1,hc.2] at h1
   rw [ah (show aO (VY [c] (([c]:List (List Int)).length:Int) f [c]) 0=some (.inr ()) from ?_),if_pos hc]
   ·rfl
   refine dh (fun i=>(i:Int)) 1 _ (fun i hi=>?_) ?_
   ·obtain rfl:i=0:=by omega
    unfold VY
    rw [dX (i:=0) (show [c][0]?=some c from rfl),ah h1]
    rfl
   ·rfl
  ·have h3:(inR (c.length:Int) 1 5&&oK f c)=false:=by
    cases h:(inR (c.length:Int) 1 5&&oK f c)
    ·rfl
    ·rw [Bool.and_eq_true] at h;exact absurd h hc
   rw [h3] at h1
   rw [ah (show aO (VY [c] (([c]:List (List Int)).length:Int) f [c]) 0=some (.inl 0) from ?_),if_neg hc]
   ·rfl
   refine fO ?_
   unfold VY
   have:=dX (i:=0) (xs:=[c]) (x:=c) (show [c][0]?=some c from rfl) (k:=fun x1=>Tre.mat (gL x1 f [c]) fun r2=>Tre.cond r2 (Tre.ret (Sum.inr (Sum.inl (0:Int)))) (Tre.ret (Sum.inl (aI .i64 ((0:Int)+1))))) (e:=Tre.ret (Sum.inr (Sum.inr ()))) (c:=some)
   refine Eq.trans this ?_
   rw [ah h1]
   rfl
 have h4:av4 [c] f [c]=some (!decide (inR (c.length:Int) 1 5=true∧oK f c=true)):=by
  unfold av4 nm0
  rw [ah h2,Tre.aF]
  by_cases hc:inR (c.length:Int) 1 5=true∧oK f c=true
  ·rw [if_pos hc,decide_eq_true hc];rfl
  ·rw [if_neg hc,decide_eq_false hc];rfl
 unfold jP vJ
 rw [ah (R8 f),hf,Tre.aA,Bool.not_true,cond_false,ah h4,Tre.aA]
 by_cases hc:inR (c.length:Int) 1 5=true∧oK f c=true
 ·rw [decide_eq_true hc,if_pos hc];rfl
 ·rw [decide_eq_false hc,if_neg hc];rfl
theorem acz(g:TF3×List Int×Int×Unit):mK g=some (Tn g):=by
 unfold mK CQ Tn
 cases hf:aN g.1
 ·have:jP g.1 [g.2.1]=some 1:=by
   unfold jP vJ
   rw [ah (R8 g.1),hf]
   rfl
  rw [ah this]
  rfl
 rw [ah (ape hf g.2.1),Tre.aA,Bool.true_and]
 by_cases hc:inR (g.2.1.length:Int) 1 5=true∧oK g.1 g.2.1=true
 ·have hl:=gV.1 hc.1
  have h5:=(Xx hf).2
  rw [if_pos hc,decide_eq_true rfl,cond_true,ah (show aBn g.2.1=some _ from jJ (arf hf hc.2 (by omega) (by omega))),Tre.aA,hc.1,hc.2,Bool.true_and,Bool.true_and]
  cases decide (((Tm g.2.1).length:Int)=(g.2.1.length:Int))
  ·rfl
  ·rfl
 ·have h3:(inR (g.2.1.length:Int) 1 5&&(oK g.1 g.2.1&&(decide (((Tm g.2.1).length:Int)=(g.2.1.length:Int))&&inR g.2.2.1 1 (g.2.1.length:Int))))=false:=by
   cases h:inR (g.2.1.length:Int) 1 5
   ·rfl
   ·cases h2:oK g.1 g.2.1
    ·rfl
    ·exact absurd ⟨h,h2⟩ hc
  rw [if_neg hc,decide_eq_false (by decide),cond_false,h3]
  rfl
theorem auM(g:TF3×List Int×Int×Unit)(w:List Int)(hw:w.length≤1048576):nS g w=some (Eb g w):=by
 unfold nS yG Eb
 rw [ah (acz g),Tre.aA]
 cases hg:Tn g
 ·rfl
 ·have hf:aN g.1=true:=by unfold Tn at hg;simp only [Bool.and_eq_true] at hg;exact hg.1
  rw [Bool.not_true,cond_false,if_pos rfl,Tre.aA]
  by_cases h1:w.length=g.2.1.length
  ·rw [decide_eq_true (by omega),Bool.not_true,cond_false,ah (UW hf w (by omega)),Tre.aA]
   cases he:oK g.1 w
   ·rw [if_neg (by simp)];rfl
   ·rw [if_pos ⟨h1,rfl⟩];rfl
  ·rw [decide_eq_false (by omega),Bool.not_false,cond_true,if_neg fun h=>h1 h.1];rfl
def Eu:Env:=⟨tau,[(59,yI),(60,ML)],[]⟩
def Vj:FnI:=fnI Tryz.f31 []
def Ak (_:Bool) (_:Bool) (_:aG) (_:List Int):Int→au:=fun r=>⟨(.i r),[],[]⟩
theorem TP:∀(zp0 zp1:Bool)(p0:aG)(p1:List Int),bJ Eu Vj ⟨[(.imm zp0 aX p0),(.imm zp1 .il p1)],[]⟩=(yG p0 p1).run fun r=>some (Ak zp0 zp1 p0 p1 r):=fun _ _ _ _=>by kernel_rfl
def Vi (av:List AV) (rs:List Root):Tre au:=
 aC av fun a0_ av0=>
 aC av0 fun a1_ av1=>
 aM av1<|
 aM rs<|
 aZ aX a0_ fun z2 d1=>
 aZ .il a1_ fun z4 d3=>
 .mat (nS d1 d3) fun r=>.ret (Ak z2 z4 d1 d3 r)
def Ev:Ctr:=dD [] Vi
theorem TQ:Contract Tryz.prog .none 31 Ev:=aD (V:=Eu) aW (ak Gh aCj (ak UY aCk aH)) Tryz.func31 bI fun _ _ _=>aK fun _ _=>aK fun _ _=>bf<|bf<|bY fun _ _=>bY fun _ _=>fun h=>by intros;subst_vars;exact bn (TP _ _ _ _) h
def sQ (p0:aG) (p1:List Int) (p2:bB) (p3:Int):Tre Int:=
 .mat (mK p0) fun r1=>
 .cond (!r1)
  (.ret 1)
  (.mat (Le p2) fun r2=>
  .cond (!r2)
   (.ret 1)
   (.mat (nS p0 p1) fun r3=>
   .cond (!decide (r3=0))
    (.ret r3)
    (.cond (!decide (p2.1=p3))
     (.ret 2)
     (let v4:=aI .i64 ((p2.2.1.length:Int)+p0.2.2.1)
     .cond (decide ((p0.2.1.length:Int)<v4))
      (.ret 4)
      (.ret 0)))))
def kX (p0:aG) (p1:List Int) (p2:bB) (p3:Int):Option Int:=(sQ p0 p1 p2 p3).run some
-- more
theorem axC(g:TF3×List Int×Int×Unit)(w:List Int)(u:Int×List Int×Unit)(c:Int)(hw:w.length≤1048576)(hu:u.2.1.length≤1048576):kX g w u c=some (agC g w u c):=by
 unfold kX sQ agC
 rw [ah (acz g),Tre.aA]
 cases hg:Tn g
 ·rfl
 rw [Bool.not_true,cond_false,if_pos rfl,ah (aoX u hu),Tre.aA]
 cases hs:ai2 u
 ·rfl
 have hl:=arv hg hs
 rw [Int.add_comm] at hl
 rw [Bool.not_true,cond_false,if_pos rfl,ah (auM g w hw),Tre.aA]
 by_cases h1:Eb g w=0
 case neg=>rw [if_neg h1,decide_eq_false h1,Bool.not_false,cond_true,Tre.aF,axo hg h1]
 rw [if_pos h1,decide_eq_true h1,Bool.not_true,cond_false,Tre.aA]
 by_cases h2:u.1=c
 case neg=>rw [decide_eq_false h2,if_neg h2];rfl
 rw [decide_eq_true h2,if_pos h2,Bool.not_true,cond_false]
 dsimp only
 rw [hl,Tre.aA]
 by_cases h3:(g.2.1.length:Int)<g.2.2.1+(u.2.1.length:Int)
 ·rw [decide_eq_true (by omega),if_pos h3];rfl
 ·rw [decide_eq_false (by omega),if_neg h3];rfl
def y8:Env:=⟨tau,[(59,yI),(74,agF),(31,Ev),(45,kF)],[]⟩
def Og:FnI:=fnI Tryz.f44 []
def wE (_:Bool) (_:Bool) (_:Bool) (_:aG) (_:List Int) (_:bB) (_:Int):Int→au:=fun r=>⟨(.i r),[],[]⟩
theorem MU:∀(zp0 zp1 zp2:Bool)(p0:aG)(p1:List Int)(p2:bB)(p3:Int),bJ y8 Og ⟨[(.imm zp0 aX p0),(.imm zp1 .il p1),(.imm zp2 bZ p2),(.i p3)],[]⟩=(sQ p0 p1 p2 p3).run fun r=>some (wE zp0 zp1 zp2 p0 p1 p2 p3 r):=fun _ _ _ _ _ _ _=>by kernel_rfl
def Oe (av:List AV) (rs:List Root):Tre au:=
 aC av fun a0_ av0=>
 aC av0 fun a1_ av1=>
 aC av1 fun a2_ av2=>
 aC av2 fun a3_ av3=>
 aM av3<|
 aM rs<|
 aZ aX a0_ fun z2 d1=>
 aZ .il a1_ fun z4 d3=>
 aZ bZ a2_ fun z6 d5=>
 ay true .n a3_ fun d7=>
 .mat (kX d1 d3 d5 d7) fun r=>.ret (wE z2 z4 z6 d1 d3 d5 d7 r)
def y9:Ctr:=dD [] Oe
theorem MV:Contract Tryz.prog .none 44 y9:=aD (V:=y8) aW (ak Gh aCj (ak aoY aEL (ak TQ aEq (ak lD ajO aH)))) Tryz.func44 bI fun _ _ _=>aK fun _ _=>aK fun _ _=>aK fun _ _=>aK fun _ _=>bf<|bf<|bY fun _ _=>bY fun _ _=>bY fun _ _=>aJ fun _=>fun h=>by intros;subst_vars;exact bn (MU _ _ _ _ _ _ _) h
-- more
theorem at1(g:TF3×List Int×Int×Unit)(w:List Int):Eb g w≠0∨∃(hf:aN g.1=true) (P W:List Nat) (k:Nat),g=(g.1,aQ P,(k:Int),())∧w=aQ W∧FO.wU P∧inL (FOf g.1 hf) P∧inL (FOf g.1 hf) W∧W.length=P.length∧P.length≤5∧1≤k∧k≤P.length∧Eb (g.1,aQ P,(k:Int),()) (aQ W)=0:=by
 by_cases h:Eb g w=0
 ·right
  obtain ⟨h1,h2,h3⟩:=azk h
  obtain ⟨hf,P,k,hg,hP,hi,hl,hk1,hk2⟩:=ajZ h1
  obtain ⟨W,hw,hW⟩:=aja hf (aeC h3)
  refine ⟨hf,P,W,k,hg,hw,hi,hP,hW,?_,hl,hk1,hk2,by rw [←hg,←hw];exact h⟩
  rw [hg,hw] at h2
  simpa only [aS] using h2
 ·exact .inl h
def IG (p0:aG) (p1:List Int) (p2:bB):Tre (Int×(List Int)):=
 .mat (kX p0 p1 p2 p0.1.1) fun r1=>
 .cond (!decide (r1=0))
  (.ret (r1,[]))
  (.mat (mU p0.1 p2.2.1) fun r2=>
  let v3:=aI .i64 (p0.2.2.1+(p2.2.1.length:Int))
  .mat (pQ p0.1 r2 p1) fun r4=>
  .mat (kD (p0.1,(p0.2.1,(v3,()))) r4) fun r5=>
  .cond (!r5.1)
   (.ret (6,[]))
   (.mat (sw r5.2) fun r6=>
   .alt r6
    (fun a7=>
     .mat (jO p0.1 a7 r2 false) fun r9=>
     .cond (decide ((r9.2.length:Int)>0))
      (.ret (6,[]))
      (.cond (decide ((r9.1.length:Int)>p0.2.2.1))
       (.ret (6,[]))
       (let v10:=aI .i64 (p0.2.2.1-(r9.1.length:Int))
       .ite (0≤v10∧(r9.1.length+v10.toNat)*8≤bM∧1≤8)<|
       let v11:=r9.1++List.replicate v10.toNat 0
       .ret (0,v11))))
    (fun b8=>
     .mat (jO p0.1 ((b8.2.2.drop b8.1).take b8.2.1) r2 false) fun r12=>
     .cond (decide ((r12.2.length:Int)>0))
      (.ret (6,[]))
      (.cond (decide ((r12.1.length:Int)>p0.2.2.1))
       (.ret (6,[]))
       (let v13:=aI .i64 (p0.2.2.1-(r12.1.length:Int))
       .ite (0≤v13∧(r12.1.length+v13.toNat)*8≤bM∧1≤8)<|
       let v14:=r12.1++List.replicate v13.toNat 0
       .ret (0,v14))))))
def pJ (p0:aG) (p1:List Int) (p2:bB):Option (Int×(List Int)):=(IG p0 p1 p2).run some
-- more
theorem aqs{f:TF3}(hf:aN f=true){P W:List Nat}(hP:inL (FOf f hf) P)(hl:P.length≤1000)(hW:inL (FOf f hf) W)(hWl:W.length≤1000)(X:List Int)(k:Int):aO (jR (aQ W) (f,X,k,()) (aQ P)) (0,[])=some (aQ (W.map ((FOf f hf).lp P))):=by
 refine dh (fun i=>((i:Int),aQ ((W.take i).map ((FOf f hf).lp P)))) W.length _ (fun i hi=>?_) ?_
 ·unfold jR
  dsimp only
  rw [dX (dL (eO hi)),ah (aox hf hP hl (kC hW i)),Tre.run_ite,if_pos (by rw [aS,List.length_map,List.length_take];unfold bM;omega),Tre.aF,aR (by omega),List.take_add_one,eO hi,Option.toList_some,List.map_append,pW]
  rfl
 ·unfold jR
  dsimp only
  rw [aS,dF,Tre.aF,List.take_length]
theorem axq{f:TF3}(hf:aN f=true){N V A R:List Nat}{k:Nat}(hk:k≤1000)(hN:inL (FOf f hf) N)(hV:inL (FOf f hf) V)(hn:V≠[])(htV:tq V)(htN:tq N)(hNl:N.length≤100)(hVl:V.length≤100)(hd:Ik (FOf f hf) N V A R)(hR:R.length<V.length) :
  (Tre.mat (jO f (aQ N) (aQ V) false) fun r9=>Tre.cond (decide ((r9.2.length:Int)>0)) (Tre.ret ((6:Int),([]:List Int))) (Tre.cond (decide ((r9.1.length:Int)>(k:Int))) (Tre.ret (6,[])) (Tre.ite (0≤aI .i64 ((k:Int)-(r9.1.length:Int))∧(r9.1.length+(aI .i64 ((k:Int)-(r9.1.length:Int))).toNat)*8≤bM∧1≤8) (Tre.ret (0,r9.1++List.replicate (aI .i64 ((k:Int)-(r9.1.length:Int))).toNat 0))))).run some=some (if R=[]∧A.length≤k then (0,aQ (oM k A)) else (6,[])):=by
 obtain ⟨A',R',h1,h2,h3,h4⟩:=akC hf hN hV hn htV htN hNl hVl
 obtain ⟨rfl,rfl⟩:=Ik.aFk hd h2 hV hn htV hR h3
 rw [ah h1,Tre.aA]
 by_cases hR0:R=[]
 case neg=>
  have:=List.length_pos_iff.2 hR0
  rw [decide_eq_true (by rw [aS];omega),cond_true,Tre.aF,if_neg fun h=>hR0 h.1]
 rw [decide_eq_false (by rw [hR0];show ¬((0:Nat):Int)>0;decide),cond_false,Tre.aA]
 by_cases hA:A.length≤k
 case neg=>rw [decide_eq_true (by rw [aS];omega),cond_true,Tre.aF,if_neg fun h=>hA h.2]
 have hw:aI .i64 ((k:Int)-((aQ A).length:Int))=((k-A.length:Nat):Int):=by rw [aS,dP (by omega) (by omega)];omega
 have hpad:aQ A++List.replicate (k-A.length) (0:Int)=aQ (oM k A):=by unfold oM;rw [pW,yL]
 rw [decide_eq_false (by rw [aS];omega),cond_false]
 dsimp only
 rw [hw,Int.toNat_natCast,Tre.run_ite,if_pos ⟨by omega,by rw [aS];unfold bM;omega,by omega⟩,Tre.aF,hpad,if_pos ⟨hR0,hA⟩]
theorem axp(g:TF3×List Int×Int×Unit)(w:List Int)(u:Int×List Int×Unit)(hw:w.length≤1048576)(hu:u.2.1.length≤1048576):∃y:Int×List Int,tX g w u=some (y.2,y.1)∧pJ g w u=some y∧y.2.length≤10:=by
 unfold tX FM pJ IG
 rw [ah (aAf w true g u hw),ah (axC g w u g.1.1 hw hu),Tre.aA,Tre.aA,cond_true]
 by_cases h:agC g w u g.1.1=0
 case neg=>exact ⟨(agC g w u g.1.1,[]),by rw [decide_eq_false h];rfl,by rw [decide_eq_false h];rfl,by simp⟩
 obtain ⟨hs,hh,hc,hle⟩:=azl h
 rcases at1 g w with h'|⟨hf,P,W,k,hg,rfl,hi,hP,hW,hl,hn,hk1,hk2,h0⟩
 ·exact absurd hh h'
 obtain ⟨c,ns,rfl,hc1,hc2,hnl,hns,_⟩:=awH hs
 obtain ⟨f,g2⟩:=g
 dsimp only at hf hg hP hW h0 hc hle h ⊢
 simp only [Prod.mk.injEq,true_and] at hg
 subst hg
 dsimp only at hle ⊢
 rw [wS,aS] at hle
 have hX:inL (FOf f hf) ns:=fun x hx=>by rw [ajl,←hc,Int.toNat_natCast];exact hns x hx
 obtain ⟨ha1,ha2,ha3,ha4⟩:=aoG (FOf f hf) ns
 have hwr:aI .i64 ((k:Int)+((aQ ns).length:Int))=((k+ns.length:Nat):Int):=by rw [aS,dP (by omega) (by omega)];omega
 have hWm:inL (FOf f hf) (W.map ((FOf f hf).lp (zQ (FOf f hf) ns))):=fun x hx=>by
  obtain ⟨y,_,rfl⟩:=List.mem_map.1 hx
  exact (FOf f hf).Y9 _ _
 have hWl:(W.map ((FOf f hf).lp (zQ (FOf f hf) ns))).length=P.length:=by rw [List.length_map,hl]
 rw [h,decide_eq_true rfl,Bool.not_true,cond_false,cond_false,←avR]
 rw [ah (ax6 hf hX (by omega)),ah (aAW hf hX (by omega))]
 dsimp only
 rw [hwr,ah (aqs hf ha1 (by omega) hW (by omega) _ _),ah (akH hf ha1 (by omega) hW (by omega))]
 rcases avd hf hi hP hWm hWl (by omega) (show 1≤k+ns.length by omega) (by omega) with ⟨m,h1,h2⟩|⟨h1,h2⟩
 ·rcases akB hf hi hP hWm hWl (by omega) (show 1≤k+ns.length by omega) (by omega) with ⟨m',h1',h2'⟩|⟨h1',_⟩
  case inr=>rw [h1] at h1';cases h1'
  rw [h1] at h1'
  obtain rfl:=Option.some.inj h1'
  have hnear:=awZ h1
  have hml:=hnear.1
  have hmt:=iP m
  have hta:=aAz ha3
  rcases ahw hf (k:=k) ha1 hnear.2.1 (by omega) (by omega) (by omega) with ⟨h9,_⟩|⟨_,A,R,hd,hR,hF⟩
  ·rw [hta] at h9;exact absurd h9 ha4
  rw [hta] at hd hR
  obtain ⟨r,hr1,hr2⟩:=afa (l:=m) (by omega)
  have htl:=axq hf (k:=k) (by omega) (pV hnear.2.1) ha1 ha4 ha3 (oI m) (by omega) (by omega) hd hR
  refine ⟨if R=[]∧A.length≤k then (0,aQ (oM k A)) else (6,[]),?_,?_,?_⟩
  ·rw [ah h2,Tre.apP,Tre.aA,Bool.not_true,cond_false,ah hF]
   by_cases hq:R=[]∧A.length≤k
   ·rw [if_pos hq,if_pos hq];rfl
   ·rw [if_neg hq,if_neg hq];rfl
  ·rw [ah h2',Tre.aA,Bool.not_true,cond_false,ah hr1]
   cases r with
   |inl a=>rw [Tre.aBx,show a=aQ (cB m) from hr2];exact htl
   |inr b=>rw [Tre.apP,show (b.2.2.drop b.1).take b.2.1=aQ (cB m) from hr2];exact htl
  ·by_cases hq:R=[]∧A.length≤k
   ·rw [if_pos hq]
    show (aQ (oM k A)).length≤10
    rw [aS,V8 hq.2];omega
   ·rw [if_neg hq];simp
 ·rcases akB hf hi hP hWm hWl (by omega) (show 1≤k+ns.length by omega) (by omega) with ⟨m',h1',h2'⟩|⟨h1',M,h2'⟩
  ·rw [h1] at h1';cases h1'
  exact ⟨(6,[]),by rw [ah h2];rfl,by rw [ah h2'];rfl,by simp⟩
def NJ:Env:=⟨tau,[(44,y9),(40,BK),(45,kF),(46,CK),(32,Eo),(48,DJ),(47,Cz)],[(1000002,[((13,0),[],false),((14,0),[],false)])]⟩
def aeJ:FnI:=fnI Tryz.f22 []
def II (_:Bool) (_:Bool) (_:Bool) (_:aG) (_:List Int) (_:bB):(Int×(List Int))→au:=fun r=>⟨(.tcons (.ref (1,0) []) (.tcons (.i r.1) .tnil)),[],[⟨false,.il,.own,r.2⟩]⟩
theorem abQ:∀(zp0 zp1 zp2:Bool)(p0:aG)(p1:List Int)(p2:bB),bJ NJ aeJ ⟨[(.imm zp0 aX p0),(.imm zp1 .il p1),(.imm zp2 bZ p2)],[]⟩=(IG p0 p1 p2).run fun r=>some (II zp0 zp1 zp2 p0 p1 p2 r):=fun _ _ _ _ _ _=>by kernel_rfl
def aeI (av:List AV) (rs:List Root):Tre au:=
 aC av fun a0_ av0=>
 aC av0 fun a1_ av1=>
 aC av1 fun a2_ av2=>
 aM av2<|
 aM rs<|
 aZ aX a0_ fun z2 d1=>
 aZ .il a1_ fun z4 d3=>
 aZ bZ a2_ fun z6 d5=>
 .mat (pJ d1 d3 d5) fun r=>.ret (II z2 z4 z6 d1 d3 d5 r)
def NK:Ctr:=dD [] aeI
theorem abR:Contract Tryz.prog .none 22 NK:=aD (V:=NJ) aW (ak MV aEA (ak Qs aEy (ak lD ajO (ak Lb aCf (ak TJ aEr (ak Jq avG (ak K4 aCg aH))))))) Tryz.func22 bI fun _ _ _=>aK fun _ _=>aK fun _ _=>aK fun _ _=>bf<|bf<|bY fun _ _=>bY fun _ _=>bY fun _ _=>fun h=>by intros;subst_vars;exact bn (abQ _ _ _ _ _ _) h
def sD (bL:List Int) (cZ:List Int):Int→Tre (Int ⊕ (Bool ⊕ Unit)):=fun s4=>
 .cond (decide (s4<(bL.length:Int)))
  (.ite (0≤s4∧s4<(bL.length:Int))<|
  .mat (bL[s4.toNat]?) fun x1=>
  .ite (0≤s4∧s4<(cZ.length:Int))<|
  .mat (cZ[s4.toNat]?) fun x2=>
  .cond (!decide (x1=x2))
   (.ret (.inr (.inl false)))
   (.ret (.inl (aI .i64 (s4+1)))))
  (.ret (.inr (.inr ())))
def aaB (p0:List Int) (p1:List Int):Tre Bool:=
 .cond (!decide ((p0.length:Int)=(p1.length:Int)))
  (.ret false)
  (.mat (aO (sD p0 p1) 0) fun l3=>
  .alt l3
   (fun a4=>
    .ret a4)
   (fun _=>
    .ret true))
def acA (p0:List Int) (p1:List Int):Option Bool:=(aaB p0 p1).run some
abbrev eqS(p0 p1:List Int):Option Bool:=eqR p0.length p0 p1
theorem aia(p0 p1:List Int)(y:Bool)(h:eqR p0.length p0 p1=some y):acA p0 p1=some y:=by
 obtain ⟨hl,rfl,rfl⟩:=azc h
 unfold acA aaB
 rw [Tre.aA,show (!decide ((p0.length:Int)=(p0.length:Int)))=false from by simp,cond_false,Tre.kg,vC (xs:=p0) (fun _ _=>none) (.inr ())]
 ·have:∀(l:List Int)(i:Nat),Ga (β:=Bool ⊕ Unit) (fun _ _=>none) (.inr ()) i l=.inr ():=by
   intro l
   induction l with
   |nil=>intro i;rfl
   |cons x l ih=>intro i;exact ih _
  rw [this]
  rfl
 ·intro i x hx
  have hi:i<p0.length:=(List.getElem?_eq_some_iff.1 hx).1
  unfold sD
  rw [dX hx,dN hx,Tre.aA]
  simp only [decide_true,Bool.not_true,cond_false,Tre.aF,aR (show i<4611686018427387904 by omega)]
 ·unfold sD
  exact dF
def Hq:Env:=⟨tau,[],[]⟩
def acB:Code:=(Tryz.f12.body).getD .skip
def CW (kK:Bool) (F9:Bool) (bL:List Int) (cZ:List Int):Int→St:=fun x=>bP [(0,(.imm kK .il bL)),(1,(.imm F9 .il cZ)),(5,(.i x))] []
def tQ (_:Bool) (_:Bool) (_:List Int) (_:List Int):(Bool ⊕ Unit)→Ex×St
 |.inl x=>(.ret,bP [(4,(.imm true .bool x))] [])
 |.inr _=>(.exit 0,bP [(4,.dead)] [])
def Sm (s:St):Tre (Ex×St):=
 aZ .il (s.tmps 0) fun z3 d2=>
 aZ .il (s.tmps 1) fun z6 d5=>
 ay true .n (s.tmps 5) fun d8=>
 .mat (aO (sD d2 d5) d8) fun x=>.alt x (fun a0=>.ret (tQ z3 z6 d2 d5 (.inl a0))) (fun b0=>.ret (tQ z3 z6 d2 d5 (.inr b0)))
def rR:bq:=⟨([0,1,5],[]),([4],[]),Sm⟩
def QL:List (Nat×bq):=[(4,rR)]
theorem aaC:∀(kK F9:Bool)(bL cZ:List Int)(x:Int)(c:St→Option (Ex×St)),den Hq QL (aT acB 0) (CW kK F9 bL cZ x) (bR rR.kp rR.kx c)=(sD bL cZ x).run (bS (CW kK F9 bL cZ) (tQ kK F9 bL cZ) c):=fun _ _ _ _ _ _=>by
 kernel_rfl
theorem afe:bQ Hq QL (aT acB 0) rR:=fK fun s e s' h=>by
 generalize hs:restrict rR.kp s=s1 at h
 have h:(Sm s1).run some=some (e,s'):=h
 obtain ⟨z3,d2,e1,h_0⟩:=fA h
 obtain ⟨z6,d5,e4,h_1⟩:=fA h_0
 obtain ⟨d8,e7,h_2⟩:=cu h_1
 obtain ⟨y,hy,hz⟩:=gN h_2
 refine ⟨_,_,CW z3 z6 d2 d5,tQ z3 z6 d2 d5,sD d2 d5,d8,y,?_,hy,?_,aaC z3 z6 d2 d5⟩
 ·subst hs;exact aP (T:=[(0,(.imm z3 .il d2)),(1,(.imm z6 .il d5)),(5,(.i d8))]) (U:=[]) rfl rfl ⟨e1,e4,e7,trivial⟩ trivial
 ·rcases y with x|x<;>exact Option.some.inj hz
def apk:FnI:=fnI Tryz.f12 QL
def VB (_:Bool) (_:Bool) (_:List Int) (_:List Int):Bool→au:=fun r=>⟨(.imm true .bool r),[],[]⟩
theorem amR:∀(zp0 zp1:Bool)(p0 p1:List Int),bJ Hq apk ⟨[(.imm zp0 .il p0),(.imm zp1 .il p1)],[]⟩=(aaB p0 p1).run fun r=>some (VB zp0 zp1 p0 p1 r):=fun _ _ _ _=>by kernel_rfl
def apj (av:List AV) (rs:List Root):Tre au:=
 aC av fun a0_ av0=>
 aC av0 fun a1_ av1=>
 aM av1<|
 aM rs<|
 aZ .il a0_ fun z2 d1=>
 aZ .il a1_ fun z4 d3=>
 .mat (eqS d1 d3) fun r=>.ret (VB z2 z4 d1 d3 r)
def Hr:Ctr:=dD [] apj
theorem Nb:Contract Tryz.prog .none 12 Hr:=aD (V:=Hq) aW aH Tryz.func12 (bF (n:=1) fun k hk=>by
 match k,hk with
 |0,_=>exact bH (id:=4) afe) fun _ _ _=>aK fun _ _=>aK fun _ _=>bf<|bf<|bY fun _ _=>bY fun _ _=>fun h=>by intros;subst_vars;exact qE (amR _ _ _ _) (aia _ _) h
def an6 (p0:(Int×(Int×Unit))) (p1:(Int×(Int×Unit))):Tre Bool:=
 .cond (!decide (p0.1=p1.1))
  (.ret false)
  (.cond (!decide (p0.2.1=p1.2.1))
   (.ret false)
   (.ret true))
def arX (p0:(Int×(Int×Unit))) (p1:(Int×(Int×Unit))):Option Bool:=(an6 p0 p1).run some
def EJ(p0 p1:(Int×(Int×Unit))):Bool:=
 cond (!decide (p0.1=p1.1))
  (false)
  (cond (!decide (p0.2.1=p1.2.1))
   (false)
   (true))
theorem akK(p0 p1:(Int×(Int×Unit))):arX p0 p1=some (EJ p0 p1):=(xE rfl (xE rfl rfl))
def agP:Env:=⟨tau,[],[]⟩
def arZ:FnI:=fnI Tryz.f36 []
def Y4 (_:(Int×(Int×Unit))) (_:(Int×(Int×Unit))):Bool→au:=fun r=>⟨(.imm true .bool r),[],[]⟩
theorem apg:∀(p0 p1:(Int×(Int×Unit))),bJ agP arZ ⟨[(.imm true aL p0),(.imm true aL p1)],[]⟩=(an6 p0 p1).run fun r=>some (Y4 p0 p1 r):=fun _ _=>by kernel_rfl
def arY (av:List AV) (rs:List Root):Tre au:=
 aC av fun a0_ av0=>
 aC av0 fun a1_ av1=>
 aM av1<|
 aM rs<|
 ay true aL a0_ fun d1=>
 ay true aL a1_ fun d2=>
 .ret (Y4 d1 d2 (EJ d1 d2))
def agQ:Ctr:=dD [] arY
theorem aph:Contract Tryz.prog .none 36 agQ:=aD (V:=agP) aW aH Tryz.func36 bI fun _ _ _=>aK fun _ _=>aK fun _ _=>bf<|bf<|aJ fun _=>aJ fun _=>fun h=>by intros;subst_vars;exact tC (apg _ _) (akK _ _) h
def Na (p0:aG) (p1:aG):Tre Bool:=
 .cond (!(EJ p0.1 p1.1))
  (.ret false)
  (.mat (eqS p0.2.1 p1.2.1) fun r1=>
  .cond (!r1)
   (.ret false)
   (.cond (!decide (p0.2.2.1=p1.2.2.1))
    (.ret false)
    (.ret true)))
def xV (p0:aG) (p1:aG):Option Bool:=(Na p0 p1).run some
def Sk:Env:=⟨tau,[(36,agQ),(12,Hr)],[]⟩
def ah9:FnI:=fnI Tryz.f13 []
def Lu (_:Bool) (_:Bool) (_:aG) (_:aG):Bool→au:=fun r=>⟨(.imm true .bool r),[],[]⟩
theorem afc:∀(zp0 zp1:Bool)(p0 p1:aG),bJ Sk ah9 ⟨[(.imm zp0 aX p0),(.imm zp1 aX p1)],[]⟩=(Na p0 p1).run fun r=>some (Lu zp0 zp1 p0 p1 r):=fun _ _ _ _=>by kernel_rfl
def ah8 (av:List AV) (rs:List Root):Tre au:=
 aC av fun a0_ av0=>
 aC av0 fun a1_ av1=>
 aM av1<|
 aM rs<|
 aZ aX a0_ fun z2 d1=>
 aZ aX a1_ fun z4 d3=>
 .mat (xV d1 d3) fun r=>.ret (Lu z2 z4 d1 d3 r)
def Sl:Ctr:=dD [] ah8
theorem afd:Contract Tryz.prog .none 13 Sl:=aD (V:=Sk) aW (ak aph aEv (ak Nb ay5 aH)) Tryz.func13 bI fun _ _ _=>aK fun _ _=>aK fun _ _=>bf<|bf<|bY fun _ _=>bY fun _ _=>fun h=>by intros;subst_vars;exact bn (afc _ _ _ _) h
def aaD (p0:bB) (p1:bB):Tre Bool:=
 .cond (!decide (p0.1=p1.1))
  (.ret false)
  (.mat (eqS p0.2.1 p1.2.1) fun r1=>
  .cond (!r1)
   (.ret false)
   (.ret true))
def Ht (p0:bB) (p1:bB):Option Bool:=(aaD p0 p1).run some
def acC:Env:=⟨tau,[(12,Hr)],[]⟩
def apm:FnI:=fnI Tryz.f23 []
def VD (_:Bool) (_:Bool) (_:bB) (_:bB):Bool→au:=fun r=>⟨(.imm true .bool r),[],[]⟩
theorem amS:∀(zp0 zp1:Bool)(p0 p1:bB),bJ acC apm ⟨[(.imm zp0 bZ p0),(.imm zp1 bZ p1)],[]⟩=(aaD p0 p1).run fun r=>some (VD zp0 zp1 p0 p1 r):=fun _ _ _ _=>by kernel_rfl
def apl (av:List AV) (rs:List Root):Tre au:=
 aC av fun a0_ av0=>
 aC av0 fun a1_ av1=>
 aM av1<|
 aM rs<|
 aZ bZ a0_ fun z2 d1=>
 aZ bZ a1_ fun z4 d3=>
 .mat (Ht d1 d3) fun r=>.ret (VD z2 z4 d1 d3 r)
def acD:Ctr:=dD [] apl
theorem amT:Contract Tryz.prog .none 23 acD:=aD (V:=acC) aW (ak Nb ay5 aH) Tryz.func23 bI fun _ _ _=>aK fun _ _=>aK fun _ _=>bf<|bf<|bY fun _ _=>bY fun _ _=>fun h=>by intros;subst_vars;exact bn (amS _ _ _ _) h
def gy:(Int×Int×aG)→Tre ((Int×Int×aG) ⊕ (Int×aG)):=fun s2=>
 .cond (decide (s2.2.1<(s2.2.2.2.1.length:Int)))
  (.ite (0≤s2.2.1∧s2.2.1<(s2.2.2.2.1.length:Int))<|
  .mat (s2.2.2.2.1[s2.2.1.toNat]?) fun _=>
  let v2:=s2.2.2.2.1.set s2.2.1.toNat s2.1
  .ret (.inl (aI .i64 (s2.1+1),aI .i64 (s2.2.1+1),(s2.2.2.1,(v2,s2.2.2.2.2)))))
  (.ret (.inr (s2.1,s2.2.2)))
def AP (p0:Int) (p1:aG):Tre (Int×aG):=
 .mat (aO gy (p0,0,p1)) fun l3=>
 .ret (l3.1,l3.2)
def o8 (p0:Int) (p1:aG):Option (Int×aG):=(AP p0 p1).run some
def o9:Env:=⟨tau,[],[]⟩
def Gq:Code:=(Tryz.f15.body).getD .skip
def zw:(Int×Int×aG)→St:=fun x=>bP [(0,(.ref (0,0) [.snd,.fst])),(1,(.i x.1)),(5,(.i x.2.1))] [((0,0),some ⟨true,aX,.own,x.2.2⟩)]
def xB:(Int×aG)→Ex×St:=fun x=>(.exit 0,bP [(1,(.i x.1))] [((0,0),some ⟨true,aX,.own,x.2⟩)])
def QV (s:St):Tre (Ex×St):=
 dI (0,0) [.snd,.fst] (s.tmps 0)<|
 ay true .n (s.tmps 1) fun d3=>
 ay true .n (s.tmps 5) fun d5=>
 bg true aX (s.roots (0,0)) fun m7 d8=>
 asM .own m7<|
 .mat (aO gy (d3,d5,d8)) fun x=>.ret (xB x)
def lX:bq:=⟨([0,1,5],[(0,0)]),([1],[(0,0)]),QV⟩
def wP:List (Nat×bq):=[(2,lX)]
theorem KA:∀(x:(Int×Int×aG))(c:St→Option (Ex×St)),den o9 wP (aT Gq 0) (zw x) (bR lX.kp lX.kx c)=(gy x).run (bS (zw) (xB) c):=fun _ _=>by
 kernel_rfl
theorem OJ:bQ o9 wP (aT Gq 0) lX:=bX fun _ _ _=>fI<|aJ fun _=>aJ fun _=>bV fun _ _=>tM<|fun h _ e6 e4 e2 e1=>bO KA h (by subst_vars;exact aP rfl rfl ⟨e1,e2,e4,trivial⟩ ⟨e6,trivial⟩)
def Ym:FnI:=fnI Tryz.f15 wP
def Ce (_:Int) (_:aG):(Int×aG)→au:=fun r=>⟨(.i r.1),[⟨true,aX,.own,r.2⟩],[]⟩
theorem VN:∀(p0:Int)(p1:aG),bJ o9 Ym ⟨[(.ref (0,0) [.snd,.fst]),(.i p0)],[⟨true,aX,.own,p1⟩]⟩=(AP p0 p1).run fun r=>some (Ce p0 p1 r):=fun _ _=>by kernel_rfl
def Yl (av:List AV) (rs:List Root):Tre au:=
 aC av fun a0_ av0=>
 aC av0 fun a1_ av1=>
 aM av1<|
 aC rs fun r0_ rs0=>
 aM rs0<|
 dI (0,0) [.snd,.fst] a0_<|
 ay true .n a1_ fun d1=>
 wV true aX r0_ fun m2 d3=>
 asM .own m2<|
 .mat (o8 d1 d3) fun r=>.ret (Ce d1 d3 r)
def Gr:Ctr:=dD [0] Yl
theorem VO:Contract Tryz.prog .none 15 Gr:=aD (V:=o9) aW aH Tryz.func15 (bF (n:=1) fun k hk=>by
 match k,hk with
 |0,_=>exact bH (id:=2) OJ) fun _ _ _=>aK fun _ _=>aK fun _ _=>bf<|aK fun _ _=>bf<|fI<|aJ fun _=>tRt fun _ _=>tM<|fun h=>by intros;subst_vars;exact bn (VN _ _) h
def uR (_:(Int×(Int×Unit))) (_:(Int×Unit)) (p2:Int) (p3:aG):Tre (Int×aG):=
 .mat (o8 p2 p3) fun r1=>
 .ret (r1.1,r1.2)
def lU (p0:(Int×(Int×Unit))) (p1:(Int×Unit)) (p2:Int) (p3:aG):Option (Int×aG):=(uR p0 p1 p2 p3).run some
-- more
theorem arn{α β γ:Type}(g:Nat→γ→α→γ)(fin:γ→β):∀(l:List α)(i:Nat)(acc:γ),∃a,qp (fun i acc x=>(.inl (g i acc x):γ ⊕ β)) fin i acc l=fin a:=by
 intro l
 induction l with
 |nil=>intro i acc;exact ⟨acc,rfl⟩
 |cons x l ih=>intro i acc;exact ih (i+1) _
theorem azj(g:(Int×Int×Unit)×List Int×Int×Unit)(hl:g.2.1.length≤1048576):∃g',lU g.1 g.2.2 1 g=some (1+(g.2.1.length:Int),g'):=by
 obtain ⟨f,xs,k,u⟩:=g
 have:=kN (xs:=xs) (step:=gy) (fun i acc=>(1+(i:Int),(i:Int),(f,acc,k,u))) (fun i acc _=>.inl (acc.set i (1+(i:Int)))) (fun acc=>(1+(xs.length:Int),(f,acc,k,u))) (fun i acc=>acc.length=xs.length) (by
  intro i acc x hx hI
  have hi:i<xs.length:=(List.getElem?_eq_some_iff.1 hx).1
  dsimp only at hl
  refine ⟨?_,fun a ha=>by cases ha;simpa using hI⟩
  unfold gy
  dsimp only
  rw [dX (List.getElem?_eq_getElem (by omega:i<acc.length))]
  rw [Tre.aF,aR (by omega),dP (by omega) (by omega),Int.toNat_natCast]
  simp only [Int.natCast_add,Int.natCast_one,Int.add_assoc])
  (by
  intro acc hI
  unfold gy
  dsimp only
  rw [←show acc.length=xs.length from hI]
  exact dF) xs 0 xs rfl (Nat.zero_le _) rfl
 obtain ⟨a,ha⟩:=arn (fun i (acc:List Int) (_:Int)=>acc.set i (1+(i:Int))) (fun acc=>((1+(xs.length:Int),(f,acc,k,u)):Int×((Int×Int×Unit)×List Int×Int×Unit))) xs 0 xs
 rw [ha] at this
 refine ⟨(f,a,k,u),?_⟩
 unfold lU uR
 rw [ah (show o8 1 (f,xs,k,u)=some (1+(xs.length:Int),(f,a,k,u)) from by
  unfold o8 AP
  have h1:aO gy (1,0,(f,xs,k,u))=some (1+(xs.length:Int),(f,a,k,u)):=by simpa using this
  rw [ah h1,Tre.aF])]
 rfl
def AB:Env:=⟨tau,[(15,Gr)],[]⟩
def QO:FnI:=fnI Tryz.f14 []
def xu (_:(Int×(Int×Unit))) (_:(Int×Unit)) (_:Int) (_:aG):(Int×aG)→au:=fun r=>⟨(.i r.1),[⟨true,aX,.own,r.2⟩],[]⟩
theorem OE:∀(p0:(Int×(Int×Unit)))(p1:(Int×Unit))(p2:Int)(p3:aG),bJ AB QO ⟨[(.pair (.imm true aL p0) (.pair (.ref (0,0) [.snd,.fst]) (.imm true (.pair .n .unit) p1))),(.i p2)],[⟨true,aX,.own,p3⟩]⟩=(uR p0 p1 p2 p3).run fun r=>some (xu p0 p1 p2 p3 r):=fun _ _ _ _=>by kernel_rfl
def QN (av:List AV) (rs:List Root):Tre au:=
 aC av fun a0_ av0=>
 aC av0 fun a1_ av1=>
 aM av1<|
 aC rs fun r0_ rs0=>
 aM rs0<|
 ZJ a0_ fun a1 a2=>
 ay true aL a1 fun d3=>
 ZJ a2 fun a4 a5=>
 dI (0,0) [.snd,.fst] a4<|
 ay true (.pair .n .unit) a5 fun d6=>
 ay true .n a1_ fun d7=>
 wV true aX r0_ fun m8 d9=>
 asM .own m8<|
 .mat (lU d3 d6 d7 d9) fun r=>.ret (xu d3 d6 d7 d9 r)
def AJ:Ctr:=dD [0] QN
theorem OG:Contract Tryz.prog .none 14 AJ:=aD (V:=AB) aW (ak VO ay8 aH) Tryz.func14 bI fun _ _ _=>aK fun _ _=>aK fun _ _=>bf<|aK fun _ _=>bf<|awM fun _ _=>aJ fun _=>awM fun _ _=>fI<|aJ fun _=>aJ fun _=>tRt fun _ _=>tM<|fun h=>by intros;subst_vars;exact bn (OE _ _ _ _) h
def gu:(Int×Int×(List Int))→Tre ((Int×Int×(List Int)) ⊕ (Int×(List Int))):=fun s2=>
 .cond (decide (s2.2.1<(s2.2.2.length:Int)))
  (.ite (0≤s2.2.1∧s2.2.1<(s2.2.2.length:Int))<|
  .mat (s2.2.2[s2.2.1.toNat]?) fun _=>
  let v2:=s2.2.2.set s2.2.1.toNat s2.1
  .ret (.inl (aI .i64 (s2.1+1),aI .i64 (s2.2.1+1),v2)))
  (.ret (.inr (s2.1,s2.2.2)))
def AO (p0:Int) (p1:List Int):Tre (Int×(List Int)):=
 .mat (aO gu (p0,0,p1)) fun l3=>
 .ret (l3.1,l3.2)
def Gm (p0:Int) (p1:List Int):Option (Int×(List Int)):=(AO p0 p1).run some
def an9(k:Int)(xs:List Int):Option (Int×List Int):=ajx (inR k 0 4194304&&decide (xs.length≤1048576)) (k+(xs.length:Int),marks k xs.length)
theorem QU(p0:Int)(p1:List Int)(y:Int×List Int)(h:an9 p0 p1=some y):Gm p0 p1=some y:=by
 obtain ⟨hok,rfl⟩:=rY h
 simp only [Bool.and_eq_true,decide_eq_true_eq,gV] at hok
 obtain ⟨hk,hl⟩:=hok
 unfold Gm AO
 have:=kN (xs:=p1) (step:=gu) (fun i acc=>(p0+(i:Int),(i:Int),acc)) (fun i acc _=>.inl (acc.set i (p0+(i:Int)))) (fun acc=>(p0+(p1.length:Int),acc)) (fun i acc=>acc.length=p1.length) (by
  intro i acc x hx hI
  have hi:i<p1.length:=(List.getElem?_eq_some_iff.1 hx).1
  refine ⟨?_,fun a ha=>by cases ha;simpa using hI⟩
  unfold gu
  rw [dX (List.getElem?_eq_getElem (by omega:i<acc.length))]
  dsimp only
  rw [Tre.aF,aR (by omega),dP (by omega) (by omega),Int.toNat_natCast]
  simp only [Int.natCast_add,Int.natCast_one,Int.add_assoc])
  (by
  intro acc hI
  unfold gu
  rw [←show acc.length=p1.length from hI]
  exact dF) p1 0 p1 rfl (Nat.zero_le _) rfl
 rw [aro _ _ _ _ _ (by simp)] at this
 have h1:aO gu (p0,0,p1)=some (p0+(p1.length:Int),marks p0 p1.length):=by
  simpa [marks] using this
 rw [ah h1]
 rfl
def o7:Env:=⟨tau,[],[]⟩
def Gn:Code:=(Tryz.f15.body).getD .skip
def zu:(Int×Int×(List Int))→St:=fun x=>bP [(0,(.ref (0,0) [])),(1,(.i x.1)),(5,(.i x.2.1))] [((0,0),some ⟨false,.il,.own,x.2.2⟩)]
def xA:(Int×(List Int))→Ex×St:=fun x=>(.exit 0,bP [(1,(.i x.1))] [((0,0),some ⟨false,.il,.own,x.2⟩)])
def QT (s:St):Tre (Ex×St):=
 dI (0,0) [] (s.tmps 0)<|
 ay true .n (s.tmps 1) fun d3=>
 ay true .n (s.tmps 5) fun d5=>
 bg false .il (s.roots (0,0)) fun m7 d8=>
 asM .own m7<|
 .mat (aO gu (d3,d5,d8)) fun x=>.ret (xA x)
def lW:bq:=⟨([0,1,5],[(0,0)]),([1],[(0,0)]),QT⟩
def wO:List (Nat×bq):=[(2,lW)]
theorem Kz:∀(x:(Int×Int×(List Int)))(c:St→Option (Ex×St)),den o7 wO (aT Gn 0) (zu x) (bR lW.kp lW.kx c)=(gu x).run (bS (zu) (xA) c):=fun _ _=>by
 kernel_rfl
theorem OI:bQ o7 wO (aT Gn 0) lW:=bX fun _ _ _=>fI<|aJ fun _=>aJ fun _=>bV fun _ _=>tM<|fun h _ e6 e4 e2 e1=>bO Kz h (by subst_vars;exact aP rfl rfl ⟨e1,e2,e4,trivial⟩ ⟨e6,trivial⟩)
def Yk:FnI:=fnI Tryz.f15 wO
def Cb (_:Int) (_:List Int):(Int×(List Int))→au:=fun r=>⟨(.i r.1),[⟨false,.il,.own,r.2⟩],[]⟩
theorem VK:∀(p0:Int)(p1:List Int),bJ o7 Yk ⟨[(.ref (0,0) []),(.i p0)],[⟨false,.il,.own,p1⟩]⟩=(AO p0 p1).run fun r=>some (Cb p0 p1 r):=fun _ _=>by kernel_rfl
def Yj (av:List AV) (rs:List Root):Tre au:=
 aC av fun a0_ av0=>
 aC av0 fun a1_ av1=>
 aM av1<|
 aC rs fun r0_ rs0=>
 aM rs0<|
 dI (0,0) [] a0_<|
 ay true .n a1_ fun d1=>
 wV false .il r0_ fun m2 d3=>
 asM .own m2<|
 .mat (an9 d1 d3) fun r=>.ret (Cb d1 d3 r)
def Gp:Ctr:=dD [0] Yj
theorem VL:Contract Tryz.prog .none 15 Gp:=aD (V:=o7) aW aH Tryz.func15 (bF (n:=1) fun k hk=>by
 match k,hk with
 |0,_=>exact bH (id:=2) OI) fun _ _ _=>aK fun _ _=>aK fun _ _=>bf<|aK fun _ _=>bf<|fI<|aJ fun _=>tRt fun _ _=>tM<|fun h=>by intros;subst_vars;exact qE (VK _ _) (QU _ _) h
def gq:(Int×Int×bB)→Tre ((Int×Int×bB) ⊕ (Int×bB)):=fun s2=>
 .cond (decide (s2.2.1<(s2.2.2.2.1.length:Int)))
  (.ite (0≤s2.2.1∧s2.2.1<(s2.2.2.2.1.length:Int))<|
  .mat (s2.2.2.2.1[s2.2.1.toNat]?) fun _=>
  let v2:=s2.2.2.2.1.set s2.2.1.toNat s2.1
  .ret (.inl (aI .i64 (s2.1+1),aI .i64 (s2.2.1+1),(s2.2.2.1,(v2,s2.2.2.2.2)))))
  (.ret (.inr (s2.1,s2.2.2)))
def AL (p0:Int) (p1:bB):Tre (Int×bB):=
 .mat (aO gq (p0,0,p1)) fun l3=>
 .ret (l3.1,l3.2)
def oW (p0:Int) (p1:bB):Option (Int×bB):=(AL p0 p1).run some
def oZ:Env:=⟨tau,[],[]⟩
def Gj:Code:=(Tryz.f15.body).getD .skip
def zq:(Int×Int×bB)→St:=fun x=>bP [(0,(.ref (0,0) [.snd,.fst])),(1,(.i x.1)),(5,(.i x.2.1))] [((0,0),some ⟨true,bZ,.own,x.2.2⟩)]
def xw:(Int×bB)→Ex×St:=fun x=>(.exit 0,bP [(1,(.i x.1))] [((0,0),some ⟨true,bZ,.own,x.2⟩)])
def QS (s:St):Tre (Ex×St):=
 dI (0,0) [.snd,.fst] (s.tmps 0)<|
 ay true .n (s.tmps 1) fun d3=>
 ay true .n (s.tmps 5) fun d5=>
 bg true bZ (s.roots (0,0)) fun m7 d8=>
 asM .own m7<|
 .mat (aO gq (d3,d5,d8)) fun x=>.ret (xw x)
def lV:bq:=⟨([0,1,5],[(0,0)]),([1],[(0,0)]),QS⟩
def wN:List (Nat×bq):=[(2,lV)]
theorem Ky:∀(x:(Int×Int×bB))(c:St→Option (Ex×St)),den oZ wN (aT Gj 0) (zq x) (bR lV.kp lV.kx c)=(gq x).run (bS (zq) (xw) c):=fun _ _=>by
 kernel_rfl
theorem OH:bQ oZ wN (aT Gj 0) lV:=bX fun _ _ _=>fI<|aJ fun _=>aJ fun _=>bV fun _ _=>tM<|fun h _ e6 e4 e2 e1=>bO Ky h (by subst_vars;exact aP rfl rfl ⟨e1,e2,e4,trivial⟩ ⟨e6,trivial⟩)
def Yi:FnI:=fnI Tryz.f15 wN
def Ca (_:Int) (_:bB):(Int×bB)→au:=fun r=>⟨(.i r.1),[⟨true,bZ,.own,r.2⟩],[]⟩
theorem VI:∀(p0:Int)(p1:bB),bJ oZ Yi ⟨[(.ref (0,0) [.snd,.fst]),(.i p0)],[⟨true,bZ,.own,p1⟩]⟩=(AL p0 p1).run fun r=>some (Ca p0 p1 r):=fun _ _=>by kernel_rfl
def Yh (av:List AV) (rs:List Root):Tre au:=
 aC av fun a0_ av0=>
 aC av0 fun a1_ av1=>
 aM av1<|
 aC rs fun r0_ rs0=>
 aM rs0<|
 dI (0,0) [.snd,.fst] a0_<|
 ay true .n a1_ fun d1=>
 wV true bZ r0_ fun m2 d3=>
 asM .own m2<|
 .mat (oW d1 d3) fun r=>.ret (Ca d1 d3 r)
def Gl:Ctr:=dD [0] Yh
theorem VJ:Contract Tryz.prog .none 15 Gl:=aD (V:=oZ) aW aH Tryz.func15 (bF (n:=1) fun k hk=>by
 match k,hk with
 |0,_=>exact bH (id:=2) OH) fun _ _ _=>aK fun _ _=>aK fun _ _=>bf<|aK fun _ _=>bf<|fI<|aJ fun _=>tRt fun _ _=>tM<|fun h=>by intros;subst_vars;exact bn (VI _ _) h
def AQ (_:Int) (p1:Int) (p2:bB):Tre (Int×bB):=
 .mat (oW p1 p2) fun r1=>
 .ret (r1.1,r1.2)
def pq (p0:Int) (p1:Int) (p2:bB):Option (Int×bB):=(AQ p0 p1 p2).run some
-- more
theorem azJ(m:Int×List Int×Unit)(p0 k:Int)(hl:m.2.1.length≤1048576)(hk0:0≤k)(hk:k≤8388608):∃m',pq p0 k m=some (k+(m.2.1.length:Int),m'):=by
 obtain ⟨c,xs,u⟩:=m
 dsimp only at hl
 have:=kN (xs:=xs) (step:=gq) (fun i acc=>(k+(i:Int),(i:Int),(c,acc,u))) (fun i acc _=>.inl (acc.set i (k+(i:Int)))) (fun acc=>(k+(xs.length:Int),(c,acc,u))) (fun i acc=>acc.length=xs.length) (by
  intro i acc x hx hI
  have hi:i<xs.length:=(List.getElem?_eq_some_iff.1 hx).1
  refine ⟨?_,fun a ha=>by cases ha;simpa using hI⟩
  unfold gq
  dsimp only
  rw [dX (List.getElem?_eq_getElem (by omega:i<acc.length))]
  rw [Tre.aF,aR (by omega),dP (by omega) (by omega),Int.toNat_natCast]
  simp only [Int.natCast_add,Int.natCast_one,Int.add_assoc])
  (by
  intro acc hI
  unfold gq
  dsimp only
  rw [←show acc.length=xs.length from hI]
  exact dF) xs 0 xs rfl (Nat.zero_le _) rfl
 obtain ⟨a,ha⟩:=arn (fun i (acc:List Int) (_:Int)=>acc.set i (k+(i:Int))) (fun acc=>((k+(xs.length:Int),(c,acc,u)):Int×(Int×List Int×Unit))) xs 0 xs
 rw [ha] at this
 refine ⟨(c,a,u),?_⟩
 unfold pq AQ
 rw [ah (show oW k (c,xs,u)=some (k+(xs.length:Int),(c,a,u)) from by
  unfold oW AL
  have h1:aO gq (k,0,(c,xs,u))=some (k+(xs.length:Int),(c,a,u)):=by simpa using this
  rw [ah h1,Tre.aF])]
 rfl
def Gs:Env:=⟨tau,[(15,Gl)],[]⟩
def Yo:FnI:=fnI Tryz.f24 []
def Cg (_:Int) (_:Int) (_:bB):(Int×bB)→au:=fun r=>⟨(.i r.1),[⟨true,bZ,.own,r.2⟩],[]⟩
theorem VP:∀(p0 p1:Int)(p2:bB),bJ Gs Yo ⟨[(.pair (.i p0) (.pair (.ref (0,0) [.snd,.fst]) (.imm true .unit ()))),(.i p1)],[⟨true,bZ,.own,p2⟩]⟩=(AQ p0 p1 p2).run fun r=>some (Cg p0 p1 p2 r):=fun _ _ _=>by kernel_rfl
def Yn (av:List AV) (rs:List Root):Tre au:=
 aC av fun a0_ av0=>
 aC av0 fun a1_ av1=>
 aM av1<|
 aC rs fun r0_ rs0=>
 aM rs0<|
 ZJ a0_ fun a1 a2=>
 ay true .n a1 fun d3=>
 ZJ a2 fun a4 a5=>
 dI (0,0) [.snd,.fst] a4<|
 ay true .unit a5 fun _=>
 ay true .n a1_ fun d7=>
 wV true bZ r0_ fun m8 d9=>
 asM .own m8<|
 .mat (pq d3 d7 d9) fun r=>.ret (Cg d3 d7 d9 r)
def Gt:Ctr:=dD [0] Yn
theorem VQ:Contract Tryz.prog .none 24 Gt:=aD (V:=Gs) aW (ak VJ ay8 aH) Tryz.func24 bI fun _ _ _=>aK fun _ _=>aK fun _ _=>bf<|aK fun _ _=>bf<|awM fun _ _=>aJ fun _=>awM fun _ _=>fI<|aJ fun _=>aJ fun _=>tRt fun _ _=>tM<|fun h=>by intros;subst_vars;exact bn (VP _ _ _) h
def jy (aU:List Int):(Int×Int)→Tre ((Int×Int) ⊕ ((Int×Int) ⊕ Int)):=fun s2=>
 .cond (decide (s2.2<(aU.length:Int)))
  (.ite (0≤s2.2∧s2.2<(aU.length:Int))<|
  .mat (aU[s2.2.toNat]?) fun x1=>
  .cond (!decide (x1=s2.1))
   (.ret (.inr (.inl (s2.1,-1))))
   (.ret (.inl (aI .i64 (s2.1+1),aI .i64 (s2.2+1)))))
  (.ret (.inr (.inr s2.1)))
def QM (p0:List Int) (p1:Int):Tre Int:=
 .mat (aO (jy p0) (p1,0)) fun l2=>
 .alt l2
  (fun a3=>
   .ret a3.2)
  (fun b4=>
   .ret b4)
def VE (p0:List Int) (p1:Int):Option Int:=(QM p0 p1).run some
def aj1(xs:List Int)(k:Int):Option Int:=if (inR k 0 1048576&&decide (xs.length≤1048576))=true∧xs=marks k xs.length then some (k+(xs.length:Int)) else none
theorem acE(p0:List Int)(p1 y:Int)(h:aj1 p0 p1=some y):VE p0 p1=some y:=by
 unfold aj1 at h
 split at h
 case isFalse=>cases h
 case isTrue hh=>
 obtain ⟨hok,hm⟩:=hh
 cases h
 simp only [Bool.and_eq_true,decide_eq_true_eq,gV] at hok
 obtain ⟨hk,hl⟩:=hok
 unfold VE QM
 have:=auq (xs:=p0) (step:=jy p0) (γ:=Unit) (fun i _=>(p1+(i:Int),(i:Int))) (fun _ _ _=>.inl ()) (fun _=>.inr (p1+(p0.length:Int))) (by
  intro i acc x hx
  have hi:i<p0.length:=(List.getElem?_eq_some_iff.1 hx).1
  have hxv:x=p1+(i:Int):=by
   rw [hm] at hx
   unfold marks at hx
   simp only [List.getElem?_map,Option.map_eq_some_iff] at hx
   obtain ⟨a,ha,rfl⟩:=hx
   rw [List.getElem?_range' (by simpa using hi)] at ha
   simp at ha
   rw [ha]
  unfold jy
  rw [dX hx,Tre.aA]
  simp only [hxv,decide_true,Bool.not_true,cond_false]
  rw [Tre.aF,aR (by omega),dP (by omega) (by omega)]
  simp only [Int.natCast_add,Int.natCast_one,Int.add_assoc])
  (by
  intro acc
  unfold jy
  exact dF) ()
 have hf:∀(l:List Int)(i:Nat),qp (β:=(Int×Int) ⊕ Int) (fun (_:Nat) (_:Unit) (_:Int)=>.inl ()) (fun _=>.inr (p1+(p0.length:Int))) i () l=.inr (p1+(p0.length:Int)):=by
  intro l
  induction l with
  |nil=>intro i;rfl
  |cons x l ih=>intro i;exact ih _
 rw [hf] at this
 have h1:aO (jy p0) (p1,0)=some (.inr (p1+(p0.length:Int))):=by simpa using this
 rw [ah h1]
 rfl
def AA:Env:=⟨tau,[],[]⟩
def VF:Code:=(Tryz.f16.body).getD .skip
def yN (eH:Bool) (aU:List Int):(Int×Int)→St:=fun x=>bP [(0,(.imm eH .il aU)),(1,(.i x.1)),(5,(.i x.2))] []
def oV (_:Bool) (_:List Int):((Int×Int) ⊕ Int)→Ex×St
 |.inl x=>(.ret,bP [(1,(.i x.1)),(4,(.i x.2))] [])
 |.inr x=>(.exit 0,bP [(1,(.i x)),(4,.dead)] [])
def Lv (s:St):Tre (Ex×St):=
 aZ .il (s.tmps 0) fun z3 d2=>
 ay true .n (s.tmps 1) fun d5=>
 ay true .n (s.tmps 5) fun d7=>
 .mat (aO (jy d2) (d5,d7)) fun x=>.alt x (fun a0=>.ret (oV z3 d2 (.inl a0))) (fun b0=>.ret (oV z3 d2 (.inr b0)))
def nU:bq:=⟨([0,1,5],[]),([1,4],[]),Lv⟩
def Js:List (Nat×bq):=[(2,nU)]
theorem VH:∀(eH:Bool)(aU:List Int)(x:(Int×Int))(c:St→Option (Ex×St)),den AA Js (aT VF 0) (yN eH aU x) (bR nU.kp nU.kx c)=(jy aU x).run (bS (yN eH aU) (oV eH aU) c):=fun _ _ _ _=>by
 kernel_rfl
theorem aaE:bQ AA Js (aT VF 0) nU:=fK fun s e s' h=>by
 generalize hs:restrict nU.kp s=s1 at h
 have h:(Lv s1).run some=some (e,s'):=h
 obtain ⟨z3,d2,e1,h_0⟩:=fA h
 obtain ⟨d5,e4,h_1⟩:=cu h_0
 obtain ⟨d7,e6,h_2⟩:=cu h_1
 obtain ⟨y,hy,hz⟩:=gN h_2
 refine ⟨_,_,yN z3 d2,oV z3 d2,jy d2,(d5,d7),y,?_,hy,?_,VH z3 d2⟩
 ·subst hs;exact aP (T:=[(0,(.imm z3 .il d2)),(1,(.i d5)),(5,(.i d7))]) (U:=[]) rfl rfl ⟨e1,e4,e6,trivial⟩ trivial
 ·rcases y with x|x<;>exact Option.some.inj hz
def akM:FnI:=fnI Tryz.f16 Js
def OD (_:Bool) (_:List Int) (_:Int):Int→au:=fun r=>⟨(.i r),[],[]⟩
theorem aib:∀(zp0:Bool)(p0:List Int)(p1:Int),bJ AA akM ⟨[(.imm zp0 .il p0),(.i p1)],[]⟩=(QM p0 p1).run fun r=>some (OD zp0 p0 p1 r):=fun _ _ _=>by kernel_rfl
def akL (av:List AV) (rs:List Root):Tre au:=
 aC av fun a0_ av0=>
 aC av0 fun a1_ av1=>
 aM av1<|
 aM rs<|
 aZ .il a0_ fun z2 d1=>
 ay true .n a1_ fun d3=>
 .mat (aj1 d1 d3) fun r=>.ret (OD z2 d1 d3 r)
def VG:Ctr:=dD [] akL
theorem aic:Contract Tryz.prog .none 16 VG:=aD (V:=AA) aW aH Tryz.func16 (bF (n:=1) fun k hk=>by
 match k,hk with
 |0,_=>exact bH (id:=2) aaE) fun _ _ _=>aK fun _ _=>aK fun _ _=>bf<|bf<|bY fun _ _=>aJ fun _=>fun h=>by intros;subst_vars;exact qE (aib _ _ _) (acE _ _) h
def sV (p0:aG) (p1:List Int) (p2:bB):Tre Bool:=
 .cond (decide ((p1.length:Int)>1048576))
  (.ret true)
  (let v1:=jA p0 1048576
  .cond (decide (v1<0))
   (.ret true)
   (.cond (decide ((AU p2 v1)<0))
    (.ret true)
    (.mat (lH p0) fun r2=>
    .mat (fT p1) fun r3=>
    .mat (qQ p2) fun r4=>
    .mat (tX (r2.1,(r2.2.2,r2.2.1)) r3 (r4.1,(r4.2,()))) fun r5=>
    .mat (lH p0) fun r6=>
    .mat (fT p1) fun r7=>
    .mat (qQ p2) fun r8=>
    .mat (pJ (r6.1,(r6.2.2,r6.2.1)) r7 (r8.1,(r8.2,()))) fun r9=>
    .mat (eqS r9.2 r5.1) fun r10=>
    .cond (!r10)
     (.ret false)
     (.cond (!decide (r9.1=r5.2))
      (.ret false)
      (.mat (lH p0) fun r11=>
      .mat (xV (r6.1,(r6.2.2,r6.2.1)) (r11.1,(r11.2.2,r11.2.1))) fun r12=>
      .cond (!r12)
       (.ret false)
       (.mat (fT p1) fun r13=>
       .mat (eqS r7 r13) fun r14=>
       .cond (!r14)
        (.ret false)
        (.mat (qQ p2) fun r15=>
        .mat (Ht (r8.1,(r8.2,())) (r15.1,(r15.2,()))) fun r16=>
        .cond (!r16)
         (.ret false)
         (.mat (lU r6.1 r6.2.1 1 (r6.1,(r6.2.2,r6.2.1))) fun r17=>
         .mat (an9 r17.1 r7) fun r18=>
         .mat (pq r8.1 r18.1 (r8.1,(r8.2,()))) fun r19=>
         .cond (decide (r19.1<0))
          (.ret false)
          (.mat (eqS r9.2 r5.1) fun r20=>
          .cond (!r20)
           (.ret false)
           (.cond (!decide (r9.1=r5.2))
            (.ret false)
            (.mat (an9 1 r9.2) fun r21=>
            .mat (aj1 r21.2 1) fun r22=>
            .cond (decide (r22<0))
             (.ret false)
             (.cond (!decide (r22=r21.1))
              (.ret false)
              (.mat (lH p0) fun r23=>
              .mat (fT p1) fun r24=>
              .mat (qQ p2) fun r25=>
              .mat (pJ (r23.1,(r23.2.2,r23.2.1)) r24 (r25.1,(r25.2,()))) fun r26=>
              .mat (eqS r26.2 r5.1) fun r27=>
              .cond (!r27)
               (.ret false)
               (.cond (!decide (r26.1=r5.2))
                (.ret false)
                (.mat (aj1 r21.2 1) fun r28=>
                .cond (decide (r28<0))
                 (.ret false)
                 (.cond (!decide (r28=r21.1))
                  (.ret false)
                  (.ret true)))))))))))))))))
def pX (p0:aG) (p1:List Int) (p2:bB):Option Bool:=(sV p0 p1 p2).run some
-- law
theorem Kw(p0:TF3×List Int×Int×Unit)(p1:List Int)(p2:Int×List Int×Unit)(_h0:aX.wf p0)(_h1:(K.sl (.int .i64)).wf p1)(_h2:bZ.wf p2):pX p0 p1 p2=some true:=by
 unfold pX sV
 rw [Tre.aA]
 by_cases hv:p1.length≤1048576
 case neg=>rw [decide_eq_true (by omega)];rfl
 rw [decide_eq_false (by omega),cond_false]
 dsimp only
 rw [Tre.aA]
 by_cases h:jA p0 1048576<0
 ·rw [decide_eq_true h];rfl
 have hz:¬fq p0.2.1 1048576<0:=fun hn=>h (by unfold jA;rw [decide_eq_true hn,cond_true];decide)
 have hs:p0.2.1.length≤1048576:=akO _h0.2.1.1 hz
 have hg:jA p0 1048576=1048576-(p0.2.1.length:Int):=by
  have e:jA p0 1048576=fq p0.2.1 1048576:=by unfold jA;rw [decide_eq_false hz,cond_false]
  rw [e]
  unfold fq at hz ⊢
  dsimp only at hz ⊢
  rw [dP (by omega) (by omega)] at hz ⊢
  rw [decide_eq_false (by omega),cond_false]
 rw [decide_eq_false h,cond_false,Tre.aA,hg]
 by_cases h2:AU p2 (1048576-(p0.2.1.length:Int))<0
 ·rw [decide_eq_true h2];rfl
 rw [decide_eq_false h2,cond_false]
 have hu:p2.2.1.length≤1048576:=by
  have hlw:p2.2.1.length≤maxLen:=_h2.2.1.1
  unfold maxLen at hlw
  have hn:¬fq p2.2.1 (1048576-(p0.2.1.length:Int))<0:=fun hn=>h2 (by unfold AU;rw [decide_eq_true hn,cond_true];decide)
  unfold fq at hn
  dsimp only at hn
  rw [dP (by omega) (by omega)] at hn
  by_cases hq:1048576-(p0.2.1.length:Int)-(p2.2.1.length:Int)<0
  ·rw [decide_eq_true hq,cond_true] at hn;omega
  ·omega
 have e1:lH p0=some (p0.1,p0.2.2,p0.2.1):=by
  unfold lH Nc
  rw [ah (show fT p0.2.1=some p0.2.1 from FH hs),Tre.aF]
 have e2:fT p1=some p1:=FH hv
 have e3:qQ p2=some (p2.1,p2.2.1):=by
  unfold qQ aaI
  rw [ah (show fT p2.2.1=some p2.2.1 from FH hu),Tre.aF]
 have hp:(p0.1,p0.2.1,p0.2.2)=p0:=rfl
 have hp2:(p2.1,p2.2.1,())=p2:=rfl
 obtain ⟨y,hs4,hi4,hyl⟩:=axp p0 p1 p2 hv hu
 obtain ⟨yc,yl⟩:=y
 dsimp only at hyl hs4
 have e5:eqS yl yl=some true:=abL (by omega)
 have e7:eqS p1 p1=some true:=abL hv
 have e8:eqS p0.2.1 p0.2.1=some true:=abL hs
 have e9:eqS p2.2.1 p2.2.1=some true:=abL hu
 have e6:xV p0 p0=some true:=by
  unfold xV Na
  have:EJ p0.1 p0.1=true:=by unfold EJ;simp
  rw [this,Tre.aA,Bool.not_true,cond_false,ah e8]
  simp only [Tre.aA,decide_true,Bool.not_true,cond_false]
  rfl
 have e10:Ht p2 p2=some true:=by
  unfold Ht aaD
  rw [Tre.aA,decide_eq_true rfl,Bool.not_true,cond_false,ah e9]
  rfl
 obtain ⟨g',hmk⟩:=azj p0 hs
 obtain ⟨m',hmm⟩:=azJ p2 p2.1 (1+(p0.2.1.length:Int)+(p1.length:Int)) hu (by omega) (by omega)
 have hm:(marks 1 yl.length).length=yl.length:=by simp [marks]
 have m1:an9 (1+(p0.2.1.length:Int)) p1=some (1+(p0.2.1.length:Int)+(p1.length:Int),marks (1+(p0.2.1.length:Int)) p1.length):=jJ (by rw [Bool.and_eq_true,gV,decide_eq_true_eq];omega)
 have m2:an9 1 yl=some (1+(yl.length:Int),marks 1 yl.length):=jJ (by rw [Bool.and_eq_true,gV,decide_eq_true_eq];omega)
 have m3:aj1 (marks 1 yl.length) 1=some (1+(yl.length:Int)):=by
  unfold aj1
  rw [hm,if_pos ⟨by rw [Bool.and_eq_true,gV,decide_eq_true_eq];omega,rfl⟩]
 have c1:decide (1+(p0.2.1.length:Int)+(p1.length:Int)+(p2.2.1.length:Int)<0)=false:=decide_eq_false (by omega)
 have c2:decide (1+(yl.length:Int)<0)=false:=decide_eq_false (by omega)
 rw [ah e1,ah e2,ah e3]
 dsimp only
 rw [hp,hp2,ah hs4,ah e1,ah e2,ah e3]
 dsimp only
 rw [hp,hp2,ah (x:=(yc,yl)) hi4]
 dsimp only
 rw [ah (x:=true) e5]
 simp only [Tre.aA,decide_true,Bool.not_true,cond_false]
 rw [ah e1]
 dsimp only
 rw [hp,ah (x:=true) e6]
 simp only [Tre.aA,Bool.not_true,cond_false]
 rw [ah e2,ah (x:=true) e7]
 simp only [Tre.aA,Bool.not_true,cond_false]
 rw [ah e3]
 dsimp only
 rw [hp2,ah (x:=true) e10]
 simp only [Tre.aA,Bool.not_true,cond_false]
 rw [ah hmk]
 dsimp only
 rw [ah m1]
 dsimp only
 rw [ah hmm]
 simp only [Tre.aA,c1,cond_false]
 rw [ah (x:=true) e5]
 simp only [Tre.aA,Bool.not_true,cond_false]
 rw [ah m2]
 dsimp only
 rw [ah m3]
 simp only [Tre.aA,c2,decide_true,Bool.not_true,cond_false]
 rw [ah e1,ah e2,ah e3]
 dsimp only
 rw [hp,hp2,ah (x:=(yc,yl)) hi4]
 dsimp only
 rw [ah (x:=true) e5]
 simp only [Tre.aA,decide_true,Bool.not_true,cond_false]
 rw [ah m3]
 simp only [Tre.aA,c2,decide_true,Bool.not_true,cond_false]
 rfl
def zo:Env:=⟨tau,[(7,Sq),(19,acH),(9,Sv),(10,Hw),(21,acL),(20,LM),(22,NK),(12,Hr),(13,Sl),(23,acD),(14,AJ),(15,Gp),(24,Gt),(16,VG)],[]⟩
def OB:FnI:=fnI Tryz.f5 []
def wF (_:Bool) (_:Bool) (_:Bool) (_:aG) (_:List Int) (_:bB):Bool→au:=fun r=>⟨(.imm true .bool r),[],[]⟩
theorem M8:∀(zp0 zp1 zp2:Bool)(p0:aG)(p1:List Int)(p2:bB),bJ zo OB ⟨[(.imm zp0 aX p0),(.imm zp1 .il p1),(.imm zp2 bZ p2)],[]⟩=(sV p0 p1 p2).run fun r=>some (wF zp0 zp1 zp2 p0 p1 p2 r):=fun _ _ _ _ _ _=>by kernel_rfl
def OA (av:List AV) (rs:List Root):Tre au:=
 aC av fun a0_ av0=>
 aC av0 fun a1_ av1=>
 aC av1 fun a2_ av2=>
 aM av2<|
 aM rs<|
 aZ aX a0_ fun z2 d1=>
 aZ .il a1_ fun z4 d3=>
 aZ bZ a2_ fun z6 d5=>
 .mat (pX d1 d3 d5) fun r=>.ret (wF z2 z4 z6 d1 d3 d5 r)
def OC:Ctr:=dD [] OA
theorem M9:Contract Tryz.prog .none 5 OC:=aD (V:=zo) aW (ak afg aFm (ak amW aEh (ak afi aFo (ak Nf ay0 (ak amZ aEj (ak aaS aEi (ak abR aEk (ak Nb ay5 (ak afd aEe (ak amT aEl (ak OG aEf (ak VL ay8 (ak VQ aEm (ak aic aEg aH)))))))))))))) Tryz.func5 bI fun _ _ _=>aK fun _ _=>aK fun _ _=>aK fun _ _=>bf<|bf<|bY fun _ _=>bY fun _ _=>bY fun _ _=>fun h=>by intros;subst_vars;exact bn (M8 _ _ _ _ _ _) h
end Go.Proofs.YtihiobjhogpmdaaGreat
