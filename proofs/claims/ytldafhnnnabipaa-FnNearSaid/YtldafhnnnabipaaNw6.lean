/- Part 6 of the proof of FnNear. -/
import Derived.Test.YtldafhnnnabipaaNw5
set_option maxRecDepth 100000
noncomputable section
namespace Go.Proofs.Ytldafhnnnabipaa
open Go Go.Abs Go.Proofs
def nI (dX:List Int) (eu:Int) (iG:List Int):(Int×(List Int))→Tre ((Int×(List Int)) ⊕ (List Int)):=fun s6=>
 .cond (decide (s6.1<eu))
  (.ite (0≤s6.1∧s6.1<(iG.length:Int))<|
  .mat (iG[s6.1.toNat]?) fun x3=>
  .ite (0≤x3∧x3<(dX.length:Int))<|
  .mat (dX[x3.toNat]?) fun x4=>
  .ite ((s6.2.length+1)*8≤bS∧1≤8)<|
  .ret (.inl (aN .i64 (s6.1+1),s6.2++([x4]))))
  (.ret (.inr s6.2))
def OO (p0:au) (p1:List Int):Tre (Int×(List Int)):=
 .mat (iq p0 p1) fun r1=>
 .cond (!decide (r1=0))
  (.ret (r1,[]))
  (.mat (oG p0) fun r2=>
  .mat (aP (nI p1 (r2.length:Int) r2) (0,[])) fun l5=>
  .mat (mY p0 l5) fun r6=>
  .mat (QD r6 p1) fun r7=>
  .cond (!r7)
   (.ret (6,[]))
   (.ret (0,l5)))
def AB (p0:au) (p1:List Int):Option (Int×(List Int)):=(OO p0 p1).run some
-- more
theorem aqi{r:List Int}{q:Nat}(hq:q<1000)(h1:r[q]?=some 1)(h0:∀e,e<q→r[e]?=some 0):ajR r=some (q:Int):=by
 unfold ajR nm5
 rw [ah (show aP (UO r (r.length:Int)) 0=some (.inl (q:Int)) from ?_)]
 ·rfl
 refine eX (fun i=>(i:Int)) q _ (fun i hi=>?_) ?_
 ·unfold UO
  rw [fq (h0 i hi),Tre.aF,decide_eq_true rfl,Bool.not_true,cond_false,Tre.aK,aV (by omega)]
 ·unfold UO
  rw [fq h1,Tre.aF,decide_eq_false (by decide),Bool.not_false,cond_true,Tre.aK]
theorem aoi{c:TRC}{n:Nat}{p:List Nat}(h:jJ c n p):oG c=some (up p):=by
 have h10:=h.r10
 have h5:=h.h5
 have hpl:=h.rre.pl
 unfold oG zO
 rw [ah (show aP (iN c.2.2.1 (c.2.2.1.length:Int)) (0,[])=some (up p) from ?_),Tre.aK]
 refine eX (fun i=>((i:Int),up (p.take i))) c.2.2.1.length _ (fun i hi=>?_) ?_
 ·obtain ⟨r,hr,hrok,hrc⟩:=h.rre.row hi
  have hq:=List.getElem?_eq_getElem (show i<p.length by omega)
  have hqn:=h.rre.plt _ (List.mem_of_getElem? hq)
  have hix:ajR r=some (p[i]:Int):=aqi (by omega) (by rw [hrc _ hqn,h.rre.dia i _ hq i hi,if_pos rfl]) fun e he=>by rw [hrc e (by omega),h.rre.lead i _ hq e he]
  unfold iN
  dsimp only
  rw [fq hr,ah hix,Tre.run_ite,if_pos (by unfold bS;rw [kJ,List.length_take];omega),Tre.aK,aV (by omega),List.take_add_one,hq,Option.toList_some]
  unfold up
  rw [List.map_append]
  rfl
 ·unfold iN
  dsimp only
  rw [dY,Tre.aK,List.take_of_length_le (by omega)]
theorem aji{c:TRC}{n:Nat}{p:List Nat}(h:jJ c n p){m:List Int}(hm:okV c.1 c.2.2.1.length m):AB c (dJ c m)=some (0,m):=by
 have h10:=h.r10
 have h5:=h.h5
 have hpl:=h.rre.pl
 have hw:=abN h hm
 unfold AB OO
 rw [ah (acQ h hw),Tre.aF,decide_eq_true rfl,Bool.not_true,cond_false,ah (aoi h)]
 rw [ah (show aP (nI (dJ c m) ((up p).length:Int) (up p)) (0,[])=some m from ?_)]
 ·rw [ah (arH h hm),ah (ael (by rw [hw.1];omega)),Tre.aF]
  rfl
 refine eX (fun i=>((i:Int),m.take i)) p.length _ (fun i hi=>?_) ?_
 ·have hq:=List.getElem?_eq_getElem hi
  have hqn:=h.rre.plt _ (List.mem_of_getElem? hq)
  have hml:i<m.length:=by rw [hm.1];omega
  have hmi:=List.getElem?_eq_getElem hml
  have hat:(dJ c m)[p[i]]?=some m[i]:=by
   have h1:=h.rre.aln h.hf hm hq
   have h2:=List.getElem?_eq_getElem (show p[i]<(dJ c m).length by rw [hw.1];exact hqn)
   have h3:(dJ c m).getD p[i] 0=m.getD i 0:=by
    unfold dJ
    rw [h.len,Int.toNat_natCast]
    exact h1
   rw [nZ h2,nZ hmi] at h3
   rw [h2,h3]
  unfold nI
  dsimp only
  rw [fq (XO hq),eG hat,Tre.run_ite,if_pos (by unfold bS;rw [List.length_take];omega),Tre.aK,aV (by omega),List.take_add_one,hmi]
  rfl
 ·unfold nI
  dsimp only
  rw [kJ,dY,Tre.aK,List.take_of_length_le (by rw [hm.1];omega)]
def AJ:Env:=⟨tau,[(103,nJ),(113,EG),(115,Dj),(114,rY)],[]⟩
def SB:Code:=(Try.f41.body).getD .skip
def Hl (yZ:Bool) (Ga:Bool) (dX:List Int) (eu:Int) (gM:au) (iG:List Int):(Int×(List Int))→St:=fun x=>bR [(1,(.imm yZ .il dX)),(2,(.ptr (4,0) [])),(7,(.ref (9,0) [])),(18,(.ref (20,0) [])),(19,(.i eu)),(20,(.i x.1))] [((4,0),some ⟨true,aG,(.imm Ga),gM⟩),((9,0),some ⟨false,.il,.own,x.2⟩),((20,0),some ⟨false,.il,.own,iG⟩)]
def EA (yZ:Bool) (Ga:Bool) (dX:List Int) (_:Int) (gM:au) (_:List Int):(List Int)→Ex×St:=fun x=>(.exit 0,bR [(1,(.imm yZ .il dX)),(2,(.ptr (4,0) [])),(7,(.ref (9,0) []))] [((4,0),some ⟨true,aG,(.imm Ga),gM⟩),((9,0),some ⟨false,.il,.own,x⟩)])
def Yq (s:St):Tre (Ex×St):=
 bE .il (s.tmps 1) fun z3 d2=>
 dB (4,0) [] (s.tmps 2)<|
 fA (9,0) [] (s.tmps 7)<|
 fA (20,0) [] (s.tmps 18)<|
 aC true .n (s.tmps 19) fun d8=>
 aC true .n (s.tmps 20) fun d10=>
 aW true aG (s.roots (4,0)) fun m12 d13=>
 jg m12 fun z14=>
 aW false .il (s.roots (9,0)) fun m16 d17=>
 asM .own m16<|
 aW false .il (s.roots (20,0)) fun m19 d20=>
 asM .own m19<|
 .mat (aP (nI d2 d8 d20) (d10,d17)) fun x=>.ret (EA z3 z14 d2 d8 d13 d20 x)
def sK:bB:=⟨([1,2,7,18,19,20],[(4,0),(9,0),(20,0)]),([1,2,7],[(4,0),(9,0)]),Yq⟩
def IK:List (Nat×bB):=[(6,sK)]
theorem RA:∀(yZ Ga:Bool)(dX:List Int)(eu:Int)(gM:au)(iG:List Int)(x:(Int×(List Int)))(c:St→Option (Ex×St)),den AJ IK (aU SB 0) (Hl yZ Ga dX eu gM iG x) (bY sK.kp sK.kx c)=(nI dX eu iG x).run (bZ (Hl yZ Ga dX eu gM iG) (EA yZ Ga dX eu gM iG) c):=fun _ _ _ _ _ _ _ _=>by
 kernel_rfl
theorem VP:bP AJ IK (aU SB 0) sK:=dw fun _ _ _=>dI fun _ _=>fT<|kW<|kW<|aM fun _=>aM fun _=>bN fun _ _=>rZ fun _=>bN fun _ _=>tM<|bN fun _ _=>tM<|fun h _ e18 _ e15 _ e11 e9 e7 e6 e5 e4 e1=>bT (RA _ _ _ _ _ _) h (by subst_vars;exact aR rfl rfl ⟨e1,e4,e5,e6,e7,e9,trivial⟩ ⟨e11,e15,e18,trivial⟩)
def ae2:FnI:=fnI Try.f41 IK
def MV (_:Bool) (_:Bool) (_:au) (_:List Int):(Int×(List Int))→aA:=fun r=>⟨(.tcons (.ref (1,0) []) (.tcons (.i r.1) .tnil)),[],[⟨false,.il,.own,r.2⟩]⟩
theorem acu:∀(zp0 zp1:Bool)(p0:au)(p1:List Int),bI AJ ae2 ⟨[(.imm zp0 aG p0),(.imm zp1 .il p1)],[]⟩=(OO p0 p1).run fun r=>some (MV zp0 zp1 p0 p1 r):=fun _ _ _ _=>by kernel_rfl
def ae1 (av:List AV) (rs:List Root):Tre aA:=
 aB av fun a0_ av0=>
 aB av0 fun a1_ av1=>
 aL av1<|
 aL rs<|
 bE aG a0_ fun z2 d1=>
 bE .il a1_ fun z4 d3=>
 .mat (AB d1 d3) fun r=>.ret (MV z2 z4 d1 d3 r)
def SC:Ctr:=dD [] ae1
theorem acv:Contract Try.prog .none 41 SC:=aD (V:=AJ) aT (ak uY apK (ak RH aua (ak OU alr (ak zF apM aI)))) Try.func41 (bJ (n:=1) fun k hk=>by
 match k,hk with
 |0,_=>exact bM (id:=6) VP) fun _ _ _=>aH fun _ _=>aH fun _ _=>bn<|bn<|dI fun _ _=>dI fun _ _=>fun h=>by intros;subst_vars;exact bg (acu _ _ _ _) h
def iO (aQ:List Int) (bG:au):(Int×(List Int))→Tre ((Int×(List Int)) ⊕ (List Int)):=fun s3=>
 .cond (decide (s3.1<(bG.2.2.1.length:Int)))
  (.ite (0≤s3.1∧s3.1<(bG.2.2.1.length:Int))<|
  .mat (bG.2.2.1[s3.1.toNat]?) fun x1=>
  .ite (0≤s3.1∧s3.1<(aQ.length:Int))<|
  .mat (aQ[s3.1.toNat]?) fun x2=>
  .mat (wH bG.1 s3.2 x1 x2) fun r3=>
  .ret (.inl (aN .i64 (s3.1+1),r3)))
  (.ret (.inr s3.2))
def Ad (p0:List Int) (p1:au):Tre (List Int):=
 .ite ((.n:K)=.n∧0≤p1.2.1∧p1.2.1=p1.2.1∧p1.2.1*(8:Nat)≤140737488355328∧1≤8)<|
 .mat (aP (iO p0 p1) (0,List.replicate p1.2.1.toNat (0:Int))) fun l4=>
 .ret l4
def oW (p0:List Int) (p1:au):Option (List Int):=(Ad p0 p1).run some
-- more
theorem aq1{c:TRC}{n:Nat}{p:List Nat}(h:jJ c n p){m:List Int}(hm:okV c.1 c.2.2.1.length m):oW m c=some (dJ c m):=by
 have h5:=h.h5
 have h10:=h.r10
 unfold oW Ad
 rw [Tre.run_ite,if_pos (by rw [h.len];exact ⟨rfl,by omega,rfl,by omega,by decide⟩)]
 rw [ah (show aP (iO m c) (0,List.replicate c.2.1.toNat 0)=some (dJ c m) from ?_),Tre.aK]
 unfold dJ aeR
 rw [h.len,Int.toNat_natCast]
 have hwz:∀i,i≤m.length→okV c.1 n (uM c.1 (fun i=>c.2.2.1.getD i []) 0 (List.replicate n 0) (m.take i)):=fun i hi=>
  Oq h.hf _ 0 _ (KJ n) (fun x hx=>hm.2 x (List.mem_of_mem_take hx)) fun j _ hj=>rows_ok h.rre.gr (by rw [List.length_take] at hj;have:=hm.1;omega)
 refine eX (fun i=>((i:Int),uM c.1 (fun i=>c.2.2.1.getD i []) 0 (List.replicate n 0) (m.take i))) c.2.2.1.length _ (fun i hi=>?_) ?_
 ·have hx:=List.getElem?_eq_getElem hi
  have hmi:=List.getElem?_eq_getElem (show i<m.length by rw [hm.1];exact hi)
  have hrow:=h.rre.gr _ (List.mem_of_getElem? hx)
  have hw:=hwz i (by rw [hm.1];omega)
  unfold iO
  dsimp only
  rw [fq hx,eG hmi,ah (Ql h.hf (by rw [hw.1,hrow.1]) (by rw [hw.1];omega) hrow.2 (hm.2 _ (List.mem_of_getElem? hmi))),Tre.aK,aV (by omega),List.take_add_one,hmi,Option.toList_some,QJ]
  have:0+(m.take i).length=i:=by rw [List.length_take,hm.1];omega
  rw [this,nZ hx]
 ·unfold iO
  dsimp only
  rw [dY,Tre.aK,List.take_of_length_le (by rw [hm.1];omega)]
def oZ:Env:=⟨tau,[(132,Mi)],[]⟩
def Fz:Code:=(Try.f118.body).getD .skip
def yQ (eF:Bool) (wN:Bool) (aQ:List Int) (bG:au):(Int×(List Int))→St:=fun x=>bR [(0,(.ptr (0,0) [])),(1,(.imm eF .il aQ)),(5,(.ref (7,0) [])),(6,(.i x.1))] [((0,0),some ⟨true,aG,(.imm wN),bG⟩),((7,0),some ⟨false,.il,.own,x.2⟩)]
def xD (_:Bool) (wN:Bool) (_:List Int) (bG:au):(List Int)→Ex×St:=fun x=>(.exit 0,bR [(5,(.ref (7,0) []))] [((0,0),some ⟨true,aG,(.imm wN),bG⟩),((7,0),some ⟨false,.il,.own,x⟩)])
def Oa (s:St):Tre (Ex×St):=
 dB (0,0) [] (s.tmps 0)<|
 bE .il (s.tmps 1) fun z4 d3=>
 fA (7,0) [] (s.tmps 5)<|
 aC true .n (s.tmps 6) fun d7=>
 aW true aG (s.roots (0,0)) fun m9 d10=>
 jg m9 fun z11=>
 aW false .il (s.roots (7,0)) fun m13 d14=>
 asM .own m13<|
 .mat (aP (iO d3 d10) (d7,d14)) fun x=>.ret (xD z4 z11 d3 d10 x)
def lq:bB:=⟨([0,1,5,6],[(0,0),(7,0)]),([5],[(0,0),(7,0)]),Oa⟩
def wJ:List (Nat×bB):=[(3,lq)]
theorem Jo:∀(eF wN:Bool)(aQ:List Int)(bG:au)(x:(Int×(List Int)))(c:St→Option (Ex×St)),den oZ wJ (aU Fz 0) (yQ eF wN aQ bG x) (bY lq.kp lq.kx c)=(iO aQ bG x).run (bZ (yQ eF wN aQ bG) (xD eF wN aQ bG) c):=fun _ _ _ _ _ _=>by
 kernel_rfl
theorem Mq:bP oZ wJ (aU Fz 0) lq:=dw fun _ _ _=>fT<|dI fun _ _=>kW<|aM fun _=>bN fun _ _=>rZ fun _=>bN fun _ _=>tM<|fun h _ e12 _ e8 e6 e5 e2 e1=>bT (Jo _ _ _ _) h (by subst_vars;exact aR rfl rfl ⟨e1,e2,e5,e6,trivial⟩ ⟨e8,e12,trivial⟩)
def Vi:FnI:=fnI Try.f118 wJ
def Ck (_:Bool) (zp1:Bool) (_:List Int) (p1:au):(List Int)→aA:=fun r=>⟨(.ref (1,0) []),[⟨true,aG,(.imm zp1),p1⟩],[⟨false,.il,.own,r⟩]⟩
theorem R7:∀(zp0 zp1:Bool)(p0:List Int)(p1:au),bI oZ Vi ⟨[(.ptr (0,0) []),(.imm zp0 .il p0)],[⟨true,aG,(.imm zp1),p1⟩]⟩=(Ad p0 p1).run fun r=>some (Ck zp0 zp1 p0 p1 r):=fun _ _ _ _=>by kernel_rfl
def Vh (av:List AV) (rs:List Root):Tre aA:=
 aB av fun a0_ av0=>
 aB av0 fun a1_ av1=>
 aL av1<|
 aB rs fun r0_ rs0=>
 aL rs0<|
 dB (0,0) [] a0_<|
 bE .il a1_ fun z2 d1=>
 gH true aG r0_ fun m3 d4=>
 jg m3 fun z5=>
 .mat (oW d1 d4) fun r=>.ret (Ck z2 z5 d1 d4 r)
def FB:Ctr:=dD [1] Vh
theorem R8:Contract Try.prog .none 118 FB:=aD (V:=oZ) aT (ak Qn agQ aI) Try.func118 (bJ (n:=1) fun k hk=>by
 match k,hk with
 |0,_=>exact bM (id:=3) Mq) fun _ _ _=>aH fun _ _=>aH fun _ _=>bn<|aH fun _ _=>bn<|fT<|dI fun _ _=>tRt fun _ _=>rZ fun _=>fun h=>by intros;subst_vars;exact bg (R7 _ _ _ _) h
def Jf (p0:au) (p1:List Int):Tre ((List Int)×Int):=
 .mat (nQ p0) fun r1=>
 .cond (!r1)
  (.ret ([],1))
  (.cond (!decide ((p1.length:Int)=(p0.2.2.1.length:Int)))
   (.ret ([],2))
   (.mat (lI p0.1 p1) fun r2=>
   .cond (!r2)
    (.ret ([],2))
    (.mat (oW p1 p0) fun r3=>
    .ret (r3,0))))
def pK (p0:au) (p1:List Int):Option ((List Int)×Int):=(Jf p0 p1).run some
-- more
theorem aia{c:TRC}{n:Nat}{p:List Nat}(h:jJ c n p){m:List Int}(hm:okV c.1 c.2.2.1.length m):pK c m=some (dJ c m,0):=by
 have h10:=h.r10
 unfold pK Jf
 rw [ah (Zv h),Tre.aF,Bool.not_true,cond_false,Tre.aF,decide_eq_true (by rw [hm.1]),Bool.not_true,cond_false,ah (Ab h.hf m (by rw [hm.1];omega)),ab8 h.hf hm.2,Tre.aF,Bool.not_true,cond_false,ah (aq1 h hm),Tre.aK]
def Na:Env:=⟨tau,[(64,yU),(117,vQ),(118,FB)],[(1000000,[((6,0),[],false)])]⟩
def abb:FnI:=fnI Try.f43 []
def H9 (_:Bool) (_:Bool) (_:au) (_:List Int):((List Int)×Int)→aA:=fun r=>⟨(.tcons (.imm true .il r.1) (.tcons (.i r.2) .tnil)),[],[]⟩
theorem Y5:∀(zp0 zp1:Bool)(p0:au)(p1:List Int),bI Na abb ⟨[(.imm zp0 aG p0),(.imm zp1 .il p1)],[]⟩=(Jf p0 p1).run fun r=>some (H9 zp0 zp1 p0 p1 r):=fun _ _ _ _=>by kernel_rfl
def aa9 (av:List AV) (rs:List Root):Tre aA:=
 aB av fun a0_ av0=>
 aB av0 fun a1_ av1=>
 aL av1<|
 aL rs<|
 bE aG a0_ fun z2 d1=>
 bE .il a1_ fun z4 d3=>
 .mat (pK d1 d3) fun r=>.ret (H9 z2 z4 d1 d3 r)
def Nb:Ctr:=dD [] aa9
theorem Y6:Contract Try.prog .none 43 Nb:=aD (V:=Na) aT (ak CY apZ (ak Ac als (ak R8 apN aI))) Try.func43 bF fun _ _ _=>aH fun _ _=>aH fun _ _=>bn<|bn<|dI fun _ _=>dI fun _ _=>fun h=>by intros;subst_vars;exact bg (Y5 _ _ _ _) h
def zP (p0:List Int) (p1:(List (List Int))):Tre (List (List Int)):=
 .ite ((p1.length+1)*24≤bS∧1≤24)<|
 .ret (p1++([p0]))
def oI (p0:List Int) (p1:(List (List Int))):Option (List (List Int)):=(zP p0 p1).run some
def EL:Env:=⟨tau,[],[]⟩
def Uo:FnI:=fnI Try.f172 []
def BG (_:List Int) (_:(List (List Int))):(List (List Int))→aA:=fun r=>⟨.tnil,[⟨true,(.sl .il),(.sl (.imm true)),r⟩],[]⟩
theorem RI:∀(p0:List Int)(p1:(List (List Int))),bI EL Uo ⟨[(.imm true .il p0),(.ptr (0,0) [])],[⟨true,(.sl .il),(.sl (.imm true)),p1⟩]⟩=(zP p0 p1).run fun r=>some (BG p0 p1 r):=fun _ _=>by kernel_rfl
def Un (av:List AV) (rs:List Root):Tre aA:=
 aB av fun a0_ av0=>
 aB av0 fun a1_ av1=>
 aL av1<|
 aB rs fun r0_ rs0=>
 aL rs0<|
 aC true .il a0_ fun d1=>
 dB (0,0) [] a1_<|
 gH true (.sl .il) r0_ fun m2 d3=>
 asM (.sl (.imm true)) m2<|
 .mat (oI d1 d3) fun r=>.ret (BG d1 d3 r)
def EM:Ctr:=dD [] Un
theorem RJ:Contract Try.prog .none 172 EM:=aD (V:=EL) aT aI Try.func172 bF fun _ _ _=>aH fun _ _=>aH fun _ _=>bn<|aH fun _ _=>bn<|aM fun _=>fT<|tRt fun _ _=>tM<|fun h=>by intros;subst_vars;exact bg (RI _ _) h
def oF (p0:List Int) (p1:au) (p2:(List (List Int))):Tre (List (List Int)):=
 .mat (jC p1 p0) fun r1=>
 .mat (oI r1 p2) fun r2=>
 .ret r2
def jr (p0:List Int) (p1:au) (p2:(List (List Int))):Option (List (List Int)):=(oF p0 p1 p2).run some
def uS:Env:=⟨tau,[(115,q9),(172,EM)],[]⟩
def IX:FnI:=fnI Try.f165 []
def q8 (_:Bool) (_:List Int) (p1:au) (_:(List (List Int))):(List (List Int))→aA:=fun r=>⟨.tnil,[⟨true,.fn,.own,(some (172,[(0,2)]):Option (Nat×List ay))⟩,⟨true,aG,(.imm true),p1⟩,⟨true,(.sl .il),(.sl (.imm true)),r⟩],[]⟩
theorem Gn:∀(zp0:Bool)(p0:List Int)(p1:au)(p2:(List (List Int))),bI uS IX ⟨[(.imm zp0 .il p0),(.ptr (0,0) []),(.ptr (0,1) [])],[⟨true,.fn,.own,(some (172,[(0,2)]):Option (Nat×List ay))⟩,⟨true,aG,(.imm true),p1⟩,⟨true,(.sl .il),(.sl (.imm true)),p2⟩]⟩=(oF p0 p1 p2).run fun r=>some (q8 zp0 p0 p1 p2 r):=fun _ _ _ _=>by kernel_rfl
def IW (av:List AV) (rs:List Root):Tre aA:=
 aB av fun a0_ av0=>
 aB av0 fun a1_ av1=>
 aB av1 fun a2_ av2=>
 aL av2<|
 aB rs fun r0_ rs0=>
 aB rs0 fun r1_ rs1=>
 aB rs1 fun r2_ rs2=>
 aL rs2<|
 bE .il a0_ fun z2 d1=>
 dB (0,0) [] a1_<|
 dB (0,1) [] a2_<|
 gH true .fn r0_ fun m3 d4=>
 asM .own m3<|
 asD d4 (some (172,[(0,2)]):Option (Nat×List ay))<|
 gH true aG r1_ fun m5 d6=>
 asM (.imm true) m5<|
 gH true (.sl .il) r2_ fun m7 d8=>
 asM (.sl (.imm true)) m7<|
 .mat (jr d1 d6 d8) fun r=>.ret (q8 z2 d1 d6 d8 r)
def uT:Ctr:=dD [] IW
theorem Gp:Contract Try.prog .none 165 uT:=aD (V:=uS) aT (ak zk alr (ak RJ auy aI)) Try.func165 bF fun _ _ _=>aH fun _ _=>aH fun _ _=>aH fun _ _=>bn<|aH fun _ _=>aH fun _ _=>aH fun _ _=>bn<|dI fun _ _=>fT<|fT<|tRt fun _ _=>tM<|tD<|tRt fun _ _=>tM<|tRt fun _ _=>tM<|fun h=>by intros;subst_vars;exact bg (Gn _ _ _ _) h
def HZ (fI:(Int×(Int×Unit))):(Int×(List Int))→Tre ((Int×(List Int)) ⊕ (Int×(List Int))):=fun s4=>
 .cond (decide (s4.1 ≥ 0))
  (.ite (0≤s4.1∧s4.1<(s4.2.length:Int))<|
  .mat (s4.2[s4.1.toNat]?) fun x2=>
  .mat (dN fI) fun r3=>
  .cond (decide (x2=aN .i64 (r3-1)))
   (.ite (0≤s4.1∧s4.1<(s4.2.length:Int))<|
   .mat (s4.2[s4.1.toNat]?) fun _=>
   let v5:=s4.2.set s4.1.toNat 0
   .ret (.inl (aN .i64 (s4.1-1),v5)))
   (.ret (.inr (s4.1,s4.2))))
  (.ret (.inr (s4.1,s4.2)))
def WA (aY:Int) (bq:au) (bD:(Int×(Int×Unit))):((List (List Int))×(List Int))→Tre (((List (List Int))×(List Int)) ⊕ (List (List Int))):=fun s2=>
 .mat (jr s2.2 bq s2.1) fun r1=>
 .mat (aP (HZ bD) (aN .i64 (aY-1),s2.2)) fun l6=>
 .cond (decide (l6.1<0))
  (.ret (.inr r1))
  (.ite (0≤l6.1∧l6.1<(l6.2.length:Int))<|
  .mat (l6.2[l6.1.toNat]?) fun x7=>
  .ite (0≤l6.1∧l6.1<(l6.2.length:Int))<|
  .mat (l6.2[l6.1.toNat]?) fun _=>
  let v9:=l6.2.set l6.1.toNat (aN .i64 (x7+1))
  .ret (.inl (r1,v9)))
def au1 (p0:(Int×(Int×Unit))) (p1:Int) (p2:au) (p3:(List (List Int))):Tre (List (List Int)):=
 .ite ((.n:K)=.n∧0≤p1∧p1=p1∧p1*(8:Nat)≤140737488355328∧1≤8)<|
 .mat (aP (WA p1 p2 p0) (p3,List.replicate p1.toNat (0:Int))) fun l10=>
 .ret l10
def ahs (p0:(Int×(Int×Unit))) (p1:Int) (p2:au) (p3:(List (List Int))):Option (List (List Int)):=(au1 p0 p1 p2 p3).run some
def YP:Env:=⟨tau,[(165,uT),(142,lH)],[]⟩
def aht:Code:=(Try.f75.body).getD .skip
def adr (aX:Int) (eO:au) (kS:(List (List Int))) (fI:(Int×(Int×Unit))):(Int×(List Int))→St:=fun x=>bR [(1,(.i aX)),(2,(.fn 165 [(0,0),(0,1)])),(3,(.ptr (5,0) [])),(6,(.ref (8,0) [])),(7,(.i x.1))] [((0,0),some ⟨true,.fn,.own,(some (172,[(0,2)]):Option (Nat×List ay))⟩),((0,1),some ⟨true,aG,(.imm true),eO⟩),((0,2),some ⟨true,(.sl .il),(.sl (.imm true)),kS⟩),((5,0),some ⟨true,aJ,.own,fI⟩),((8,0),some ⟨false,.il,.own,x.2⟩)]
def Z7 (aX:Int) (eO:au) (kS:(List (List Int))) (fI:(Int×(Int×Unit))):(Int×(List Int))→Ex×St:=fun x=>(.exit 2,bR [(1,(.i aX)),(2,(.fn 165 [(0,0),(0,1)])),(3,(.ptr (5,0) [])),(6,(.ref (8,0) [])),(7,(.i x.1))] [((0,0),some ⟨true,.fn,.own,(some (172,[(0,2)]):Option (Nat×List ay))⟩),((0,1),some ⟨true,aG,(.imm true),eO⟩),((0,2),some ⟨true,(.sl .il),(.sl (.imm true)),kS⟩),((5,0),some ⟨true,aJ,.own,fI⟩),((8,0),some ⟨false,.il,.own,x.2⟩)])
def aot (s:St):Tre (Ex×St):=
 aC true .n (s.tmps 1) fun d2=>
 vW 165 [(0,0),(0,1)] (s.tmps 2)<|
 dB (5,0) [] (s.tmps 3)<|
 fA (8,0) [] (s.tmps 6)<|
 aC true .n (s.tmps 7) fun d7=>
 aW true .fn (s.roots (0,0)) fun m9 d10=>
 asM .own m9<|
 asD d10 (some (172,[(0,2)]):Option (Nat×List ay))<|
 aW true aG (s.roots (0,1)) fun m12 d13=>
 asM (.imm true) m12<|
 aW true (.sl .il) (s.roots (0,2)) fun m15 d16=>
 asM (.sl (.imm true)) m15<|
 aW true aJ (s.roots (5,0)) fun m18 d19=>
 asM .own m18<|
 aW false .il (s.roots (8,0)) fun m21 d22=>
 asM .own m21<|
 .mat (aP (HZ d19) (d7,d22)) fun x=>.ret (Z7 d2 d13 d16 d19 x)
def Ra:bB:=⟨([1,2,3,6,7],[(0,0),(0,1),(0,2),(5,0),(8,0)]),([1,2,3,6,7],[(0,0),(0,1),(0,2),(5,0),(8,0)]),aot⟩
def adq (aY:Int) (bq:au) (bD:(Int×(Int×Unit))):((List (List Int))×(List Int))→St:=fun x=>bR [(1,(.i aY)),(2,(.fn 165 [(0,0),(0,1)])),(3,(.ptr (5,0) [])),(6,(.ref (8,0) []))] [((0,0),some ⟨true,.fn,.own,(some (172,[(0,2)]):Option (Nat×List ay))⟩),((0,1),some ⟨true,aG,(.imm true),bq⟩),((0,2),some ⟨true,(.sl .il),(.sl (.imm true)),x.1⟩),((5,0),some ⟨true,aJ,.own,bD⟩),((8,0),some ⟨false,.il,.own,x.2⟩)]
def Z6 (_:Int) (bq:au) (_:(Int×(Int×Unit))):(List (List Int))→Ex×St:=fun x=>(.ret,bR [] [((0,0),some ⟨true,.fn,.own,(some (172,[(0,2)]):Option (Nat×List ay))⟩),((0,1),some ⟨true,aG,(.imm true),bq⟩),((0,2),some ⟨true,(.sl .il),(.sl (.imm true)),x⟩)])
def aos (s:St):Tre (Ex×St):=
 aC true .n (s.tmps 1) fun d2=>
 vW 165 [(0,0),(0,1)] (s.tmps 2)<|
 dB (5,0) [] (s.tmps 3)<|
 fA (8,0) [] (s.tmps 6)<|
 aW true .fn (s.roots (0,0)) fun m7 d8=>
 asM .own m7<|
 asD d8 (some (172,[(0,2)]):Option (Nat×List ay))<|
 aW true aG (s.roots (0,1)) fun m10 d11=>
 asM (.imm true) m10<|
 aW true (.sl .il) (s.roots (0,2)) fun m13 d14=>
 asM (.sl (.imm true)) m13<|
 aW true aJ (s.roots (5,0)) fun m16 d17=>
 asM .own m16<|
 aW false .il (s.roots (8,0)) fun m19 d20=>
 asM .own m19<|
 .mat (aP (WA d2 d11 d17) (d14,d20)) fun x=>.ret (Z6 d2 d11 d17 x)
def Q9:bB:=⟨([1,2,3,6],[(0,0),(0,1),(0,2),(5,0),(8,0)]),([],[(0,0),(0,1),(0,2)]),aos⟩
def adp:List (Nat×bB):=[(4,Ra),(2,Q9)]
theorem ahv:∀(aX:Int)(eO:au)(kS:(List (List Int)))(fI:(Int×(Int×Unit)))(x:(Int×(List Int)))(c:St→Option (Ex×St)),den YP adp (aU aht 1) (adr aX eO kS fI x) (bY Ra.kp Ra.kx c)=(HZ fI x).run (bZ (adr aX eO kS fI) (Z7 aX eO kS fI) c):=fun _ _ _ _ _ _=>by
 kernel_rfl
theorem al9:bP YP adp (aU aht 1) Ra:=dw fun _ _ _=>aM fun _=>tFn<|fT<|kW<|aM fun _=>bN fun _ _=>tM<|tD<|bN fun _ _=>tM<|bN fun _ _=>tM<|bN fun _ _=>tM<|bN fun _ _=>tM<|fun h _ e20 _ e17 _ e14 _ e11 _ _ e8 e6 e5 e4 e3 e1=>bT (ahv _ _ _ _) h (by subst_vars;exact aR rfl rfl ⟨e1,e3,e4,e5,e6,trivial⟩ ⟨e8,e11,e14,e17,e20,trivial⟩)
theorem ahu:∀(aY:Int)(bq:au)(bD:(Int×(Int×Unit)))(x:((List (List Int))×(List Int)))(c:St→Option (Ex×St)),den YP adp (aU aht 0) (adq aY bq bD x) (bY Q9.kp Q9.kx c)=(WA aY bq bD x).run (bZ (adq aY bq bD) (Z6 aY bq bD) c):=fun _ _ _ _ _=>by
 kernel_rfl
theorem al8:bP YP adp (aU aht 0) Q9:=dw fun _ _ _=>aM fun _=>tFn<|fT<|kW<|bN fun _ _=>tM<|tD<|bN fun _ _=>tM<|bN fun _ _=>tM<|bN fun _ _=>tM<|bN fun _ _=>tM<|fun h _ e18 _ e15 _ e12 _ e9 _ _ e6 e5 e4 e3 e1=>bT (ahu _ _ _) h (by subst_vars;exact aR rfl rfl ⟨e1,e3,e4,e5,trivial⟩ ⟨e6,e9,e12,e15,e18,trivial⟩)
def au3:FnI:=fnI Try.f75 adp
def ajH (_:(Int×(Int×Unit))) (_:Int) (p2:au) (_:(List (List Int))):(List (List Int))→aA:=fun r=>⟨.tnil,[⟨true,.fn,.own,(some (172,[(0,2)]):Option (Nat×List ay))⟩,⟨true,aG,(.imm true),p2⟩,⟨true,(.sl .il),(.sl (.imm true)),r⟩],[]⟩
theorem asi:∀(p0:(Int×(Int×Unit)))(p1:Int)(p2:au)(p3:(List (List Int))),bI YP au3 ⟨[(.imm true aJ p0),(.i p1),(.fn 165 [(0,0),(0,1)])],[⟨true,.fn,.own,(some (172,[(0,2)]):Option (Nat×List ay))⟩,⟨true,aG,(.imm true),p2⟩,⟨true,(.sl .il),(.sl (.imm true)),p3⟩]⟩=(au1 p0 p1 p2 p3).run fun r=>some (ajH p0 p1 p2 p3 r):=fun _ _ _ _=>by kernel_rfl
def au2 (av:List AV) (rs:List Root):Tre aA:=
 aB av fun a0_ av0=>
 aB av0 fun a1_ av1=>
 aB av1 fun a2_ av2=>
 aL av2<|
 aB rs fun r0_ rs0=>
 aB rs0 fun r1_ rs1=>
 aB rs1 fun r2_ rs2=>
 aL rs2<|
 aC true aJ a0_ fun d1=>
 aC true .n a1_ fun d2=>
 vW 165 [(0,0),(0,1)] a2_<|
 gH true .fn r0_ fun m3 d4=>
 asM .own m3<|
 asD d4 (some (172,[(0,2)]):Option (Nat×List ay))<|
 gH true aG r1_ fun m5 d6=>
 asM (.imm true) m5<|
 gH true (.sl .il) r2_ fun m7 d8=>
 asM (.sl (.imm true)) m7<|
 .mat (ahs d1 d2 d6 d8) fun r=>.ret (ajH d1 d2 d6 d8 r)
def aqp:Ctr:=dD [] au2
theorem asj:Contract Try.prog .none 75 aqp:=aD (V:=YP) aT (ak Gp apQ (ak nD ab9 aI)) Try.func75 (bJ (n:=2) fun k hk=>by
 match k,hk with
 |0,_=>exact bM (id:=2) al8
 |1,_=>exact bM (id:=4) al9) fun _ _ _=>aH fun _ _=>aH fun _ _=>aH fun _ _=>bn<|aH fun _ _=>aH fun _ _=>aH fun _ _=>bn<|aM fun _=>aM fun _=>tFn<|tRt fun _ _=>tM<|tD<|tRt fun _ _=>tM<|tRt fun _ _=>tM<|fun h=>by intros;subst_vars;exact bg (asi _ _ _ _) h
def au7 (p0:au) (p1:(List (List Int))):Tre (List (List Int)):=
 .mat (ahs p0.1 (p0.2.2.1.length:Int) p0 p1) fun r1=>
 .ret r1
def ahy (p0:au) (p1:(List (List Int))):Option (List (List Int)):=(au7 p0 p1).run some
def aqu:Env:=⟨tau,[(75,aqp)],[]⟩
def au9:FnI:=fnI Try.f105 []
def ajJ (_:au) (_:(List (List Int))):(List (List Int))→aA:=fun r=>⟨.tnil,[⟨true,(.sl .il),(.sl (.imm true)),r⟩],[]⟩
theorem aso:∀(p0:au)(p1:(List (List Int))),bI aqu au9 ⟨[(.imm true aG p0),(.fn 172 [(0,0)])],[⟨true,(.sl .il),(.sl (.imm true)),p1⟩]⟩=(au7 p0 p1).run fun r=>some (ajJ p0 p1 r):=fun _ _=>by kernel_rfl
def au8 (av:List AV) (rs:List Root):Tre aA:=
 aB av fun a0_ av0=>
 aB av0 fun a1_ av1=>
 aL av1<|
 aB rs fun r0_ rs0=>
 aL rs0<|
 aC true aG a0_ fun d1=>
 vW 172 [(0,0)] a1_<|
 gH true (.sl .il) r0_ fun m2 d3=>
 asM (.sl (.imm true)) m2<|
 .mat (ahy d1 d3) fun r=>.ret (ajJ d1 d3 r)
def aqv:Ctr:=dD [] au8
theorem asq:Contract Try.prog .none 105 aqv:=aD (V:=aqu) aT (ak asj ap0 aI) Try.func105 bF fun _ _ _=>aH fun _ _=>aH fun _ _=>bn<|aH fun _ _=>bn<|aM fun _=>tFn<|tRt fun _ _=>tM<|fun h=>by intros;subst_vars;exact bg (aso _ _) h
def Yw (p0:au):Tre ((Int×(List (List Int))) ⊕ ((List (List Int))×Int)):=
 .mat (fF p0) fun r1=>
 .cond (!decide (r1=0))
  (.ret (.inl (r1,[])))
  (.mat (ahy p0 []) fun r2=>
  .ret (.inr (r2,0)))
def BF (p0:au):Option ((Int×(List (List Int))) ⊕ ((List (List Int))×Int)):=(Yw p0).run some
-- more
theorem avR{f:TF3}(hf:aO f=true)(i:Nat)(l:List Int)(x:Int)(hx:l[i]?=some x)(hl:l.length≤1000):(HZ f ((i:Int),l)).run some=some (cond (decide (x=(qF f:Int)-1)) (.inl ((i:Int)-1,l.set i 0)) (.inr ((i:Int),l))):=by
 have hq:=Aa f
 have hil:=(List.getElem?_eq_some_iff.1 hx).1
 have hd:=dW hf
 have hc:dN f=some (qF f:Int):=by
  unfold dN pW
  rw [Tre.run_ite,if_pos (by omega),Tre.aK,show f.1=((f.1.toNat:Nat):Int) by omega,acU (by omega)]
  rfl
 have hqi:qF f≤32:=L9 (b:=f.1.toNat) (c:=5) (by omega)
 unfold HZ
 dsimp only
 rw [Tre.aF,decide_eq_true (by omega),cond_true,eG hx,ah hc,dh (by omega) (by omega),Tre.aF]
 cases decide (x=(qF f:Int)-1)
 ·rfl
 ·rw [cond_true,cond_true,eG hx,Tre.aK,Int.toNat_natCast,dh (by omega) (by omega)]
theorem avQ{f:TF3}(l:List Int):(HZ f (-1,l)).run some=some (.inr (-1,l)):=rfl
theorem arl{c:TRC}{n:Nat}{p:List Nat}(h:jJ c n p){K:Nat}(h10:K≤10)(I:List (List Int)→List (List Int)→Prop)(F:List (List Int)→List Int→List (List Int))
  (hs:∀(pre:List (List Int))(m:List Int)(g:List (List Int)),m∈qO (qF c.1) K→pre.length<(qO (qF c.1) K).length→I pre g→jr m c g=some (F g m)∧I (pre++[m]) (F g m)) (g0:List (List Int)) (h0:I [] g0) :
  ∃g,ahs c.1 (K:Int) c g0=some g∧I (qO (qF c.1) K) g:=by
 have hq:=Aa c.1
 obtain ⟨st,hl,hI⟩:=adw (nx:=vk (qF c.1:Int)) (step:=WA (K:Int) c c.1) (fun (g:List (List Int)) (d:List Int)=>(g,d)) (fun g=>g) F I (all:=qO (qF c.1) K) (by
  intro pre d g hd hn hlt hI
  obtain ⟨hdl,hdv⟩:=(Hy _ _ _).1 hd
  obtain ⟨hcl,hI2⟩:=hs pre d g hd hlt hI
  refine ⟨?_,hI2⟩
  unfold WA
  dsimp only
  rw [ah hcl,dh (n:=(K:Int)-1) (by omega) (by omega)]
  have st4:=avR h.hf
  rcases Ph (qF c.1:Int) d with hd2|⟨zs,cc,k,hcc,hd2⟩
  ·rw [hdl] at hd2
   have h4:=X5 (step:=HZ c.1) (M:=(qF c.1:Int)) (N:=1000) avQ st4 K 0 (by omega)
   rw [List.replicate_zero,List.append_nil,←hd2] at h4
   rw [ah h4,Tre.aF,decide_eq_true (show (-1:Int)<0 by decide),cond_true,Tre.aK]
   have:vk (qF c.1:Int) d=none:=by rw [hd2];exact Q6 _ _
   rw [this]
  ·have hlz:zs.length+k+1=K:=by rw [←hdl,hd2];simp;omega
   have h4:=X4 (step:=HZ c.1) (M:=(qF c.1:Int)) (N:=1000) (zs:=zs) st4 hcc k 0 (by omega)
   rw [List.replicate_zero,List.append_nil,←hd2,Nat.add_zero,show ((zs.length+k:Nat):Int)=(K:Int)-1 by omega] at h4
   have hqi:qF c.1≤32:=by have:=dW h.hf;exact L9 (b:=c.1.1.toNat) (c:=5) (by omega)
   obtain ⟨kk,hkk,hkl⟩:=hdv cc (by rw [hd2];simp)
   have hnx:vk (qF c.1:Int) d=some (zs++(cc+1)::List.replicate k 0):=by rw [hd2];exact YN _ _ hcc _ _
   have hat:(zs++cc::List.replicate k 0)[zs.length]?=some cc:=by simp
   have hset:(zs++cc::List.replicate k 0).set zs.length (cc+1)=zs++(cc+1)::List.replicate k 0:=by simp
   rw [ah h4]
   dsimp only
   rw [Tre.aF,decide_eq_false (by omega),cond_false,eG hat,eG hat,Tre.aK,Int.toNat_natCast,dh (n:=cc+1) (by omega) (by omega),hset,hnx]) (ahL hq K) [] g0 rfl (QZ _ _) h0
 refine ⟨st,?_,hI⟩
 unfold ahs au1
 rw [Tre.run_ite,if_pos ⟨rfl,by omega,rfl,by omega,by decide⟩,Int.toNat_natCast,ah hl,Tre.aK]
theorem ajn{c:TRC}{n:Nat}{p:List Nat}(h:jJ c n p)(hs:c.1.1*(c.2.2.1.length:Int)≤12)(hml:(dG c).length≤10000):BF c=some (.inr ((dG c).map (dJ c),0)):=by
 obtain ⟨g,hg,hI⟩:=arl h (K:=c.2.2.1.length) h.r10 (fun pre g=>g=pre.map (dJ c)) (fun g m=>g++[dJ c m]) (fun pre m g hm hlt hI=>by
  have hmm:(qO (qF c.1) c.2.2.1.length).length=(dG c).length:=rfl
  refine ⟨?_,by rw [hI,List.map_append];rfl⟩
  unfold jr oF
  rw [ah (ajh h (wB hm)),ah (show oI (dJ c m) g=some (g++[dJ c m]) from by
   unfold oI zP
   rw [Tre.run_ite,if_pos (by unfold bS;rw [hI,List.length_map];omega),Tre.aK]),Tre.aK]) [] rfl
 have he:ahy c []=some ((dG c).map (dJ c)):=by
  unfold ahy au7
  rw [ah hg,Tre.aK,hI]
  rfl
 unfold BF Yw
 rw [ah (LD h hs),Tre.aF,decide_eq_true rfl,Bool.not_true,cond_false,ah he,Tre.aK]
def ZL:Env:=⟨tau,[(104,jR),(105,aqv)],[(5,[((7,0),[],true)]),(6,[((7,0),[],false)])]⟩
def ai6:FnI:=fnI Try.f119 []
def I9 (_:au):((Int×(List (List Int))) ⊕ ((List (List Int))×Int))→aA
 |.inl r=>⟨(.tcons (.ref (1,0) []) (.tcons (.i r.1) .tnil)),[],[⟨false,(.sl .il),.own,r.2⟩]⟩
 |.inr r=>⟨(.tcons (.imm true (.sl .il) r.1) (.tcons (.i r.2) .tnil)),[],[]⟩
theorem agX:∀(p0:au),bI ZL ai6 ⟨[(.imm true aG p0)],[]⟩=(Yw p0).run fun r=>some (I9 p0 r):=fun _=>by kernel_rfl
def ai5 (av:List AV) (rs:List Root):Tre aA:=
 aB av fun a0_ av0=>
 aL av0<|
 aL rs<|
 aC true aG a0_ fun d1=>
 .mat (BF d1) fun r=>.alt r (fun a0=>.ret (I9 d1 (.inl a0))) (fun b0=>.ret (I9 d1 (.inr b0)))
def ZM:Ctr:=dD [] ai5
theorem agY:Contract Try.prog .none 119 ZM:=aD (V:=ZL) aT (ak mO alo (ak asq apL aI)) Try.func119 bF fun _ _ _=>aH fun _ _=>bn<|bn<|aM fun _=>fun h=>by intros;subst_vars;exact aiY (agX _) h (by rintro (x|x)<;>rfl)
def eP (aY:List Int) (dx:(List (List Int))) (bD:Int):(Int×Int)→Tre ((Int×Int) ⊕ Int):=fun s2=>
 .cond (decide (s2.2<bD))
  (.ite (0≤s2.2∧s2.2<(dx.length:Int))<|
  .mat (dx[s2.2.toNat]?) fun x1=>
  .mat (zQ x1 aY) fun r2=>
  .mat (oK r2) fun r3=>
  let v4:=if r3<s2.1 then r3 else s2.1
  .ret (.inl (v4,aN .i64 (s2.2+1))))
  (.ret (.inr s2.1))
def nA (p0:List Int) (p1:au) (p2:(List (List Int))) (p3:Int):Tre Int:=
 .mat (aP (eP p0 p2 (p2.length:Int)) (p1.2.1,0)) fun l5=>
 let v6:=if p3<l5 then l5 else p3
 .ret v6
def fV (p0:List Int) (p1:au) (p2:(List (List Int))) (p3:Int):Option Int:=(nA p0 p1 p2 p3).run some
def iV:Env:=⟨tau,[(108,QU),(107,LA)],[]⟩
def tN:Code:=(Try.f120.body).getD .skip
def nT (kX:Bool) (aY:List Int) (dx:(List (List Int))) (bD:Int) (uD:au) (TU:(List (List Int))) (TV:Int):(Int×Int)→St:=fun x=>bR [(0,(.imm kX .il aY)),(3,(.ptr (0,2) [])),(5,(.i x.1)),(10,(.imm true (.sl .il) dx)),(11,(.i bD)),(12,(.i x.2))] [((0,0),some ⟨true,aG,(.imm true),uD⟩),((0,1),some ⟨true,(.sl .il),(.imm true),TU⟩),((0,2),some ⟨true,.n,.own,TV⟩)]
def nC (_:Bool) (_:List Int) (_:(List (List Int))) (_:Int) (uD:au) (TU:(List (List Int))) (TV:Int):Int→Ex×St:=fun x=>(.exit 0,bR [(3,(.ptr (0,2) [])),(5,(.i x))] [((0,0),some ⟨true,aG,(.imm true),uD⟩),((0,1),some ⟨true,(.sl .il),(.imm true),TU⟩),((0,2),some ⟨true,.n,.own,TV⟩)])
def Cz (s:St):Tre (Ex×St):=
 bE .il (s.tmps 0) fun z3 d2=>
 dB (0,2) [] (s.tmps 3)<|
 aC true .n (s.tmps 5) fun d6=>
 aC true (.sl .il) (s.tmps 10) fun d8=>
 aC true .n (s.tmps 11) fun d10=>
 aC true .n (s.tmps 12) fun d12=>
 aW true aG (s.roots (0,0)) fun m14 d15=>
 asM (.imm true) m14<|
 aW true (.sl .il) (s.roots (0,1)) fun m17 d18=>
 asM (.imm true) m17<|
 aW true .n (s.roots (0,2)) fun m20 d21=>
 asM .own m20<|
 .mat (aP (eP d2 d8 d10) (d6,d12)) fun x=>.ret (nC z3 d2 d8 d10 d15 d18 d21 x)
def gU:bB:=⟨([0,3,5,10,11,12],[(0,0),(0,1),(0,2)]),([3,5],[(0,0),(0,1),(0,2)]),Cz⟩
def lD:List (Nat×bB):=[(2,gU)]
theorem y5:∀(kX:Bool)(aY:List Int)(dx:(List (List Int)))(bD:Int)(uD:au)(TU:(List (List Int)))(TV:Int)(x:(Int×Int))(c:St→Option (Ex×St)),den iV lD (aU tN 0) (nT kX aY dx bD uD TU TV x) (bY gU.kp gU.kx c)=(eP aY dx bD x).run (bZ (nT kX aY dx bD uD TU TV) (nC kX aY dx bD uD TU TV) c):=fun _ _ _ _ _ _ _ _ _=>by
 kernel_rfl
theorem Bn:bP iV lD (aU tN 0) gU:=dw fun _ _ _=>dI fun _ _=>fT<|aM fun _=>aM fun _=>aM fun _=>aM fun _=>bN fun _ _=>tM<|bN fun _ _=>tM<|bN fun _ _=>tM<|fun h _ e19 _ e16 _ e13 e11 e9 e7 e5 e4 e1=>bT (y5 _ _ _ _ _ _ _) h (by subst_vars;exact aR rfl rfl ⟨e1,e4,e5,e7,e9,e11,trivial⟩ ⟨e13,e16,e19,trivial⟩)
def Gf:FnI:=fnI Try.f120 lD
def qy (_:Bool) (_:List Int) (p1:au) (p2:(List (List Int))) (_:Int):Int→aA:=fun r=>⟨.tnil,[⟨true,aG,(.imm true),p1⟩,⟨true,(.sl .il),(.imm true),p2⟩,⟨true,.n,.own,r⟩],[]⟩
theorem Eh:∀(zp0:Bool)(p0:List Int)(p1:au)(p2:(List (List Int)))(p3:Int),bI iV Gf ⟨[(.imm zp0 .il p0),(.ptr (0,0) []),(.ptr (0,1) []),(.ptr (0,2) [])],[⟨true,aG,(.imm true),p1⟩,⟨true,(.sl .il),(.imm true),p2⟩,⟨true,.n,.own,p3⟩]⟩=(nA p0 p1 p2 p3).run fun r=>some (qy zp0 p0 p1 p2 p3 r):=fun _ _ _ _ _=>by kernel_rfl
def Gd (av:List AV) (rs:List Root):Tre aA:=
 aB av fun a0_ av0=>
 aB av0 fun a1_ av1=>
 aB av1 fun a2_ av2=>
 aB av2 fun a3_ av3=>
 aL av3<|
 aB rs fun r0_ rs0=>
 aB rs0 fun r1_ rs1=>
 aB rs1 fun r2_ rs2=>
 aL rs2<|
 bE .il a0_ fun z2 d1=>
 dB (0,0) [] a1_<|
 dB (0,1) [] a2_<|
 dB (0,2) [] a3_<|
 gH true aG r0_ fun m3 d4=>
 asM (.imm true) m3<|
 gH true (.sl .il) r1_ fun m5 d6=>
 asM (.imm true) m5<|
 gH true .n r2_ fun m7 d8=>
 asM .own m7<|
 .mat (fV d1 d4 d6 d8) fun r=>.ret (qy z2 d1 d4 d6 d8 r)
def tO:Ctr:=dD [] Gd
theorem Ei:Contract Try.prog .none 120 tO:=aD (V:=iV) aT (ak Uq alq (ak O7 alp aI)) Try.func120 (bJ (n:=1) fun k hk=>by
 match k,hk with
 |0,_=>exact bM (id:=2) Bn) fun _ _ _=>aH fun _ _=>aH fun _ _=>aH fun _ _=>aH fun _ _=>bn<|aH fun _ _=>aH fun _ _=>aH fun _ _=>bn<|dI fun _ _=>fT<|fT<|fT<|tRt fun _ _=>tM<|tRt fun _ _=>tM<|tRt fun _ _=>tM<|fun h=>by intros;subst_vars;exact bg (Eh _ _ _ _ _) h
def H7 (p9:(Int×(Int×Unit))):(Int×(List Int))→Tre ((Int×(List Int)) ⊕ (Int×(List Int))):=fun s4=>
 .cond (decide (s4.1 ≥ 0))
  (.ite (0≤s4.1∧s4.1<(s4.2.length:Int))<|
  .mat (s4.2[s4.1.toNat]?) fun x2=>
  .mat (dN p9) fun r3=>
  .cond (decide (x2=aN .i64 (r3-1)))
   (.ite (0≤s4.1∧s4.1<(s4.2.length:Int))<|
   .mat (s4.2[s4.1.toNat]?) fun _=>
   let v5:=s4.2.set s4.1.toNat 0
   .ret (.inl (aN .i64 (s4.1-1),v5)))
   (.ret (.inr (s4.1,s4.2))))
  (.ret (.inr (s4.1,s4.2)))
def WB (aY:Int) (bq:au) (dx:(List (List Int))) (gL:(Int×(Int×Unit))):(Int×(List Int))→Tre ((Int×(List Int)) ⊕ Int):=fun s2=>
 .mat (fV s2.2 bq dx s2.1) fun r1=>
 .mat (aP (H7 gL) (aN .i64 (aY-1),s2.2)) fun l6=>
 .cond (decide (l6.1<0))
  (.ret (.inr r1))
  (.ite (0≤l6.1∧l6.1<(l6.2.length:Int))<|
  .mat (l6.2[l6.1.toNat]?) fun x7=>
  .ite (0≤l6.1∧l6.1<(l6.2.length:Int))<|
  .mat (l6.2[l6.1.toNat]?) fun _=>
  let v9:=l6.2.set l6.1.toNat (aN .i64 (x7+1))
  .ret (.inl (r1,v9)))
def ava (p0:(Int×(Int×Unit))) (p1:Int) (p2:au) (p3:(List (List Int))) (p4:Int):Tre Int:=
 .ite ((.n:K)=.n∧0≤p1∧p1=p1∧p1*(8:Nat)≤140737488355328∧1≤8)<|
 .mat (aP (WB p1 p2 p3 p0) (p4,List.replicate p1.toNat (0:Int))) fun l10=>
 .ret l10
def Pj (p0:(Int×(Int×Unit))) (p1:Int) (p2:au) (p3:(List (List Int))) (p4:Int):Option Int:=(ava p0 p1 p2 p3 p4).run some
def YQ:Env:=⟨tau,[(120,tO),(142,lH)],[]⟩
def ahz:Code:=(Try.f75.body).getD .skip
def adu (aX:Int) (eO:au) (kS:(List (List Int))) (fI:Int) (p9:(Int×(Int×Unit))):(Int×(List Int))→St:=fun x=>bR [(1,(.i aX)),(2,(.fn 120 [(0,0),(0,1),(0,2)])),(3,(.ptr (5,0) [])),(6,(.ref (8,0) [])),(7,(.i x.1))] [((0,0),some ⟨true,aG,(.imm true),eO⟩),((0,1),some ⟨true,(.sl .il),(.imm true),kS⟩),((0,2),some ⟨true,.n,.own,fI⟩),((5,0),some ⟨true,aJ,.own,p9⟩),((8,0),some ⟨false,.il,.own,x.2⟩)]
def Z9 (aX:Int) (eO:au) (kS:(List (List Int))) (fI:Int) (p9:(Int×(Int×Unit))):(Int×(List Int))→Ex×St:=fun x=>(.exit 2,bR [(1,(.i aX)),(2,(.fn 120 [(0,0),(0,1),(0,2)])),(3,(.ptr (5,0) [])),(6,(.ref (8,0) [])),(7,(.i x.1))] [((0,0),some ⟨true,aG,(.imm true),eO⟩),((0,1),some ⟨true,(.sl .il),(.imm true),kS⟩),((0,2),some ⟨true,.n,.own,fI⟩),((5,0),some ⟨true,aJ,.own,p9⟩),((8,0),some ⟨false,.il,.own,x.2⟩)])
def aow (s:St):Tre (Ex×St):=
 aC true .n (s.tmps 1) fun d2=>
 vW 120 [(0,0),(0,1),(0,2)] (s.tmps 2)<|
 dB (5,0) [] (s.tmps 3)<|
 fA (8,0) [] (s.tmps 6)<|
 aC true .n (s.tmps 7) fun d7=>
 aW true aG (s.roots (0,0)) fun m9 d10=>
 asM (.imm true) m9<|
 aW true (.sl .il) (s.roots (0,1)) fun m12 d13=>
 asM (.imm true) m12<|
 aW true .n (s.roots (0,2)) fun m15 d16=>
 asM .own m15<|
 aW true aJ (s.roots (5,0)) fun m18 d19=>
 asM .own m18<|
 aW false .il (s.roots (8,0)) fun m21 d22=>
 asM .own m21<|
 .mat (aP (H7 d19) (d7,d22)) fun x=>.ret (Z9 d2 d10 d13 d16 d19 x)
def Rf:bB:=⟨([1,2,3,6,7],[(0,0),(0,1),(0,2),(5,0),(8,0)]),([1,2,3,6,7],[(0,0),(0,1),(0,2),(5,0),(8,0)]),aow⟩
def adt (aY:Int) (bq:au) (dx:(List (List Int))) (gL:(Int×(Int×Unit))):(Int×(List Int))→St:=fun x=>bR [(1,(.i aY)),(2,(.fn 120 [(0,0),(0,1),(0,2)])),(3,(.ptr (5,0) [])),(6,(.ref (8,0) []))] [((0,0),some ⟨true,aG,(.imm true),bq⟩),((0,1),some ⟨true,(.sl .il),(.imm true),dx⟩),((0,2),some ⟨true,.n,.own,x.1⟩),((5,0),some ⟨true,aJ,.own,gL⟩),((8,0),some ⟨false,.il,.own,x.2⟩)]
def Z8 (_:Int) (bq:au) (dx:(List (List Int))) (_:(Int×(Int×Unit))):Int→Ex×St:=fun x=>(.ret,bR [] [((0,0),some ⟨true,aG,(.imm true),bq⟩),((0,1),some ⟨true,(.sl .il),(.imm true),dx⟩),((0,2),some ⟨true,.n,.own,x⟩)])
def aov (s:St):Tre (Ex×St):=
 aC true .n (s.tmps 1) fun d2=>
 vW 120 [(0,0),(0,1),(0,2)] (s.tmps 2)<|
 dB (5,0) [] (s.tmps 3)<|
 fA (8,0) [] (s.tmps 6)<|
 aW true aG (s.roots (0,0)) fun m7 d8=>
 asM (.imm true) m7<|
 aW true (.sl .il) (s.roots (0,1)) fun m10 d11=>
 asM (.imm true) m10<|
 aW true .n (s.roots (0,2)) fun m13 d14=>
 asM .own m13<|
 aW true aJ (s.roots (5,0)) fun m16 d17=>
 asM .own m16<|
 aW false .il (s.roots (8,0)) fun m19 d20=>
 asM .own m19<|
 .mat (aP (WB d2 d8 d11 d17) (d14,d20)) fun x=>.ret (Z8 d2 d8 d11 d17 x)
def Rc:bB:=⟨([1,2,3,6],[(0,0),(0,1),(0,2),(5,0),(8,0)]),([],[(0,0),(0,1),(0,2)]),aov⟩
def ads:List (Nat×bB):=[(4,Rf),(2,Rc)]
theorem ahB:∀(aX:Int)(eO:au)(kS:(List (List Int)))(fI:Int)(p9:(Int×(Int×Unit)))(x:(Int×(List Int)))(c:St→Option (Ex×St)),den YQ ads (aU ahz 1) (adu aX eO kS fI p9 x) (bY Rf.kp Rf.kx c)=(H7 p9 x).run (bZ (adu aX eO kS fI p9) (Z9 aX eO kS fI p9) c):=fun _ _ _ _ _ _ _=>by
 kernel_rfl
theorem amd:bP YQ ads (aU ahz 1) Rf:=dw fun _ _ _=>aM fun _=>tFn<|fT<|kW<|aM fun _=>bN fun _ _=>tM<|bN fun _ _=>tM<|bN fun _ _=>tM<|bN fun _ _=>tM<|bN fun _ _=>tM<|fun h _ e20 _ e17 _ e14 _ e11 _ e8 e6 e5 e4 e3 e1=>bT (ahB _ _ _ _ _) h (by subst_vars;exact aR rfl rfl ⟨e1,e3,e4,e5,e6,trivial⟩ ⟨e8,e11,e14,e17,e20,trivial⟩)
theorem ahA:∀(aY:Int)(bq:au)(dx:(List (List Int)))(gL:(Int×(Int×Unit)))(x:(Int×(List Int)))(c:St→Option (Ex×St)),den YQ ads (aU ahz 0) (adt aY bq dx gL x) (bY Rc.kp Rc.kx c)=(WB aY bq dx gL x).run (bZ (adt aY bq dx gL) (Z8 aY bq dx gL) c):=fun _ _ _ _ _ _=>by
 kernel_rfl
theorem amc:bP YQ ads (aU ahz 0) Rc:=dw fun _ _ _=>aM fun _=>tFn<|fT<|kW<|bN fun _ _=>tM<|bN fun _ _=>tM<|bN fun _ _=>tM<|bN fun _ _=>tM<|bN fun _ _=>tM<|fun h _ e18 _ e15 _ e12 _ e9 _ e6 e5 e4 e3 e1=>bT (ahA _ _ _ _) h (by subst_vars;exact aR rfl rfl ⟨e1,e3,e4,e5,trivial⟩ ⟨e6,e9,e12,e15,e18,trivial⟩)
def avc:FnI:=fnI Try.f75 ads
def ajK (_:(Int×(Int×Unit))) (_:Int) (p2:au) (p3:(List (List Int))) (_:Int):Int→aA:=fun r=>⟨.tnil,[⟨true,aG,(.imm true),p2⟩,⟨true,(.sl .il),(.imm true),p3⟩,⟨true,.n,.own,r⟩],[]⟩
theorem asr:∀(p0:(Int×(Int×Unit)))(p1:Int)(p2:au)(p3:(List (List Int)))(p4:Int),bI YQ avc ⟨[(.imm true aJ p0),(.i p1),(.fn 120 [(0,0),(0,1),(0,2)])],[⟨true,aG,(.imm true),p2⟩,⟨true,(.sl .il),(.imm true),p3⟩,⟨true,.n,.own,p4⟩]⟩=(ava p0 p1 p2 p3 p4).run fun r=>some (ajK p0 p1 p2 p3 p4 r):=fun _ _ _ _ _=>by kernel_rfl
def avb (av:List AV) (rs:List Root):Tre aA:=
 aB av fun a0_ av0=>
 aB av0 fun a1_ av1=>
 aB av1 fun a2_ av2=>
 aL av2<|
 aB rs fun r0_ rs0=>
 aB rs0 fun r1_ rs1=>
 aB rs1 fun r2_ rs2=>
 aL rs2<|
 aC true aJ a0_ fun d1=>
 aC true .n a1_ fun d2=>
 vW 120 [(0,0),(0,1),(0,2)] a2_<|
 gH true aG r0_ fun m3 d4=>
 asM (.imm true) m3<|
 gH true (.sl .il) r1_ fun m5 d6=>
 asM (.imm true) m5<|
 gH true .n r2_ fun m7 d8=>
 asM .own m7<|
 .mat (Pj d1 d2 d4 d6 d8) fun r=>.ret (ajK d1 d2 d4 d6 d8 r)
def aqw:Ctr:=dD [] avb
theorem asu:Contract Try.prog .none 75 aqw:=aD (V:=YQ) aT (ak Ei aud (ak nD ab9 aI)) Try.func75 (bJ (n:=2) fun k hk=>by
 match k,hk with
 |0,_=>exact bM (id:=2) amc
 |1,_=>exact bM (id:=4) amd) fun _ _ _=>aH fun _ _=>aH fun _ _=>aH fun _ _=>bn<|aH fun _ _=>aH fun _ _=>aH fun _ _=>bn<|aM fun _=>aM fun _=>tFn<|tRt fun _ _=>tM<|tRt fun _ _=>tM<|tRt fun _ _=>tM<|fun h=>by intros;subst_vars;exact bg (asr _ _ _ _ _) h
def sI (p0:au):Tre (Int×Int):=
 .mat (fF p0) fun r1=>
 .cond (decide (r1=0))
  (let v2:=aN .i64 ((p0.2.2.1.length:Int)+p0.2.1)
  .cond (decide (aN .i64 (p0.1.1*v2)>16))
   (.ret (0,3))
   (.cond (!decide (r1=0))
    (.ret (0,r1))
    (.mat (BF p0) fun r3=>
    .alt r3
     (fun a4=>
      .mat (Pj p0.1 p0.2.1 p0 a4.2 0) fun r6=>
      .ret (r6,0))
     (fun b5=>
      .mat (Pj p0.1 p0.2.1 p0 b5.1 0) fun r7=>
      .ret (r7,0)))))
  (.cond (!decide (r1=0))
   (.ret (0,r1))
   (.mat (BF p0) fun r8=>
   .alt r8
    (fun a9=>
     .mat (Pj p0.1 p0.2.1 p0 a9.2 0) fun r11=>
     .ret (r11,0))
    (fun b10=>
     .mat (Pj p0.1 p0.2.1 p0 b10.1 0) fun r12=>
     .ret (r12,0))))
def eB (p0:au):Option (Int×Int):=(sI p0).run some
-- more
def aff(a d:Int):Int:=if d<a then d else a
theorem am2:∀(l:List Int)(a:Int),l.foldl aff a≤a∧∀d∈l,l.foldl aff a≤d:=by
 intro l
 induction l with
 |nil=>intro a;exact ⟨Int.le_refl _,fun d h=>absurd h List.not_mem_nil⟩
 |cons x l ih=>
  intro a
  obtain ⟨h1,h2⟩:=ih (aff a x)
  have h3:aff a x≤a∧aff a x≤x:=by unfold aff;split<;>omega
  refine ⟨Int.le_trans h1 h3.1,fun d hd=>?_⟩
  rcases List.mem_cons.1 hd with rfl|hd
  ·exact Int.le_trans h1 h3.2
  ·exact h2 d hd
theorem asc{b:Int}:∀(l:List Int)(a:Int),b≤a→(∀d∈l,b≤d)→b≤l.foldl aff a:=by
 intro l
 induction l with
 |nil=>intro a h _;exact h
 |cons x l ih=>
  intro a h hd
  refine ih _ ?_ fun d hd'=>hd d (.tail _ hd')
  have:=hd x (.head _)
  unfold aff;split<;>omega
def CK (c:TRC) (w:List Nat):Int:=((dG c).map (eZ c w)).foldl aff c.2.1
theorem ak6{c:TRC}{n:Nat}{p:List Nat}(h:jJ c n p)(hml:(dG c).length≤10000){w:List Nat}(hw:inL (FOf c.1 h.hf) w)(hl:w.length=n)(g:Int) :
  fV (up w) c ((dG c).map (dJ c)) g=some (if g<CK c w then CK c w else g):=by
 have h5:=h.h5
 unfold fV nA
 rw [ah (show aP (eP (up w) ((dG c).map (dJ c)) (((dG c).map (dJ c)).length:Int)) (c.2.1,0)=some (CK c w) from ?_)]
 ·rfl
 refine eX (fun i=>((((dG c).take i).map (eZ c w)).foldl aff c.2.1,(i:Int))) (dG c).length _ (fun i hi=>?_) ?_
 ·have hm:=List.getElem?_eq_getElem hi
  obtain ⟨h1,h2,h3⟩:=mH h (wB (List.mem_of_getElem? hm))
  have hx:((dG c).map (dJ c))[i]?=some (up (su c (dG c)[i])):=by rw [List.getElem?_map,hm,h1];rfl
  have hr:oK (up (xK (su c (dG c)[i]) w))=some (eZ c w (dG c)[i]):=ahe h.hf (Iz (GD h.hf) h2 hw) (by rw [sw (by omega)];omega)
  unfold eP
  dsimp only
  rw [fq hx,ah (UA h.hf h2 hw (by omega) (by omega)),ah hr,Tre.aK,aV (by omega),List.take_add_one,hm,Option.toList_some,List.map_append,List.foldl_append]
  rfl
 ·unfold eP
  dsimp only
  have hl:((dG c).map (dJ c)).length=(dG c).length:=by simp
  rw [←hl,dY,Tre.aK,List.take_of_length_le (by omega)]
  rfl
theorem atU{f:TF3}(hf:aO f=true)(i:Nat)(l:List Int)(x:Int)(hx:l[i]?=some x)(hl:l.length≤1000):(H7 f ((i:Int),l)).run some=some (cond (decide (x=(qF f:Int)-1)) (.inl ((i:Int)-1,l.set i 0)) (.inr ((i:Int),l))):=by
 have hq:=Aa f
 have hil:=(List.getElem?_eq_some_iff.1 hx).1
 have hd:=dW hf
 have hc:dN f=some (qF f:Int):=by
  unfold dN pW
  rw [Tre.run_ite,if_pos (by omega),Tre.aK,show f.1=((f.1.toNat:Nat):Int) by omega,acU (by omega)]
  rfl
 have hqi:qF f≤32:=L9 (b:=f.1.toNat) (c:=5) (by omega)
 unfold H7
 dsimp only
 rw [Tre.aF,decide_eq_true (by omega),cond_true,eG hx,ah hc,dh (by omega) (by omega),Tre.aF]
 cases decide (x=(qF f:Int)-1)
 ·rfl
 ·rw [cond_true,cond_true,eG hx,Tre.aK,Int.toNat_natCast,dh (by omega) (by omega)]
theorem atT{f:TF3}(l:List Int):(H7 f (-1,l)).run some=some (.inr (-1,l)):=rfl
theorem apx{c:TRC}{n:Nat}{p:List Nat}(h:jJ c n p){K:Nat}(h10:K≤10){ws:List (List Int)}(I:List (List Int)→Int→Prop)(F:Int→List Int→Int)
  (hs:∀(pre:List (List Int))(m:List Int)(g:Int),m∈qO (qF c.1) K→pre.length<(qO (qF c.1) K).length→I pre g→fV m c ws g=some (F g m)∧I (pre++[m]) (F g m)) (g0:Int) (h0:I [] g0) :
  ∃g,Pj c.1 (K:Int) c ws g0=some g∧I (qO (qF c.1) K) g:=by
 have hq:=Aa c.1
 obtain ⟨st,hl,hI⟩:=adw (nx:=vk (qF c.1:Int)) (step:=WB (K:Int) c ws c.1) (fun (g:Int) (d:List Int)=>(g,d)) (fun g=>g) F I (all:=qO (qF c.1) K) (by
  intro pre d g hd hn hlt hI
  obtain ⟨hdl,hdv⟩:=(Hy _ _ _).1 hd
  obtain ⟨hcl,hI2⟩:=hs pre d g hd hlt hI
  refine ⟨?_,hI2⟩
  unfold WB
  dsimp only
  rw [ah hcl,dh (n:=(K:Int)-1) (by omega) (by omega)]
  have st4:=atU h.hf
  rcases Ph (qF c.1:Int) d with hd2|⟨zs,cc,k,hcc,hd2⟩
  ·rw [hdl] at hd2
   have h4:=X5 (step:=H7 c.1) (M:=(qF c.1:Int)) (N:=1000) atT st4 K 0 (by omega)
   rw [List.replicate_zero,List.append_nil,←hd2] at h4
   rw [ah h4,Tre.aF,decide_eq_true (show (-1:Int)<0 by decide),cond_true,Tre.aK]
   have:vk (qF c.1:Int) d=none:=by rw [hd2];exact Q6 _ _
   rw [this]
  ·have hlz:zs.length+k+1=K:=by rw [←hdl,hd2];simp;omega
   have h4:=X4 (step:=H7 c.1) (M:=(qF c.1:Int)) (N:=1000) (zs:=zs) st4 hcc k 0 (by omega)
   rw [List.replicate_zero,List.append_nil,←hd2,Nat.add_zero,show ((zs.length+k:Nat):Int)=(K:Int)-1 by omega] at h4
   have hqi:qF c.1≤32:=by have:=dW h.hf;exact L9 (b:=c.1.1.toNat) (c:=5) (by omega)
   obtain ⟨kk,hkk,hkl⟩:=hdv cc (by rw [hd2];simp)
   have hnx:vk (qF c.1:Int) d=some (zs++(cc+1)::List.replicate k 0):=by rw [hd2];exact YN _ _ hcc _ _
   have hat:(zs++cc::List.replicate k 0)[zs.length]?=some cc:=by simp
   have hset:(zs++cc::List.replicate k 0).set zs.length (cc+1)=zs++(cc+1)::List.replicate k 0:=by simp
   rw [ah h4]
   dsimp only
   rw [Tre.aF,decide_eq_false (by omega),cond_false,eG hat,eG hat,Tre.aK,Int.toNat_natCast,dh (n:=cc+1) (by omega) (by omega),hset,hnx]) (ahL hq K) [] g0 rfl (QZ _ _) h0
 refine ⟨st,?_,hI⟩
 unfold Pj ava
 rw [Tre.run_ite,if_pos ⟨rfl,by omega,rfl,by omega,by decide⟩,Int.toNat_natCast,ah hl,Tre.aK]
theorem alQ{c:TRC}{n:Nat}{p:List Nat}(h:jJ c n p)(hs:c.1.1*(c.2.2.1.length:Int)≤12)(hb:c.1.1*((c.2.2.1.length:Int)+n)>16):eB c=some (0,3):=by
 have h5:=h.h5
 have h10:=h.r10
 have hd:=dW h.hf
 have hp:c.1.1*((c.2.2.1.length:Int)+n)≤5*((c.2.2.1.length:Int)+n):=Int.mul_le_mul_of_nonneg_right hd.2 (by omega)
 unfold eB sI
 rw [ah (LD h hs),Tre.aF,decide_eq_true rfl,cond_true,Tre.aF,h.len,dh (n:=(c.2.2.1.length:Int)+(n:Int)) (by omega) (by omega),dh (by omega) (by omega),decide_eq_true hb]
 rfl
theorem aog{c:TRC}{n:Nat}{p:List Nat}(h:jJ c n p)(hs:c.1.1*(c.2.2.1.length:Int)≤12)(hml:(dG c).length≤10000)(hb:¬c.1.1*((c.2.2.1.length:Int)+n)>16) :
  ∃r,eB c=some (r,0)∧(∀w,inL (FOf c.1 h.hf) w→w.length=n→CK c w≤r)∧(r=0∨∃w,inL (FOf c.1 h.hf) w∧w.length=n∧r=CK c w):=by
 have h5:=h.h5
 have h10:=h.r10
 have hd:=dW h.hf
 have hp:0≤c.1.1*((c.2.2.1.length:Int)+n):=Int.mul_nonneg (by omega) (by omega)
 have hword:∀m∈qO (qF c.1) n,∃w:List Nat,m=up w∧inL (FOf c.1 h.hf) w∧w.length=n:=by
  intro m hm
  obtain ⟨h1,h2⟩:=(Hy _ _ _).1 hm
  have hin:∀x∈m,inF c.1 x:=fun x hx=>by
   obtain ⟨k,rfl,hk⟩:=h2 x hx
   unfold inF
   unfold qF at hk
   omega
  obtain ⟨w,rfl,hw⟩:=ahc h.hf hin
  exact ⟨w,rfl,hw,by rw [←ajl w];exact h1⟩
 have hmem:∀w,inL (FOf c.1 h.hf) w→w.length=n→up w∈qO (qF c.1) n:=fun w hw hl=>(Hy _ _ _).2 ⟨by rw [kJ,hl],fun x hx=>by
  obtain ⟨y,hy,rfl⟩:=List.mem_map.1 hx
  exact ⟨y,rfl,by have:=hw y hy;rwa [GD] at this⟩⟩
 let W:List Int→List Nat:=fun m=>m.map Int.toNat
 have hW:∀w:List Nat,W (up w)=w:=fun w=>up_toNat w
 obtain ⟨g,hg,hI⟩:=apx h (K:=n) (by omega) (ws:=(dG c).map (dJ c)) (fun pre g=>(∀m∈pre,CK c (W m)≤g)∧0≤g∧(g=0∨∃m∈pre,m∈qO (qF c.1) n∧g=CK c (W m))) (fun g m=>if g<CK c (W m) then CK c (W m) else g) (fun pre m g hm hlt hI=>by
  obtain ⟨w,rfl,hw,hwl⟩:=hword m hm
  rw [hW]
  refine ⟨ak6 h hml hw hwl g,fun m' hm'=>?_,?_,?_⟩
  ·rcases List.mem_append.1 hm' with h1|h1
   ·have:=hI.1 m' h1
    split<;>omega
   ·rw [List.mem_singleton] at h1
    subst h1
    rw [hW]
    split<;>omega
  ·have:=hI.2.1
   split<;>omega
  ·split
   ·exact .inr ⟨up w,by simp,hm,by rw [hW]⟩
   ·rcases hI.2.2 with h1|⟨m',h1,h2,h3⟩
    ·exact .inl h1
    ·exact .inr ⟨m',List.mem_append_left _ h1,h2,h3⟩) 0 ⟨fun m h=>absurd h List.not_mem_nil,Int.le_refl _,.inl rfl⟩
 refine ⟨g,?_,fun w hw hl=>?_,?_⟩
 ·unfold eB sI
  rw [ah (LD h hs),Tre.aF,decide_eq_true rfl,cond_true,Tre.aF,h.len,dh (n:=(c.2.2.1.length:Int)+(n:Int)) (by omega) (by omega),dh (by omega) (by omega),decide_eq_false hb,cond_false,Tre.aF,Bool.not_true,cond_false,ah (ajn h hs hml)]
  show (Tre.run (Tre.mat (Pj c.1 (n:Int) c ((dG c).map (dJ c)) 0) fun r7=>Tre.ret (r7,0)) some)=_
  rw [ah hg,Tre.aK]
 ·have:=hI.1 _ (hmem w hw hl)
  rwa [hW] at this
 ·rcases hI.2.2 with h1|⟨m,_,h2,h3⟩
  ·exact .inl h1
  ·obtain ⟨w,rfl,hw,hwl⟩:=hword m h2
   rw [hW] at h3
   exact .inr ⟨w,hw,hwl,h3⟩
def Ee:Env:=⟨tau,[(104,jR),(58,CG),(119,ZM),(75,aqw)],[(7,[((7,0),[],false)])]⟩
def Ub:FnI:=fnI Try.f44 []
def Bl (_:au):(Int×Int)→aA:=fun r=>⟨(.tcons (.i r.1) (.tcons (.i r.2) .tnil)),[],[]⟩
theorem Rq:∀(p0:au),bI Ee Ub ⟨[(.imm true aG p0)],[]⟩=(sI p0).run fun r=>some (Bl p0 r):=fun _=>by kernel_rfl
def Ua (av:List AV) (rs:List Root):Tre aA:=
 aB av fun a0_ av0=>
 aL av0<|
 aL rs<|
 aC true aG a0_ fun d1=>
 .mat (eB d1) fun r=>.ret (Bl d1 r)
def Ef:Ctr:=dD [] Ua
theorem Rs:Contract Try.prog .none 44 Ef:=aD (V:=Ee) aT (ak mO alo (ak J8 atg (ak agY auc (ak asu ap0 aI)))) Try.func44 bF fun _ _ _=>aH fun _ _=>bn<|bn<|aM fun _=>fun h=>by intros;subst_vars;exact bg (Rq _) h
def lX (xU:List Int) (xV:Int) (og:(List (List Int))) (vG:au):Int→Tre (Int ⊕ (Bool ⊕ Unit)):=fun s12=>
 .cond (decide (s12<(og.length:Int)))
  (.ite (0≤s12∧s12<(og.length:Int))<|
  .mat (og[s12.toNat]?) fun x8=>
  .mat (AB vG x8) fun r9=>
  .ite (0≤s12∧s12<(og.length:Int))<|
  .mat (og[s12.toNat]?) fun x10=>
  .mat (jk vG.1 x10 xU) fun r11=>
  .cond (!decide (r9.1=0))
   (.ret (.inr (.inl false)))
   (.cond (!decide (r11.2=0))
    (.ret (.inr (.inl false)))
    (.cond (!decide (r11.1=xV))
     (.ret (.inr (.inl false)))
     (.ret (.inl (aN .i64 (s12+1)))))))
  (.ret (.inr (.inr ())))
set_option maxHeartbeats 4000000 in
def acY (p0:List Int) (p1:List Int):Tre Bool:=
 .cond (xw p0)
  (.ret true)
  (.cond (xw p1)
   (.ret true)
   (.mat (Ig p0) fun r1=>
   .mat (l7 p1 r1.1 r1.2.1) fun r2=>
   .mat (ji r1 r2) fun r3=>
   .alt r3
    (fun a4=>
     .mat (jT r1 r2) fun r6=>
     .cond (!decide (a4.2.1=r6.2.2))
      (.ret false)
      (.cond (!decide (a4.1=r6.1))
       (.ret false)
       (.mat (EU a4.2.2 r6.2.1) fun r7=>
       .cond (!r7)
        (.ret false)
        (.cond (!decide (a4.2.1=0))
         (.ret (decide (a4.2.1=3)))
         (.mat (aP (lX r2 r6.1 r6.2.1 r1) 0) fun l12=>
         .alt l12
          (fun a13=>
           .ret a13)
          (fun _=>
           .mat (l7 p0 r1.1 (r1.2.2.1.length:Int)) fun r15=>
           .mat (pK r1 r15) fun r16=>
           .mat (jk r1.1 r16.1 r2) fun r17=>
           .mat (ji r1 r16.1) fun r18=>
           .alt r18
            (fun a19=>
             .mat (eB r1) fun r21=>
             .cond (!decide (r16.2=0))
              (.ret false)
              (.cond (!decide (r17.2=0))
               (.ret false)
               (.cond (decide (r17.1<r6.1))
                (.ret false)
                (.cond (decide ((r6.2.1.length:Int)<1))
                 (.ret false)
                 (.cond (!decide (a19.2.1=0))
                  (.ret false)
                  (.cond (!decide (a19.1=0))
                   (.ret false)
                   (.cond (!decide ((a19.2.2.length:Int)=1))
                    (.ret false)
                    (.ite (0≤(0:Int)∧(0:Int)<(a19.2.2.length:Int))<|
                    .mat (a19.2.2[0]?) fun _=>
                    .mat (a19.2.2[0]?) fun x23=>
                    .mat (rD x23 r16.1) fun r24=>
                    .cond (!r24)
                     (.ret false)
                     (.cond (!decide (r21.2=0))
                      (.ret (decide (r21.2=3)))
                      (.cond (decide (r6.1≤r21.1))
                       (.cond (decide (r21.1≤r1.2.1))
                        (.ret (decide (r21.1≤r1.1.1)))
                        (.ret false))
                       (.ret false)))))))))))
            (fun b20=>
             .mat (eB r1) fun r25=>
             .cond (!decide (r16.2=0))
              (.ret false)
              (.cond (!decide (r17.2=0))
               (.ret false)
               (.cond (decide (r17.1<r6.1))
                (.ret false)
                (.cond (decide ((r6.2.1.length:Int)<1))
                 (.ret false)
                 (.cond (!decide (b20.2.2=0))
                  (.ret false)
                  (.cond (!decide (b20.1=0))
                   (.ret false)
                   (.cond (!decide ((b20.2.1.length:Int)=1))
                    (.ret false)
                    (.ite ((0:Int)≤0∧(0:Int)<(b20.2.1.length:Int))<|
                    .mat (b20.2.1[0]?) fun x26=>
                    .mat (rD x26 r16.1) fun r27=>
                    .cond (!r27)
                     (.ret false)
                     (.cond (!decide (r25.2=0))
                      (.ret (decide (r25.2=3)))
                      (.cond (decide (r6.1≤r25.1))
                       (.cond (decide (r25.1≤r1.2.1))
                        (.ret (decide (r25.1≤r1.1.1)))
                        (.ret false))
                       (.ret false)))))))))))))))))
    (fun b5=>
     .mat (jT r1 r2) fun r28=>
     .cond (!decide (b5.2.2=r28.2.2))
      (.ret false)
      (.cond (!decide (b5.1=r28.1))
       (.ret false)
       (.mat (EU b5.2.1 r28.2.1) fun r29=>
       .cond (!r29)
        (.ret false)
        (.cond (!decide (b5.2.2=0))
         (.ret (decide (b5.2.2=3)))
         (.mat (aP (lX r2 r28.1 r28.2.1 r1) 0) fun l30=>
         .alt l30
          (fun a31=>
           .ret a31)
          (fun _=>
           .mat (l7 p0 r1.1 (r1.2.2.1.length:Int)) fun r33=>
           .mat (pK r1 r33) fun r34=>
           .mat (jk r1.1 r34.1 r2) fun r35=>
           .mat (ji r1 r34.1) fun r36=>
           .alt r36
            (fun a37=>
             .mat (eB r1) fun r39=>
             .cond (!decide (r34.2=0))
              (.ret false)
              (.cond (!decide (r35.2=0))
               (.ret false)
               (.cond (decide (r35.1<r28.1))
                (.ret false)
                (.cond (decide ((r28.2.1.length:Int)<1))
                 (.ret false)
                 (.cond (!decide (a37.2.1=0))
                  (.ret false)
                  (.cond (!decide (a37.1=0))
                   (.ret false)
                   (.cond (!decide ((a37.2.2.length:Int)=1))
                    (.ret false)
                    (.ite (0≤(0:Int)∧(0:Int)<(a37.2.2.length:Int))<|
                    .mat (a37.2.2[0]?) fun _=>
                    .mat (a37.2.2[0]?) fun x41=>
                    .mat (rD x41 r34.1) fun r42=>
                    .cond (!r42)
                     (.ret false)
                     (.cond (!decide (r39.2=0))
                      (.ret (decide (r39.2=3)))
                      (.cond (decide (r28.1≤r39.1))
                       (.cond (decide (r39.1≤r1.2.1))
                        (.ret (decide (r39.1≤r1.1.1)))
                        (.ret false))
                       (.ret false)))))))))))
            (fun b38=>
             .mat (eB r1) fun r43=>
             .cond (!decide (r34.2=0))
              (.ret false)
              (.cond (!decide (r35.2=0))
               (.ret false)
               (.cond (decide (r35.1<r28.1))
                (.ret false)
                (.cond (decide ((r28.2.1.length:Int)<1))
                 (.ret false)
                 (.cond (!decide (b38.2.2=0))
                  (.ret false)
                  (.cond (!decide (b38.1=0))
                   (.ret false)
                   (.cond (!decide ((b38.2.1.length:Int)=1))
                    (.ret false)
                    (.ite ((0:Int)≤0∧(0:Int)<(b38.2.1.length:Int))<|
                    .mat (b38.2.1[0]?) fun x44=>
                    .mat (rD x44 r34.1) fun r45=>
                    .cond (!r45)
                     (.ret false)
                     (.cond (!decide (r43.2=0))
                      (.ret (decide (r43.2=3)))
                      (.cond (decide (r28.1≤r43.1))
                       (.cond (decide (r43.1≤r1.2.1))
                        (.ret (decide (r43.1≤r1.1.1)))
                        (.ret false))
                       (.ret false)))))))))))))))))))
def UD (p0:List Int) (p1:List Int):Option Bool:=(acY p0 p1).run some
-- law
theorem aiG{xs:List Int}(h:(K.sl (.int .u8)).wf xs):∀x∈xs,0≤x∧x≤255:=fun x hx=>by
 have h1:(Lit.int .u8 x).wf=true:=h.2 x hx
 simp [Lit.wf,IntKind.min,IntKind.max,IntKind.signed,IntKind.bits] at h1
 omega
theorem CQ{ρ R:Type}{q:Prop} [Decidable q] {t e:Tre ρ} {c:ρ→Option R} (h:q):(Tre.cond (!decide q) t e).run c=e.run c:=by rw [Tre.aF,decide_eq_true h,Bool.not_true,cond_false]
theorem anA{ρ R:Type}{t e:Tre ρ}{c:ρ→Option R}:(Tre.cond (!true) t e).run c=e.run c:=rfl
theorem aqU{ρ R:Type}{q:Prop} [Decidable q] {t e:Tre ρ} {c:ρ→Option R} (h:¬q):(Tre.cond (decide q) t e).run c=e.run c:=by rw [Tre.aF,decide_eq_false h,cond_false]
theorem anB{ρ R:Type}{q:Prop} [Decidable q] {t e:Tre ρ} {c:ρ→Option R} (h:q):(Tre.cond (decide q) t e).run c=t.run c:=by rw [Tre.aF,decide_eq_true h,cond_true]
theorem abJ{α β ρ R:Type}{x:β}{f:α→Tre ρ}{g:β→Tre ρ}{c:ρ→Option R}:(Tre.alt (.inr x) f g).run c=(g x).run c:=rfl
theorem ahh(p0 p1:List Int)(h0:(K.sl (.int .u8)).wf p0)(h1:(K.sl (.int .u8)).wf p1):UD p0 p1=some true:=by
 unfold UD acY
 rw [Tre.aF]
 by_cases hb0:xw p0=true
 ·rw [hb0];rfl
 rw [Bool.not_eq_true] at hb0
 rw [hb0,cond_false,Tre.aF]
 by_cases hb1:xw p1=true
 ·rw [hb1];rfl
 rw [Bool.not_eq_true] at hb1
 rw [hb1,cond_false]
 have hl0:p0.length≤5000:=by unfold xw at hb0;simp at hb0;omega
 have hl1:p1.length≤5000:=by unfold xw at hb1;simp at hb1;omega
 have hy0:=aiG h0
 have hy1:=aiG h1
 obtain ⟨c,hc,⟨n,p,hP⟩,hc4,hc2⟩:=aoE hl0 hy0
 have hdc:=dW hP.hf
 have hn1:=hP.h1
 have hn5:=hP.h5
 have hprod:c.1.1*(c.2.2.1.length:Int)≤8:=by
  have:c.1.1*(c.2.2.1.length:Int)≤4*(c.2.2.1.length:Int):=Int.mul_le_mul_of_nonneg_right hc4 (by omega)
  omega
 have hq:qF c.1 ^ c.2.2.1.length≤256:=by
  have h1:qF c.1≤16:=L9 (b:=c.1.1.toNat) (c:=4) (by omega)
  have h2:qF c.1 ^ c.2.2.1.length≤qF c.1 ^ 2:=Nat.pow_le_pow_right (Aa _) hc2
  have h3:qF c.1 ^ 2≤16 ^ 2:=Nat.pow_le_pow_left h1 2
  omega
 have hml:(dG c).length=qF c.1 ^ c.2.2.1.length:=ahj _ _
 have hne:dG c≠[]:=fun he=>by
  have h2:(dG c).length=0:=by rw [he];rfl
  have:=Nat.pow_pos (n:=c.2.2.1.length) (Aa c.1)
  omega
 obtain ⟨W,hW,hWl,hWi⟩:=ady hl1 hy1 hP.hf (M:=n) hn1 (by omega)
 obtain ⟨w,rfl,hw⟩:=ahc hP.hf hWi
 rw [ajl] at hWl
 obtain ⟨⟨mD,hmD,hDm⟩,hDle,hDf⟩:=am3 (QK c w) hne
 rw [ah hc,hP.len,ah hW]
 have hnw:=ZW hP (by omega) (by omega) hw hWl
 have hsn:=akE hP (by omega) hw hWl
 rw [ah (show ji c (Wd w)=some _ from hnw),abJ,ah (show jT c (Wd w)=some _ from hsn)]
 dsimp only
 generalize hV:BO (eZ c w) (dG c)=V at hDm hDle hDf ⊢
 have hLm:∀m∈V.2,m∈dG c∧eZ c w m=V.1:=fun m hm=>by
  rw [hDf] at hm
  have:=List.mem_filter.1 hm
  exact ⟨this.1,of_decide_eq_true this.2⟩
 have hLl:V.2.length≤256:=by
  rw [hDf]
  exact Nat.le_trans (List.length_filter_le _ _) (by omega)
 have hL1:1≤V.2.length:=by
  have:mD∈V.2:=by rw [hDf];exact List.mem_filter.2 ⟨hmD,decide_eq_true hDm⟩
  exact List.length_pos_of_mem this
 rw [CQ rfl,CQ rfl,ah (an8 (by rw [List.length_map];omega) fun r hr=>by
  obtain ⟨m,hm,rfl⟩:=List.mem_map.1 hr
  have:=(abN hP (wB (hLm m hm).1)).1
  omega),anA,CQ rfl]
 have hdist:∀m∈dG c,jk c.1 (dJ c m) (Wd w)=some (eZ c w m,0):=fun m hm=>by
  obtain ⟨h1,h2,h3⟩:=mH hP (wB hm)
  rw [←h1]
  exact ahg hP.hf h2 hw (by omega) (by omega) (by omega)
 have hloop:aP (lX (Wd w) V.1 (V.2.map (dJ c)) c) 0=some (.inr ()):=by
  refine eX (fun i=>(i:Int)) V.2.length _ (fun i hi=>?_) ?_
  ·have hm:=List.getElem?_eq_getElem hi
   have hmm:=hLm _ (List.mem_of_getElem? hm)
   have hx:(V.2.map (dJ c))[i]?=some (dJ c V.2[i]):=by rw [List.getElem?_map,hm];rfl
   unfold lX
   rw [fq hx,ah (aji hP (wB hmm.1)),eG hx,ah (hdist _ hmm.1)]
   dsimp only
   rw [CQ rfl,CQ rfl,CQ hmm.2,Tre.aK,aV (by omega)]
  ·unfold lX
   have hl:(V.2.map (dJ c)).length=V.2.length:=by simp
   rw [←hl,dY,Tre.aK]
 rw [ah hloop,abJ]
-- a word of the code itself
 obtain ⟨m0,hm0,hok0⟩:∃m0,l7 p0 c.1 (c.2.2.1.length:Int)=some m0∧okV c.1 c.2.2.1.length m0:=by
  rcases Nat.eq_zero_or_pos c.2.2.1.length with hz|hz
  ·exact ⟨[],by rw [hz];exact ahE hl0 hy0 hP.hf,by rw [hz];exact ⟨rfl,fun x hx=>by cases hx⟩⟩
  ·obtain ⟨r,hr,hrl,hri⟩:=ady hl0 hy0 hP.hf (M:=c.2.2.1.length) hz (by omega)
   exact ⟨r,hr,hrl,hri⟩
 have hm0m:=auU hok0
 obtain ⟨e1,e2,e3⟩:=mH hP hok0
 rw [ah hm0,ah (aia hP hok0)]
 dsimp only
 rw [ah (hdist m0 hm0m)]
 have hnw2:=ZW hP (by omega) (by omega) e2 e3
 rw [e1] at hnw2
 rw [ah hnw2,abJ]
 obtain ⟨⟨mE,hmE,hEm⟩,hEle,hEf⟩:=am3 (QK c (su c m0)) hne
 have hself:eZ c (su c m0) m0=0:=by
  have:=agO (an6 (apa (u:=su c m0)))
  unfold eZ rkN
  rw [this];rfl
 have hzero:(BO (eZ c (su c m0)) (dG c)).1=0:=by
  have h1:=hEle m0 hm0m
  have h2:=QK c (su c m0) mE
  omega
 have hone:(BO (eZ c (su c m0)) (dG c)).2=[m0]:=by
  rw [hEf,hzero]
  refine filter_one (QZ _ _) hm0m fun x hx=>?_
  rw [decide_eq_true_eq]
  refine ⟨fun h=>?_,fun h=>by rw [h];exact hself⟩
  have hx':=wB hx
  obtain ⟨_,b2,b3⟩:=mH hP hx'
  have hr0:rkN (xK (su c x) (su c m0))=0:=by unfold eZ at h;omega
  have hz:=asz hP.hf (Iz (GD hP.hf) b2 e2) (by rw [sw (by omega)];omega) hr0
  exact word_inj hP hx' hok0 (ata (by omega) hz)
 rw [hzero,hone]
 dsimp only
 have hx0:=hDle m0 hm0m
 have hmap:List.map (dJ c) [m0]=[dJ c m0]:=rfl
 rw [hmap]
 obtain ⟨r,hr,hrr⟩:∃r:Int×Int,eB c=some r∧(r.2=3∨(r.2=0∧V.1≤r.1∧r.1≤(n:Int)∧r.1≤c.1.1)):=by
  by_cases hb:c.1.1*((c.2.2.1.length:Int)+n)>16
  ·exact ⟨(0,3),alQ hP (by omega) hb,.inl rfl⟩
  ·obtain ⟨r,h1,h2,h3⟩:=aog hP (by omega) (by omega) hb
   refine ⟨(r,0),h1,.inr ⟨rfl,?_,?_,?_⟩⟩
   ·have h4:=h2 w hw hWl
    have h5:V.1≤CK c w:=by
     unfold CK
     refine asc _ _ ?_ fun d hd=>?_
     ·have hx:=aqS hP.hf (Iz (GD hP.hf) (mH hP (wB hmD)).2.1 hw) (by rw [sw (by have:=(mH hP (wB hmD)).2.2;omega)];have:=(mH hP (wB hmD)).2.2;omega)
      have hxl:=sw (u:=su c mD) (w:=w) (by have:=(mH hP (wB hmD)).2.2;omega)
      have:=(mH hP (wB hmD)).2.2
      rw [hP.len,←hDm]
      unfold eZ
      omega
     ·obtain ⟨m,hm,rfl⟩:=List.mem_map.1 hd
      exact hDle m hm
    exact Int.le_trans h5 h4
   ·rcases h3 with h3|⟨w',hw',hl',h3⟩
    ·show r≤_;omega
    ·show r≤_
     rw [h3]
     have:=(am2 ((dG c).map (eZ c w')) c.2.1).1
     rw [hP.len] at this
     unfold CK
     rw [hP.len]
     exact this
   ·rcases h3 with h3|⟨w',hw',hl',h3⟩
    ·show r≤_;omega
    ·show r≤_
     rw [h3]
     have h6:=(am2 ((dG c).map (eZ c w')) c.2.1).2 _ (List.mem_map.2 ⟨m0,hm0m,rfl⟩)
     have h7:=(aqS hP.hf (Iz (GD hP.hf) e2 hw') (by rw [sw (by omega)];omega)).1
     have h8:eZ c w' m0≤c.1.1:=by unfold eZ;omega
     exact Int.le_trans h6 h8
 rw [ah hr,CQ rfl,CQ rfl,aqU (by omega),aqU (by rw [List.length_map];omega),CQ rfl,CQ rfl,CQ (show (([dJ c m0]:List (List Int)).length:Int)=1 from rfl),Tre.run_ite,if_pos (by simp),ah (show [dJ c m0][0]?=some (dJ c m0) from rfl),ah (afX (by have:=(abN hP hok0).1;omega)),anA]
 rcases hrr with hr3|⟨h1,h2,h3,h4⟩
 ·have h30:¬r.2=0:=by omega
  rw [Tre.aF,decide_eq_false h30,Bool.not_false,cond_true,Tre.aK,decide_eq_true hr3]
 ·rw [CQ h1,anB h2,anB h3,Tre.aK,decide_eq_true h4]
def LH:Env:=⟨tau,[(35,af9),(36,aah),(37,aaj),(38,JK),(39,Ie),(40,ac5),(41,SC),(42,J3),(43,Nb),(44,Ef),(45,UF)],[]⟩
def acZ:Code:=(Try.f6.body).getD .skip
def CJ (aaH:Bool) (GQ:List Int) (xU:List Int) (xV:Int) (og:(List (List Int))) (vG:au):Int→St:=fun x=>bR [(0,(.imm aaH (.sl (.int .u8)) GQ)),(5,(.ptr (7,0) [])),(6,(.imm true .il xU)),(10,(.i xV)),(11,(.imm true (.sl .il) og)),(13,(.i x))] [((7,0),some ⟨true,aG,(.imm true),vG⟩)]
def sO (aaH:Bool) (GQ:List Int) (xU:List Int) (xV:Int) (og:(List (List Int))) (vG:au):(Bool ⊕ Unit)→Ex×St
 |.inl x=>(.ret,bR [(0,(.imm aaH (.sl (.int .u8)) GQ)),(4,(.imm true .bool x)),(5,(.ptr (7,0) [])),(6,(.imm true .il xU)),(10,(.i xV)),(11,(.imm true (.sl .il) og))] [((7,0),some ⟨true,aG,(.imm true),vG⟩)])
 |.inr _=>(.exit 0,bR [(0,(.imm aaH (.sl (.int .u8)) GQ)),(4,.dead),(5,(.ptr (7,0) [])),(6,(.imm true .il xU)),(10,(.i xV)),(11,(.imm true (.sl .il) og))] [((7,0),some ⟨true,aG,(.imm true),vG⟩)])
def Pg (s:St):Tre (Ex×St):=
 bE (.sl (.int .u8)) (s.tmps 0) fun z3 d2=>
 dB (7,0) [] (s.tmps 5)<|
 aC true .il (s.tmps 6) fun d6=>
 aC true .n (s.tmps 10) fun d8=>
 aC true (.sl .il) (s.tmps 11) fun d10=>
 aC true .n (s.tmps 13) fun d12=>
 aW true aG (s.roots (7,0)) fun m14 d15=>
 asM (.imm true) m14<|
 .mat (aP (lX d6 d8 d10 d15) d12) fun x=>.alt x (fun a0=>.ret (sO z3 d2 d6 d8 d10 d15 (.inl a0))) (fun b0=>.ret (sO z3 d2 d6 d8 d10 d15 (.inr b0)))
def rC:bB:=⟨([0,5,6,10,11,13],[(7,0)]),([0,4,5,6,10,11],[(7,0)]),Pg⟩
def UC:List (Nat×bB):=[(12,rC)]
theorem Wj:∀(aaH:Bool)(GQ xU:List Int)(xV:Int)(og:(List (List Int)))(vG:au)(x:Int)(c:St→Option (Ex×St)),den LH UC (aU acZ 0) (CJ aaH GQ xU xV og vG x) (bY rC.kp rC.kx c)=(lX xU xV og vG x).run (bZ (CJ aaH GQ xU xV og vG) (sO aaH GQ xU xV og vG) c):=fun _ _ _ _ _ _ _ _=>by
 kernel_rfl
theorem aa3:bP LH UC (aU acZ 0) rC:=gF fun s e s' h=>by
 generalize hs:restrict rC.kp s=s1 at h
 have h:(Pg s1).run some=some (e,s'):=h
 obtain ⟨z3,d2,e1,h_0⟩:=dO h
 obtain ⟨e4,h_1⟩:=KP h_0
 obtain ⟨d6,e5,h_2⟩:=bQ h_1
 obtain ⟨d8,e7,h_3⟩:=bQ h_2
 obtain ⟨d10,e9,h_4⟩:=bQ h_3
 obtain ⟨d12,e11,h_5⟩:=bQ h_4
 obtain ⟨m14,d15,e13,h_6⟩:=jw h_5
 obtain ⟨rfl,h_7⟩:=uK h_6
 obtain ⟨y,hy,hz⟩:=jd h_7
 refine ⟨_,_,CJ z3 d2 d6 d8 d10 d15,sO z3 d2 d6 d8 d10 d15,lX d6 d8 d10 d15,d12,y,?_,hy,?_,Wj z3 d2 d6 d8 d10 d15⟩
 ·subst hs;exact aR (T:=[(0,(.imm z3 (.sl (.int .u8)) d2)),(5,(.ptr (7,0) [])),(6,(.imm true .il d6)),(10,(.i d8)),(11,(.imm true (.sl .il) d10)),(13,(.i d12))]) (U:=[((7,0),some ⟨true,aG,(.imm true),d15⟩)]) rfl rfl ⟨e1,e4,e5,e7,e9,e11,trivial⟩ ⟨e13,trivial⟩
 ·rcases y with x|x<;>exact Option.some.inj hz
def alW:FnI:=fnI Try.f6 UC
def Wm (_:Bool) (_:Bool) (_:List Int) (_:List Int):Bool→aA:=fun r=>⟨(.imm true .bool r),[],[]⟩
theorem ajp:∀(zp0 zp1:Bool)(p0 p1:List Int),bI LH alW ⟨[(.imm zp0 (.sl (.int .u8)) p0),(.imm zp1 (.sl (.int .u8)) p1)],[]⟩=(acY p0 p1).run fun r=>some (Wm zp0 zp1 p0 p1 r):=fun _ _ _ _=>by kernel_rfl
def alV (av:List AV) (rs:List Root):Tre aA:=
 aB av fun a0_ av0=>
 aB av0 fun a1_ av1=>
 aL av1<|
 aL rs<|
 bE (.sl (.int .u8)) a0_ fun z2 d1=>
 bE (.sl (.int .u8)) a1_ fun z4 d3=>
 .mat (UD d1 d3) fun r=>.ret (Wm z2 z4 d1 d3 r)
def alX:Ctr:=dD [] alV
theorem ajq:Contract Try.prog .none 6 alX:=aD (V:=LH) aT (ak alZ avZ (ak ahN av4 (ak ahP av5 (ak VR av6 (ak UZ av7 (ak ajt av8 (ak acv av9 (ak VU awc (ak Y6 awd (ak Rs awe (ak Z0 atf aI))))))))))) Try.func6 (bJ (n:=1) fun k hk=>by
 match k,hk with
 |0,_=>exact bM (id:=12) aa3) fun _ _ _=>aH fun _ _=>aH fun _ _=>bn<|bn<|dI fun _ _=>dI fun _ _=>fun h=>by intros;subst_vars;exact bg (ajp _ _ _ _) h
end Go.Proofs.Ytldafhnnnabipaa
