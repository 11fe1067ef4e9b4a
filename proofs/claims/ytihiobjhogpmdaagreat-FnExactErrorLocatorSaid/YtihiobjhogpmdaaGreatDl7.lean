/- Part 7 of the proof of FnExactErrorLocator. -/
import Derived.Test.YtihiobjhogpmdaaGreatDl6
set_option maxRecDepth 100000
noncomputable section
namespace Go.Proofs.YtihiobjhogpmdaaGreat
open Go Go.Abs Go.Proofs
def Jz (p0:aM) (p1:List Int):Tre (Int×(List Int)):=
 .mat (pG p0 p1) fun r1=>
 .cond (!decide (r1.2.1=0))
  (.ret (r1.2.1,[]))
  (.mat (iY p0 r1.2.2) fun r2=>
  .mat (Jo p1 r2) fun r3=>
  .mat (nk p0.1 r3) fun r4=>
  .ret (0,r4))
def pW (p0:aM) (p1:List Int):Option (Int×(List Int)):=(Jz p0 p1).run some
-- more
theorem awD(g:TF3×List Int×Int×Unit)(w:List Int)(hw:w.length≤1048576):∃y:Int×List Int,xR g w=some y∧pW g w=some y∧y.2.length≤10:=by
 have hi0:=awo g w hw
 unfold xR KM pW Jz
 rw [ah (axb g w hw),ah hi0,Tre.aG,Tre.aG]
 rcases aiH g w with h|⟨hf,P,W,k,hg,rfl,hi,hP,hW,hl,hn,hk1,hk2,h0⟩
 ·refine ⟨(HV g w,[]),by rw [decide_eq_false h];rfl,?_,by simp⟩
  rw [amk h]
  dsimp only
  rw [decide_eq_false h]
  rfl
 ·obtain ⟨f,g2⟩:=g
  dsimp only at hf hg hP hW h0
  simp only [Prod.mk.injEq,true_and] at hg
  subst hg
  rw [h0,decide_eq_true rfl,Bool.not_true,cond_false]
  rcases asw hf hi hP hW hl (by omega) hk1 hk2 with ⟨m,h1,h2⟩|⟨h1,h2⟩
  ·have hnear:=ami h1
   have hml:=hnear.1
   have hel:=(FOf f hf).Jv (m:=m) hl
   have hei:=(FOf f hf).aa9 (pts:=P) (m:=m) hW
   obtain ⟨_,hal,_,_⟩:=anp (FOf f hf) ((FOf f hf).Bb P W m)
   refine ⟨(0,aS (CG (FOf f hf) ((FOf f hf).Bb P W m))),?_,?_,by rw [aW];omega⟩
   ·rw [ah h2,Tre.atE,Tre.aG,Bool.not_true,cond_false,ah (aq3 hf hnear.2.1 (by omega) hP (by omega) _),ah (aw6 hf hW hl (by omega)),ah (auT hf hei (by omega)),Tre.aK]
   ·rw [amm h0 (by omega) h1]
    dsimp only
    rw [decide_eq_true rfl,Bool.not_true,cond_false,ah (aaj hf hnear.2.1 (by omega) hP (by omega) _),ah (aek hf hW hl (by omega)),ah (axQ hf hei (by omega)),Tre.aK]
  ·refine ⟨(6,[]),by rw [ah h2];rfl,?_,by simp⟩
   rw [aml h0 h1]
   rfl
def Dr:Env:=⟨tau,[(11,H7),(35,og),(34,Xy),(40,CS)],[]⟩
def OW:Code:=(Tryz.f18.body).getD .skip
def OV:FnI:=⟨OW,Tryz.f18.results.toList,Tryz.f18.resultTypes.toList,[]⟩
def JA (_zp0:Bool) (_zp1:Bool) (_p0:aM) (_p1:List Int):(Int×(List Int))→aB:=fun r=>⟨(.tcons (.ref (1,0) []) (.tcons (.imm true (.int .i64) r.1) .tnil)),[],[⟨false,(.sl (.int .i64)),.own,r.2⟩]⟩
theorem abg:∀(zp0:Bool)(zp1:Bool)(p0:aM)(p1:List Int),bN Dr OV ⟨[(.imm zp0 aX p0),(.imm zp1 (.sl (.int .i64)) p1)],[]⟩=(Jz p0 p1).run fun r=>some (JA zp0 zp1 p0 p1 r):=fun _ _ _ _=>by kernel_rfl
def OU (av:List AV) (rs:List Root):Tre aB:=
 aJ av fun a0_ av0=>
 aJ av0 fun a1_ av1=>
 aU av1<|
 aU rs<|
 bE aX a0_ fun z2 d1=>
 bE (.sl (.int .i64)) a1_ fun z4 d3=>
 .mat (pW d1 d3) fun r=>.ret (JA z2 z4 d1 d3 r)
def OX:Ctr:=⟨[],fun ci=>OU ci.args ci.roots,false⟩
theorem ZR:bM Tryz.prog .none Dr:=(aA UM aA6 (aA uS avX (aA Z8 avW (aA QL aBl aN))))
theorem abh:Contract Tryz.prog .none 18 OX:=by
 have hl:aZ Dr [] OW:=bB (by kernel_rfl)
 refine (aI (F:=OV) bg ZR Tryz.func18 (by kernel_rfl) (by kernel_rfl) (by kernel_rfl) hl []).weaken ?_
 rintro ⟨av,rs⟩ co h
 have h:(OU av rs).run some=some co:=h
 obtain ⟨a0_,av0,rfl,h_0⟩:=au h
 obtain ⟨a1_,av1,rfl,h_1⟩:=au h_0
 obtain ⟨rfl,h_2⟩:=ay h_1
 obtain ⟨rfl,h_3⟩:=ay h_2
 obtain ⟨z2,d1,rfl,h_4⟩:=aD h_3
 obtain ⟨z4,d3,rfl,h_5⟩:=aD h_4
 exact bJ (abg z2 z4 d1 d3) h_5
def um (h4_0_0:List Int) (h4_0_1:List Int):Int→Tre (Int ⊕ (Bool ⊕ Unit)):=fun s4=>
 .cond (decide (s4<(h4_0_0.length:Int)))
  (.ite (0≤s4∧s4<(h4_0_0.length:Int))<|
  .mat (h4_0_0[s4.toNat]?) fun x1=>
  .ite (0≤s4∧s4<(h4_0_1.length:Int))<|
  .mat (h4_0_1[s4.toNat]?) fun x2=>
  .cond (!decide (x1=x2))
   (.ret (.inr (.inl false)))
   (.ret (.inl (aP .i64 (s4+1)))))
  (.ret (.inr (.inr ())))
def aal (p0:List Int) (p1:List Int):Tre Bool:=
 .cond (!decide ((p0.length:Int)=(p1.length:Int)))
  (.ret false)
  (.mat (aR (um p0 p1) 0) fun l3=>
  .alt l3
   (fun a4=>
    .ret a4)
   (fun _=>
    .ret true))
def abU (p0:List Int) (p1:List Int):Option Bool:=(aal p0 p1).run some
abbrev eqS(p0 p1:List Int):Option Bool:=eqR p0.length p0 p1
theorem ahz(p0 p1:List Int)(y:Bool)(h:eqR p0.length p0 p1=some y):abU p0 p1=some y:=by
 obtain ⟨hl,rfl,rfl⟩:=av7 h
 unfold abU aal
 rw [Tre.aG,show (!decide ((p0.length:Int)=(p0.length:Int)))=false from by simp,cond_false,Tre.oF,OT (xs:=p0) (fun _ _=>none) (.inr ())]
 ·have:∀(l:List Int)(i:Nat),UG (β:=Bool ⊕ Unit) (fun _ _=>none) (.inr ()) i l=.inr ():=by
   intro l
   induction l with
   |nil=>intro i;rfl
   |cons x l ih=>intro i;exact ih _
  rw [this]
  rfl
 ·intro i x hx
  have hi:i<p0.length:=(List.getElem?_eq_some_iff.1 hx).1
  unfold um
  rw [dP hx,dF hx,Tre.aG]
  simp only [decide_true,Bool.not_true,cond_false,Tre.aK,aV (show i<4611686018427387904 by omega)]
 ·unfold um
  exact dw
def BI:Env:=⟨tau,[],[]⟩
def IY:Code:=(Tryz.f12.body).getD .skip
def DR (z4_0:Bool) (z4_1:Bool) (h4_0_0:List Int) (h4_0_1:List Int):Int→St:=fun x=>bR [(0,(.imm z4_0 (.sl (.int .i64)) h4_0_0)),(1,(.imm z4_1 (.sl (.int .i64)) h4_0_1)),(5,(.imm true (.int .i64) x))] []
def vE (_z4_0:Bool) (_z4_1:Bool) (_h4_0_0:List Int) (_h4_0_1:List Int):(Bool ⊕ Unit)→Ex×St
 |.inl x=>(.ret,bR [(4,(.imm true .bool x))] [])
 |.inr _=>(.exit 0,bR [(4,.dead)] [])
def SI (s:St):Tre (Ex×St):=
 bE (.sl (.int .i64)) (s.tmps 0) fun z3 d2=>
 bE (.sl (.int .i64)) (s.tmps 1) fun z6 d5=>
 aC true (.int .i64) (s.tmps 5) fun d8=>
 .mat (aR (um d2 d5) d8) fun x=>.alt x (fun a0=>.ret (vE z3 z6 d2 d5 (.inl a0))) (fun b0=>.ret (vE z3 z6 d2 d5 (.inr b0)))
def nO:bK:=⟨([0,1,5],[]),([4],[]),SI⟩
def IX:List (Nat×bK):=[(4,nO)]
theorem aam:∀(z4_0:Bool)(z4_1:Bool)(h4_0_0:List Int)(h4_0_1:List Int)(x:Int)(c:St→Option (Ex×St)),den BI IX (aY IY 0) (DR z4_0 z4_1 h4_0_0 h4_0_1 x) (bU nO.kp nO.kx c)=(um h4_0_0 h4_0_1 x).run (bV (DR z4_0 z4_1 h4_0_0 h4_0_1) (vE z4_0 z4_1 h4_0_0 h4_0_1) c):=fun _ _ _ _ _ _=>by
 kernel_rfl
theorem aep:bS BI IX (aY IY 0) nO:=bA fun s e s' h=>by
 generalize hs:restrict nO.kp s=s1 at h
 have h:(SI s1).run some=some (e,s'):=h
 obtain ⟨z3,d2,e1,h_0⟩:=aD h
 obtain ⟨z6,d5,e4,h_1⟩:=aD h_0
 obtain ⟨d8,e7,h_2⟩:=ak h_1
 obtain ⟨y,hy,hz⟩:=jR h_2
 refine ⟨_,_,DR z3 z6 d2 d5,vE z3 z6 d2 d5,um d2 d5,d8,y,?_,hy,?_,aam z3 z6 d2 d5⟩
 ·subst hs;exact aT (T:=[(0,(.imm z3 (.sl (.int .i64)) d2)),(1,(.imm z6 (.sl (.int .i64)) d5)),(5,(.imm true (.int .i64) d8))]) (U:=[]) rfl rfl ⟨e1,e4,e7,trivial⟩ trivial
 ·rcases y with x|x<;>exact Option.some.inj hz
def abW:FnI:=⟨IY,Tryz.f12.results.toList,Tryz.f12.resultTypes.toList,IX⟩
def Vw (_zp0:Bool) (_zp1:Bool) (_p0:List Int) (_p1:List Int):Bool→aB:=fun r=>⟨(.imm true .bool r),[],[]⟩
theorem alo:∀(zp0:Bool)(zp1:Bool)(p0:List Int)(p1:List Int),bN BI abW ⟨[(.imm zp0 (.sl (.int .i64)) p0),(.imm zp1 (.sl (.int .i64)) p1)],[]⟩=(aal p0 p1).run fun r=>some (Vw zp0 zp1 p0 p1 r):=fun _ _ _ _=>by kernel_rfl
def abV (av:List AV) (rs:List Root):Tre aB:=
 aJ av fun a0_ av0=>
 aJ av0 fun a1_ av1=>
 aU av1<|
 aU rs<|
 bE (.sl (.int .i64)) a0_ fun z2 d1=>
 bE (.sl (.int .i64)) a1_ fun z4 d3=>
 .mat (eqS d1 d3) fun r=>.ret (Vw z2 z4 d1 d3 r)
def Rf:Ctr:=⟨[],fun ci=>abV ci.args ci.roots,false⟩
theorem ajA:bM Tryz.prog .none BI:=aN
theorem YX:Contract Tryz.prog .none 12 Rf:=by
 have hl:aZ BI IX IY:=(bC (n:=1) (by kernel_rfl) fun k hk=>by
   match k,hk with
   |0,_=>exact bq (id:=4) (L:=nO) (by kernel_rfl) (by kernel_rfl) aep)
 refine (aI (F:=abW) bg ajA Tryz.func12 (by kernel_rfl) (by kernel_rfl) (by kernel_rfl) hl []).weaken ?_
 rintro ⟨av,rs⟩ co h
 have h:(abV av rs).run some=some co:=h
 obtain ⟨a0_,av0,rfl,h_0⟩:=au h
 obtain ⟨a1_,av1,rfl,h_1⟩:=au h_0
 obtain ⟨rfl,h_2⟩:=ay h_1
 obtain ⟨rfl,h_3⟩:=ay h_2
 obtain ⟨z2,d1,rfl,h_4⟩:=aD h_3
 obtain ⟨z4,d3,rfl,h_5⟩:=aD h_4
 exact xg (alo z2 z4 d1 d3) (ahz d1 d3) h_5
def amJ (p0:(Int×(Int×Unit))) (p1:(Int×(Int×Unit))):Tre Bool:=
 .cond (!decide (p0.1=p1.1))
  (.ret false)
  (.cond (!decide (p0.2.1=p1.2.1))
   (.ret false)
   (.ret true))
def ap1 (p0:(Int×(Int×Unit))) (p1:(Int×(Int×Unit))):Option Bool:=(amJ p0 p1).run some
def FY(p0:(Int×(Int×Unit)))(p1:(Int×(Int×Unit))):Bool:=
 cond (!decide (p0.1=p1.1))
  (false)
  (cond (!decide (p0.2.1=p1.2.1))
   (false)
   (true))
theorem ajz(p0:(Int×(Int×Unit)))(p1:(Int×(Int×Unit))):ap1 p0 p1=some (FY p0 p1):=(EF rfl (EF rfl rfl))
def Vv:Env:=⟨tau,[],[]⟩
def af5:Code:=(Tryz.f36.body).getD .skip
def af4:FnI:=⟨af5,Tryz.f36.results.toList,Tryz.f36.resultTypes.toList,[]⟩
def YW (_p0:(Int×(Int×Unit))) (_p1:(Int×(Int×Unit))):Bool→aB:=fun r=>⟨(.imm true .bool r),[],[]⟩
theorem an2:∀(p0:(Int×(Int×Unit)))(p1:(Int×(Int×Unit))),bN Vv af4 ⟨[(.imm true aL p0),(.imm true aL p1)],[]⟩=(amJ p0 p1).run fun r=>some (YW p0 p1 r):=fun _ _=>by kernel_rfl
def af3 (av:List AV) (rs:List Root):Tre aB:=
 aJ av fun a0_ av0=>
 aJ av0 fun a1_ av1=>
 aU av1<|
 aU rs<|
 aC true aL a0_ fun d1=>
 aC true aL a1_ fun d2=>
 .ret (YW d1 d2 (FY d1 d2))
def af6:Ctr:=⟨[],fun ci=>af3 ci.args ci.roots,false⟩
theorem aln:bM Tryz.prog .none Vv:=aN
theorem an3:Contract Tryz.prog .none 36 af6:=by
 have hl:aZ Vv [] af5:=bB (by kernel_rfl)
 refine (aI (F:=af4) bg aln Tryz.func36 (by kernel_rfl) (by kernel_rfl) (by kernel_rfl) hl []).weaken ?_
 rintro ⟨av,rs⟩ co h
 have h:(af3 av rs).run some=some co:=h
 obtain ⟨a0_,av0,rfl,h_0⟩:=au h
 obtain ⟨a1_,av1,rfl,h_1⟩:=au h_0
 obtain ⟨rfl,h_2⟩:=ay h_1
 obtain ⟨rfl,h_3⟩:=ay h_2
 obtain ⟨d1,rfl,h_4⟩:=ak h_3
 obtain ⟨d2,rfl,h_5⟩:=ak h_4
 exact xq (an2 d1 d2) (ajz d1 d2) h_5
def Ot (p0:aM) (p1:aM):Tre Bool:=
 .cond (!(FY p0.1 p1.1))
  (.ret false)
  (.mat (eqS p0.2.1 p1.2.1) fun r1=>
  .cond (!r1)
   (.ret false)
   (.cond (!decide (p0.2.2.1=p1.2.2.1))
    (.ret false)
    (.ret true)))
def zF (p0:aM) (p1:aM):Option Bool:=(Ot p0 p1).run some
def GI:Env:=⟨tau,[(36,af6),(12,Rf)],[]⟩
def SG:Code:=(Tryz.f13.body).getD .skip
def SF:FnI:=⟨SG,Tryz.f13.results.toList,Tryz.f13.resultTypes.toList,[]⟩
def MQ (_zp0:Bool) (_zp1:Bool) (_p0:aM) (_p1:aM):Bool→aB:=fun r=>⟨(.imm true .bool r),[],[]⟩
theorem aen:∀(zp0:Bool)(zp1:Bool)(p0:aM)(p1:aM),bN GI SF ⟨[(.imm zp0 aX p0),(.imm zp1 aX p1)],[]⟩=(Ot p0 p1).run fun r=>some (MQ zp0 zp1 p0 p1 r):=fun _ _ _ _=>by kernel_rfl
def SE (av:List AV) (rs:List Root):Tre aB:=
 aJ av fun a0_ av0=>
 aJ av0 fun a1_ av1=>
 aU av1<|
 aU rs<|
 bE aX a0_ fun z2 d1=>
 bE aX a1_ fun z4 d3=>
 .mat (zF d1 d3) fun r=>.ret (MQ z2 z4 d1 d3 r)
def SH:Ctr:=⟨[],fun ci=>SE ci.args ci.roots,false⟩
theorem abT:bM Tryz.prog .none GI:=(aA an3 aBj (aA YX azc aN))
theorem aeo:Contract Tryz.prog .none 13 SH:=by
 have hl:aZ GI [] SG:=bB (by kernel_rfl)
 refine (aI (F:=SF) bg abT Tryz.func13 (by kernel_rfl) (by kernel_rfl) (by kernel_rfl) hl []).weaken ?_
 rintro ⟨av,rs⟩ co h
 have h:(SE av rs).run some=some co:=h
 obtain ⟨a0_,av0,rfl,h_0⟩:=au h
 obtain ⟨a1_,av1,rfl,h_1⟩:=au h_0
 obtain ⟨rfl,h_2⟩:=ay h_1
 obtain ⟨rfl,h_3⟩:=ay h_2
 obtain ⟨z2,d1,rfl,h_4⟩:=aD h_3
 obtain ⟨z4,d3,rfl,h_5⟩:=aD h_4
 exact bJ (aen z2 z4 d1 d3) h_5
def eH:(Int×Int×aM)→Tre ((Int×Int×aM) ⊕ (Int×aM)):=fun s2=>
 .cond (decide (s2.2.1<(s2.2.2.2.1.length:Int)))
  (.ite (0≤s2.2.1∧s2.2.1<(s2.2.2.2.1.length:Int))<|
  .mat (s2.2.2.2.1[s2.2.1.toNat]?) fun _=>
  let v2:=s2.2.2.2.1.set s2.2.1.toNat s2.1
  .ret (.inl (aP .i64 (s2.1+1),aP .i64 (s2.2.1+1),(s2.2.2.1,(v2,s2.2.2.2.2)))))
  (.ret (.inr (s2.1,s2.2.2)))
def BR (p0:Int) (p1:aM):Tre (Int×aM):=
 .mat (aR eH (p0,0,p1)) fun l3=>
 .ret (l3.1,l3.2)
def pQ (p0:Int) (p1:aM):Option (Int×aM):=(BR p0 p1).run some
def lS:Env:=⟨tau,[],[]⟩
def pR:Code:=(Tryz.f15.body).getD .skip
def qz:(Int×Int×aM)→St:=fun x=>bR [(0,(.ref (0,0) [.snd,.fst])),(1,(.imm true (.int .i64) x.1)),(5,(.imm true (.int .i64) x.2.1))] [((0,0),some ⟨true,aX,.own,x.2.2⟩)]
def oV:(Int×aM)→Ex×St:=fun x=>(.exit 0,bR [(1,(.imm true (.int .i64) x.1))] [((0,0),some ⟨true,aX,.own,x.2⟩)])
def BU (s:St):Tre (Ex×St):=
 dz (0,0) [.snd,.fst] (s.tmps 0)<|
 aC true (.int .i64) (s.tmps 1) fun d3=>
 aC true (.int .i64) (s.tmps 5) fun d5=>
 bD true aX (s.roots (0,0)) fun m7 d8=>
 asM .own m7<|
 .mat (aR eH (d3,d5,d8)) fun x=>.ret (oV x)
def gq:bK:=⟨([0,1,5],[(0,0)]),([1],[(0,0)]),BU⟩
def pO:List (Nat×bK):=[(2,gq)]
theorem L6:∀(x:(Int×Int×aM))(c:St→Option (Ex×St)),den lS pO (aY pR 0) (qz x) (bU gq.kp gq.kx c)=(eH x).run (bV (qz) (oV) c):=fun _ _=>by
 kernel_rfl
theorem PS:bS lS pO (aY pR 0) gq:=bA fun s e s' h=>by
 generalize hs:restrict gq.kp s=s1 at h
 have h:(BU s1).run some=some (e,s'):=h
 obtain ⟨e1,h_0⟩:=bf h
 obtain ⟨d3,e2,h_1⟩:=ak h_0
 obtain ⟨d5,e4,h_2⟩:=ak h_1
 obtain ⟨m7,d8,e6,h_3⟩:=aH h_2
 obtain ⟨rfl,h_4⟩:=aQ h_3
 obtain ⟨y,hy,hz⟩:=bT h_4
 refine ⟨_,_,qz,oV,eH,(d3,d5,d8),y,?_,hy,?_,L6⟩
 ·subst hs;exact aT (T:=[(0,(.ref (0,0) [.snd,.fst])),(1,(.imm true (.int .i64) d3)),(5,(.imm true (.int .i64) d5))]) (U:=[((0,0),some ⟨true,aX,.own,d8⟩)]) rfl rfl ⟨e1,e2,e4,trivial⟩ ⟨e6,trivial⟩
 ·exact Option.some.inj hz
def Ip:FnI:=⟨pR,Tryz.f15.results.toList,Tryz.f15.resultTypes.toList,pO⟩
def CY (_p0:Int) (_p1:aM):(Int×aM)→aB:=fun r=>⟨(.imm true (.int .i64) r.1),[⟨true,aX,.own,r.2⟩],[]⟩
theorem VF:∀(p0:Int)(p1:aM),bN lS Ip ⟨[(.ref (0,0) [.snd,.fst]),(.imm true (.int .i64) p0)],[⟨true,aX,.own,p1⟩]⟩=(BR p0 p1).run fun r=>some (CY p0 p1 r):=fun _ _=>by kernel_rfl
def Io (av:List AV) (rs:List Root):Tre aB:=
 aJ av fun a0_ av0=>
 aJ av0 fun a1_ av1=>
 aU av1<|
 aJ rs fun r0_ rs0=>
 aU rs0<|
 dz (0,0) [.snd,.fst] a0_<|
 aC true (.int .i64) a1_ fun d1=>
 Js true aX r0_ fun m2 d3=>
 asM .own m2<|
 .mat (pQ d1 d3) fun r=>.ret (CY d1 d3 r)
def Iq:Ctr:=⟨[0],fun ci=>Io ci.args ci.roots,false⟩
theorem Ul:bM Tryz.prog .none lS:=aN
theorem VG:Contract Tryz.prog .none 15 Iq:=by
 have hl:aZ lS pO pR:=(bC (n:=1) (by kernel_rfl) fun k hk=>by
   match k,hk with
   |0,_=>exact bq (id:=2) (L:=gq) (by kernel_rfl) (by kernel_rfl) PS)
 refine (aI (F:=Ip) bg Ul Tryz.func15 (by kernel_rfl) (by kernel_rfl) (by kernel_rfl) hl [0]).weaken ?_
 rintro ⟨av,rs⟩ co h
 have h:(Io av rs).run some=some co:=h
 obtain ⟨a0_,av0,rfl,h_0⟩:=au h
 obtain ⟨a1_,av1,rfl,h_1⟩:=au h_0
 obtain ⟨rfl,h_2⟩:=ay h_1
 obtain ⟨r0_,rs0,rfl,h_3⟩:=au h_2
 obtain ⟨rfl,h_4⟩:=ay h_3
 obtain ⟨rfl,h_5⟩:=bf h_4
 obtain ⟨d1,rfl,h_6⟩:=ak h_5
 obtain ⟨m2,d3,rfl,h_7⟩:=eY h_6
 obtain ⟨rfl,h_8⟩:=aQ h_7
 exact bJ (VF d1 d3) h_8
def wH (_p0:(Int×(Int×Unit))) (_p1:(Int×Unit)) (p2:Int) (p3:aM):Tre (Int×aM):=
 .mat (pQ p2 p3) fun r1=>
 .ret (r1.1,r1.2)
def lW (p0:(Int×(Int×Unit))) (p1:(Int×Unit)) (p2:Int) (p3:aM):Option (Int×aM):=(wH p0 p1 p2 p3).run some
-- more
theorem av9{α β γ:Type}(g:Nat→γ→α→γ)(fin:γ→β):∀(l:List α)(i:Nat)(acc:γ),∃a,qY (fun i acc x=>(.inl (g i acc x):γ ⊕ β)) fin i acc l=fin a:=by
 intro l
 induction l with
 |nil=>intro i acc;exact ⟨acc,rfl⟩
 |cons x l ih=>intro i acc;exact ih (i+1) _
theorem awi(g:(Int×Int×Unit)×List Int×Int×Unit)(hl:g.2.1.length≤1048576):∃g',lW g.1 g.2.2 1 g=some (1+(g.2.1.length:Int),g'):=by
 obtain ⟨f,xs,k,u⟩:=g
 have:=mD (xs:=xs) (step:=eH) (fun i acc=>(1+(i:Int),(i:Int),(f,acc,k,u))) (fun i acc _=>.inl (acc.set i (1+(i:Int)))) (fun acc=>(1+(xs.length:Int),(f,acc,k,u))) (fun i acc=>acc.length=xs.length) (by
  intro i acc x hx hI
  have hi:i<xs.length:=(List.getElem?_eq_some_iff.1 hx).1
  dsimp only at hl
  refine ⟨?_,fun a ha=>by cases ha;simpa using hI⟩
  unfold eH
  dsimp only
  rw [dP (List.getElem?_eq_getElem (by omega:i<acc.length))]
  rw [Tre.aK,aV (by omega),dN (by omega) (by omega),Int.toNat_natCast]
  simp only [Int.natCast_add,Int.natCast_one,Int.add_assoc])
  (by
  intro acc hI
  unfold eH
  dsimp only
  rw [←show acc.length=xs.length from hI]
  exact dw) xs 0 xs rfl (Nat.zero_le _) rfl
 obtain ⟨a,ha⟩:=av9 (fun i (acc:List Int) (_:Int)=>acc.set i (1+(i:Int))) (fun acc=>((1+(xs.length:Int),(f,acc,k,u)):Int×((Int×Int×Unit)×List Int×Int×Unit))) xs 0 xs
 rw [ha] at this
 refine ⟨(f,a,k,u),?_⟩
 unfold lW wH
 rw [ah (show pQ 1 (f,xs,k,u)=some (1+(xs.length:Int),(f,a,k,u)) from by
  unfold pQ BR
  have h1:aR eH (1,0,(f,xs,k,u))=some (1+(xs.length:Int),(f,a,k,u)):=by simpa using this
  rw [ah h1,Tre.aK])]
 rfl
def rX:Env:=⟨tau,[(15,Iq)],[]⟩
def BN:Code:=(Tryz.f14.body).getD .skip
def BM:FnI:=⟨BN,Tryz.f14.results.toList,Tryz.f14.resultTypes.toList,[]⟩
def zi (_p0:(Int×(Int×Unit))) (_p1:(Int×Unit)) (_p2:Int) (_p3:aM):(Int×aM)→aB:=fun r=>⟨(.imm true (.int .i64) r.1),[⟨true,aX,.own,r.2⟩],[]⟩
theorem PL:∀(p0:(Int×(Int×Unit)))(p1:(Int×Unit))(p2:Int)(p3:aM),bN rX BM ⟨[(.pair (.imm true aL p0) (.pair (.ref (0,0) [.snd,.fst]) (.imm true (.pair (.int .i64) .unit) p1))),(.imm true (.int .i64) p2)],[⟨true,aX,.own,p3⟩]⟩=(wH p0 p1 p2 p3).run fun r=>some (zi p0 p1 p2 p3 r):=fun _ _ _ _=>by kernel_rfl
def BL (av:List AV) (rs:List Root):Tre aB:=
 aJ av fun a0_ av0=>
 aJ av0 fun a1_ av1=>
 aU av1<|
 aJ rs fun r0_ rs0=>
 aU rs0<|
 anv a0_ fun a1 a2=>
 aC true aL a1 fun d3=>
 anv a2 fun a4 a5=>
 dz (0,0) [.snd,.fst] a4<|
 aC true (.pair (.int .i64) .unit) a5 fun d6=>
 aC true (.int .i64) a1_ fun d7=>
 Js true aX r0_ fun m8 d9=>
 asM .own m8<|
 .mat (lW d3 d6 d7 d9) fun r=>.ret (zi d3 d6 d7 d9 r)
def BO:Ctr:=⟨[0],fun ci=>BL ci.args ci.roots,false⟩
theorem Ou:bM Tryz.prog .none rX:=(aA VG azd aN)
theorem PN:Contract Tryz.prog .none 14 BO:=by
 have hl:aZ rX [] BN:=bB (by kernel_rfl)
 refine (aI (F:=BM) bg Ou Tryz.func14 (by kernel_rfl) (by kernel_rfl) (by kernel_rfl) hl [0]).weaken ?_
 rintro ⟨av,rs⟩ co h
 have h:(BL av rs).run some=some co:=h
 obtain ⟨a0_,av0,rfl,h_0⟩:=au h
 obtain ⟨a1_,av1,rfl,h_1⟩:=au h_0
 obtain ⟨rfl,h_2⟩:=ay h_1
 obtain ⟨r0_,rs0,rfl,h_3⟩:=au h_2
 obtain ⟨rfl,h_4⟩:=ay h_3
 obtain ⟨a1,a2,rfl,h_5⟩:=afE h_4
 obtain ⟨d3,rfl,h_6⟩:=ak h_5
 obtain ⟨a4,a5,rfl,h_7⟩:=afE h_6
 obtain ⟨rfl,h_8⟩:=bf h_7
 obtain ⟨d6,rfl,h_9⟩:=ak h_8
 obtain ⟨d7,rfl,h_10⟩:=ak h_9
 obtain ⟨m8,d9,rfl,h_11⟩:=eY h_10
 obtain ⟨rfl,h_12⟩:=aQ h_11
 exact bJ (PL d3 d6 d7 d9) h_12
def eG:(Int×Int×(List Int))→Tre ((Int×Int×(List Int)) ⊕ (Int×(List Int))):=fun s2=>
 .cond (decide (s2.2.1<(s2.2.2.length:Int)))
  (.ite (0≤s2.2.1∧s2.2.1<(s2.2.2.length:Int))<|
  .mat (s2.2.2[s2.2.1.toNat]?) fun _=>
  let v2:=s2.2.2.set s2.2.1.toNat s2.1
  .ret (.inl (aP .i64 (s2.1+1),aP .i64 (s2.2.1+1),v2)))
  (.ret (.inr (s2.1,s2.2.2)))
def BP (p0:Int) (p1:List Int):Tre (Int×(List Int)):=
 .mat (aR eG (p0,0,p1)) fun l3=>
 .ret (l3.1,l3.2)
def Ij (p0:Int) (p1:List Int):Option (Int×(List Int)):=(BP p0 p1).run some
def amM(k:Int)(xs:List Int):Option (Int×List Int):=ak1 (inR k 0 4194304&&decide (xs.length≤1048576)) (k+(xs.length:Int),marks k xs.length)
theorem Ri(p0:Int)(p1:List Int)(y:Int×List Int)(h:amM p0 p1=some y):Ij p0 p1=some y:=by
 obtain ⟨hok,rfl⟩:=Ao h
 simp only [Bool.and_eq_true,decide_eq_true_eq,kF] at hok
 obtain ⟨hk,hl⟩:=hok
 unfold Ij BP
 have:=mD (xs:=p1) (step:=eG) (fun i acc=>(p0+(i:Int),(i:Int),acc)) (fun i acc _=>.inl (acc.set i (p0+(i:Int)))) (fun acc=>(p0+(p1.length:Int),acc)) (fun i acc=>acc.length=p1.length) (by
  intro i acc x hx hI
  have hi:i<p1.length:=(List.getElem?_eq_some_iff.1 hx).1
  refine ⟨?_,fun a ha=>by cases ha;simpa using hI⟩
  unfold eG
  rw [dP (List.getElem?_eq_getElem (by omega:i<acc.length))]
  dsimp only
  rw [Tre.aK,aV (by omega),dN (by omega) (by omega),Int.toNat_natCast]
  simp only [Int.natCast_add,Int.natCast_one,Int.add_assoc])
  (by
  intro acc hI
  unfold eG
  rw [←show acc.length=p1.length from hI]
  exact dw) p1 0 p1 rfl (Nat.zero_le _) rfl
 rw [apE _ _ _ _ _ (by simp)] at this
 have h1:aR eG (p0,0,p1)=some (p0+(p1.length:Int),marks p0 p1.length):=by
  simpa [marks] using this
 rw [ah h1]
 rfl
def lQ:Env:=⟨tau,[],[]⟩
def pK:Code:=(Tryz.f15.body).getD .skip
def qy:(Int×Int×(List Int))→St:=fun x=>bR [(0,(.ref (0,0) [])),(1,(.imm true (.int .i64) x.1)),(5,(.imm true (.int .i64) x.2.1))] [((0,0),some ⟨false,(.sl (.int .i64)),.own,x.2.2⟩)]
def oU:(Int×(List Int))→Ex×St:=fun x=>(.exit 0,bR [(1,(.imm true (.int .i64) x.1))] [((0,0),some ⟨false,(.sl (.int .i64)),.own,x.2⟩)])
def BQ (s:St):Tre (Ex×St):=
 dz (0,0) [] (s.tmps 0)<|
 aC true (.int .i64) (s.tmps 1) fun d3=>
 aC true (.int .i64) (s.tmps 5) fun d5=>
 bD false (.sl (.int .i64)) (s.roots (0,0)) fun m7 d8=>
 asM .own m7<|
 .mat (aR eG (d3,d5,d8)) fun x=>.ret (oU x)
def fZ:bK:=⟨([0,1,5],[(0,0)]),([1],[(0,0)]),BQ⟩
def pJ:List (Nat×bK):=[(2,fZ)]
theorem LZ:∀(x:(Int×Int×(List Int)))(c:St→Option (Ex×St)),den lQ pJ (aY pK 0) (qy x) (bU fZ.kp fZ.kx c)=(eG x).run (bV (qy) (oU) c):=fun _ _=>by
 kernel_rfl
theorem PO:bS lQ pJ (aY pK 0) fZ:=bA fun s e s' h=>by
 generalize hs:restrict fZ.kp s=s1 at h
 have h:(BQ s1).run some=some (e,s'):=h
 obtain ⟨e1,h_0⟩:=bf h
 obtain ⟨d3,e2,h_1⟩:=ak h_0
 obtain ⟨d5,e4,h_2⟩:=ak h_1
 obtain ⟨m7,d8,e6,h_3⟩:=aH h_2
 obtain ⟨rfl,h_4⟩:=aQ h_3
 obtain ⟨y,hy,hz⟩:=bT h_4
 refine ⟨_,_,qy,oU,eG,(d3,d5,d8),y,?_,hy,?_,LZ⟩
 ·subst hs;exact aT (T:=[(0,(.ref (0,0) [])),(1,(.imm true (.int .i64) d3)),(5,(.imm true (.int .i64) d5))]) (U:=[((0,0),some ⟨false,(.sl (.int .i64)),.own,d8⟩)]) rfl rfl ⟨e1,e2,e4,trivial⟩ ⟨e6,trivial⟩
 ·exact Option.some.inj hz
def Il:FnI:=⟨pK,Tryz.f15.results.toList,Tryz.f15.resultTypes.toList,pJ⟩
def CX (_p0:Int) (_p1:List Int):(Int×(List Int))→aB:=fun r=>⟨(.imm true (.int .i64) r.1),[⟨false,(.sl (.int .i64)),.own,r.2⟩],[]⟩
theorem VD:∀(p0:Int)(p1:List Int),bN lQ Il ⟨[(.ref (0,0) []),(.imm true (.int .i64) p0)],[⟨false,(.sl (.int .i64)),.own,p1⟩]⟩=(BP p0 p1).run fun r=>some (CX p0 p1 r):=fun _ _=>by kernel_rfl
def Ik (av:List AV) (rs:List Root):Tre aB:=
 aJ av fun a0_ av0=>
 aJ av0 fun a1_ av1=>
 aU av1<|
 aJ rs fun r0_ rs0=>
 aU rs0<|
 dz (0,0) [] a0_<|
 aC true (.int .i64) a1_ fun d1=>
 Js false (.sl (.int .i64)) r0_ fun m2 d3=>
 asM .own m2<|
 .mat (amM d1 d3) fun r=>.ret (CX d1 d3 r)
def Im:Ctr:=⟨[0],fun ci=>Ik ci.args ci.roots,false⟩
theorem Uk:bM Tryz.prog .none lQ:=aN
theorem VE:Contract Tryz.prog .none 15 Im:=by
 have hl:aZ lQ pJ pK:=(bC (n:=1) (by kernel_rfl) fun k hk=>by
   match k,hk with
   |0,_=>exact bq (id:=2) (L:=fZ) (by kernel_rfl) (by kernel_rfl) PO)
 refine (aI (F:=Il) bg Uk Tryz.func15 (by kernel_rfl) (by kernel_rfl) (by kernel_rfl) hl [0]).weaken ?_
 rintro ⟨av,rs⟩ co h
 have h:(Ik av rs).run some=some co:=h
 obtain ⟨a0_,av0,rfl,h_0⟩:=au h
 obtain ⟨a1_,av1,rfl,h_1⟩:=au h_0
 obtain ⟨rfl,h_2⟩:=ay h_1
 obtain ⟨r0_,rs0,rfl,h_3⟩:=au h_2
 obtain ⟨rfl,h_4⟩:=ay h_3
 obtain ⟨rfl,h_5⟩:=bf h_4
 obtain ⟨d1,rfl,h_6⟩:=ak h_5
 obtain ⟨m2,d3,rfl,h_7⟩:=eY h_6
 obtain ⟨rfl,h_8⟩:=aQ h_7
 exact xg (VD d1 d3) (Ri d1 d3) h_8
def jK (h2_0_0:List Int):(Int×Int)→Tre ((Int×Int) ⊕ ((Int×Int) ⊕ Int)):=fun s2=>
 .cond (decide (s2.2<(h2_0_0.length:Int)))
  (.ite (0≤s2.2∧s2.2<(h2_0_0.length:Int))<|
  .mat (h2_0_0[s2.2.toNat]?) fun x1=>
  .cond (!decide (x1=s2.1))
   (.ret (.inr (.inl (s2.1,-1))))
   (.ret (.inl (aP .i64 (s2.1+1),aP .i64 (s2.2+1)))))
  (.ret (.inr (.inr s2.1)))
def Rh (p0:List Int) (p1:Int):Tre Int:=
 .mat (aR (jK p0) (p1,0)) fun l2=>
 .alt l2
  (fun a3=>
   .ret a3.2)
  (fun b4=>
   .ret b4)
def Vx (p0:List Int) (p1:Int):Option Int:=(Rh p0 p1).run some
def ai1(xs:List Int)(k:Int):Option Int:=if (inR k 0 1048576&&decide (xs.length≤1048576))=true∧xs=marks k xs.length then some (k+(xs.length:Int)) else none
theorem abX(p0:List Int)(p1:Int)(y:Int)(h:ai1 p0 p1=some y):Vx p0 p1=some y:=by
 unfold ai1 at h
 split at h
 case isFalse=>cases h
 case isTrue hh=>
 obtain ⟨hok,hm⟩:=hh
 cases h
 simp only [Bool.and_eq_true,decide_eq_true_eq,kF] at hok
 obtain ⟨hk,hl⟩:=hok
 unfold Vx Rh
 have:=arT (xs:=p0) (step:=jK p0) (γ:=Unit) (fun i _=>(p1+(i:Int),(i:Int))) (fun _ _ _=>.inl ()) (fun _=>.inr (p1+(p0.length:Int))) (by
  intro i acc x hx
  have hi:i<p0.length:=(List.getElem?_eq_some_iff.1 hx).1
  have hxv:x=p1+(i:Int):=by
   rw [hm] at hx
   unfold marks at hx
   simp only [List.getElem?_map,Option.map_eq_some_iff] at hx
   obtain ⟨a,ha,rfl⟩:=hx
   rw [List.getElem?_range' (by simpa using hi)] at ha
   simp at ha
   rw [ha]
  unfold jK
  rw [dP hx,Tre.aG]
  simp only [hxv,decide_true,Bool.not_true,cond_false]
  rw [Tre.aK,aV (by omega),dN (by omega) (by omega)]
  simp only [Int.natCast_add,Int.natCast_one,Int.add_assoc])
  (by
  intro acc
  unfold jK
  exact dw) ()
 have hf:∀(l:List Int)(i:Nat),qY (β:=(Int×Int) ⊕ Int) (fun (_:Nat) (_:Unit) (_:Int)=>.inl ()) (fun _=>.inr (p1+(p0.length:Int))) i () l=.inr (p1+(p0.length:Int)):=by
  intro l
  induction l with
  |nil=>intro i;rfl
  |cons x l ih=>intro i;exact ih _
 rw [hf] at this
 have h1:aR (jK p0) (p1,0)=some (.inr (p1+(p0.length:Int))):=by simpa using this
 rw [ah h1]
 rfl
def wG:Env:=⟨tau,[],[]⟩
def BK:Code:=(Tryz.f16.body).getD .skip
def Ab (z2_0:Bool) (h2_0_0:List Int):(Int×Int)→St:=fun x=>bR [(0,(.imm z2_0 (.sl (.int .i64)) h2_0_0)),(1,(.imm true (.int .i64) x.1)),(5,(.imm true (.int .i64) x.2))] []
def pI (_z2_0:Bool) (_h2_0_0:List Int):((Int×Int) ⊕ Int)→Ex×St
 |.inl x=>(.ret,bR [(1,(.imm true (.int .i64) x.1)),(4,(.imm true (.int .i64) x.2))] [])
 |.inr x=>(.exit 0,bR [(1,(.imm true (.int .i64) x)),(4,.dead)] [])
def MR (s:St):Tre (Ex×St):=
 bE (.sl (.int .i64)) (s.tmps 0) fun z3 d2=>
 aC true (.int .i64) (s.tmps 1) fun d5=>
 aC true (.int .i64) (s.tmps 5) fun d7=>
 .mat (aR (jK d2) (d5,d7)) fun x=>.alt x (fun a0=>.ret (pI z3 d2 (.inl a0))) (fun b0=>.ret (pI z3 d2 (.inr b0)))
def kW:bK:=⟨([0,1,5],[]),([1,4],[]),MR⟩
def BJ:List (Nat×bK):=[(2,kW)]
theorem VB:∀(z2_0:Bool)(h2_0_0:List Int)(x:(Int×Int))(c:St→Option (Ex×St)),den wG BJ (aY BK 0) (Ab z2_0 h2_0_0 x) (bU kW.kp kW.kx c)=(jK h2_0_0 x).run (bV (Ab z2_0 h2_0_0) (pI z2_0 h2_0_0) c):=fun _ _ _ _=>by
 kernel_rfl
theorem aan:bS wG BJ (aY BK 0) kW:=bA fun s e s' h=>by
 generalize hs:restrict kW.kp s=s1 at h
 have h:(MR s1).run some=some (e,s'):=h
 obtain ⟨z3,d2,e1,h_0⟩:=aD h
 obtain ⟨d5,e4,h_1⟩:=ak h_0
 obtain ⟨d7,e6,h_2⟩:=ak h_1
 obtain ⟨y,hy,hz⟩:=jR h_2
 refine ⟨_,_,Ab z3 d2,pI z3 d2,jK d2,(d5,d7),y,?_,hy,?_,VB z3 d2⟩
 ·subst hs;exact aT (T:=[(0,(.imm z3 (.sl (.int .i64)) d2)),(1,(.imm true (.int .i64) d5)),(5,(.imm true (.int .i64) d7))]) (U:=[]) rfl rfl ⟨e1,e4,e6,trivial⟩ trivial
 ·rcases y with x|x<;>exact Option.some.inj hz
def Vz:FnI:=⟨BK,Tryz.f16.results.toList,Tryz.f16.resultTypes.toList,BJ⟩
def PK (_zp0:Bool) (_p0:List Int) (_p1:Int):Int→aB:=fun r=>⟨(.imm true (.int .i64) r),[],[]⟩
theorem ahA:∀(zp0:Bool)(p0:List Int)(p1:Int),bN wG Vz ⟨[(.imm zp0 (.sl (.int .i64)) p0),(.imm true (.int .i64) p1)],[]⟩=(Rh p0 p1).run fun r=>some (PK zp0 p0 p1 r):=fun _ _ _=>by kernel_rfl
def Vy (av:List AV) (rs:List Root):Tre aB:=
 aJ av fun a0_ av0=>
 aJ av0 fun a1_ av1=>
 aU av1<|
 aU rs<|
 bE (.sl (.int .i64)) a0_ fun z2 d1=>
 aC true (.int .i64) a1_ fun d3=>
 .mat (ai1 d1 d3) fun r=>.ret (PK z2 d1 d3 r)
def VA:Ctr:=⟨[],fun ci=>Vy ci.args ci.roots,false⟩
theorem aer:bM Tryz.prog .none wG:=aN
theorem ahB:Contract Tryz.prog .none 16 VA:=by
 have hl:aZ wG BJ BK:=(bC (n:=1) (by kernel_rfl) fun k hk=>by
   match k,hk with
   |0,_=>exact bq (id:=2) (L:=kW) (by kernel_rfl) (by kernel_rfl) aan)
 refine (aI (F:=Vz) bg aer Tryz.func16 (by kernel_rfl) (by kernel_rfl) (by kernel_rfl) hl []).weaken ?_
 rintro ⟨av,rs⟩ co h
 have h:(Vy av rs).run some=some co:=h
 obtain ⟨a0_,av0,rfl,h_0⟩:=au h
 obtain ⟨a1_,av1,rfl,h_1⟩:=au h_0
 obtain ⟨rfl,h_2⟩:=ay h_1
 obtain ⟨rfl,h_3⟩:=ay h_2
 obtain ⟨z2,d1,rfl,h_4⟩:=aD h_3
 obtain ⟨d3,rfl,h_5⟩:=ak h_4
 exact xg (ahA z2 d1 d3) (abX d1 d3) h_5
def uV (p0:aM) (p1:List Int):Tre Bool:=
 .cond (decide ((p1.length:Int)>1048576))
  (.ret true)
  (let v1:=tL p0 1048576
  .cond (decide (v1<0))
   (.ret true)
   (.mat (lJ p0) fun r2=>
   .mat (gH p1) fun r3=>
   .mat (xR (r2.1,(r2.2.2,r2.2.1)) r3) fun r4=>
   .mat (lJ p0) fun r5=>
   .mat (gH p1) fun r6=>
   .mat (pW (r5.1,(r5.2.2,r5.2.1)) r6) fun r7=>
   .mat (eqS r7.2 r4.2) fun r8=>
   .cond (!r8)
    (.ret false)
    (.cond (!decide (r7.1=r4.1))
     (.ret false)
     (.mat (lJ p0) fun r9=>
     .mat (zF (r5.1,(r5.2.2,r5.2.1)) (r9.1,(r9.2.2,r9.2.1))) fun r10=>
     .cond (!r10)
      (.ret false)
      (.mat (gH p1) fun r11=>
      .mat (eqS r6 r11) fun r12=>
      .cond (!r12)
       (.ret false)
       (.mat (lW r5.1 r5.2.1 1 (r5.1,(r5.2.2,r5.2.1))) fun r13=>
       .mat (amM r13.1 r6) fun r14=>
       .cond (decide (r14.1<0))
        (.ret false)
        (.mat (eqS r7.2 r4.2) fun r15=>
        .cond (!r15)
         (.ret false)
         (.cond (!decide (r7.1=r4.1))
          (.ret false)
          (.mat (amM 1 r7.2) fun r16=>
          .mat (ai1 r16.2 1) fun r17=>
          .cond (decide (r17<0))
           (.ret false)
           (.cond (!decide (r17=r16.1))
            (.ret false)
            (.mat (lJ p0) fun r18=>
            .mat (gH p1) fun r19=>
            .mat (pW (r18.1,(r18.2.2,r18.2.1)) r19) fun r20=>
            .mat (eqS r20.2 r4.2) fun r21=>
            .cond (!r21)
             (.ret false)
             (.cond (!decide (r20.1=r4.1))
              (.ret false)
              (.mat (ai1 r16.2 1) fun r22=>
              .cond (decide (r22<0))
               (.ret false)
               (.cond (!decide (r22=r16.1))
                (.ret false)
                (.ret true)))))))))))))))
def qw (p0:aM) (p1:List Int):Option Bool:=(uV p0 p1).run some
-- law
theorem LY(p0:TF3×List Int×Int×Unit)(p1:List Int)(_h0:aX.wf p0)(_h1:(K.sl (.int .i64)).wf p1):qw p0 p1=some true:=by
 unfold qw uV
 rw [Tre.aG]
 by_cases hv:p1.length≤1048576
 case neg=>rw [decide_eq_true (by omega)];rfl
 rw [decide_eq_false (by omega),cond_false]
 dsimp only
 rw [Tre.aG]
 by_cases h:tL p0 1048576<0
 ·rw [decide_eq_true h];rfl
 have hs:p0.2.1.length≤1048576:=by
  refine ajD _h0.2.1.1 fun hn=>h ?_
  unfold tL
  rw [decide_eq_true hn,cond_true]
  decide
 rw [decide_eq_false h,cond_false]
 have e1:lJ p0=some (p0.1,p0.2.2,p0.2.1):=by
  unfold lJ Ov
  rw [ah (show gH p0.2.1=some p0.2.1 from KF hs),Tre.aK]
 have e2:gH p1=some p1:=KF hv
 have hp:(p0.1,p0.2.1,p0.2.2)=p0:=rfl
 obtain ⟨y,hs4,hi4,hyl⟩:=awD p0 p1 hv
 obtain ⟨yc,yl⟩:=y
 dsimp only at hyl
 have e5:eqS yl yl=some true:=aiR (by omega)
 have e7:eqS p1 p1=some true:=aiR hv
 have e8:eqS p0.2.1 p0.2.1=some true:=aiR hs
 have e6:zF p0 p0=some true:=by
  unfold zF Ot
  have:FY p0.1 p0.1=true:=by unfold FY;simp
  rw [this,Tre.aG,Bool.not_true,cond_false,ah e8]
  simp only [Tre.aG,decide_true,Bool.not_true,cond_false]
  rfl
 obtain ⟨g',hmk⟩:=awi p0 hs
 have hm:(marks 1 yl.length).length=yl.length:=by simp [marks]
 have m1:amM (1+(p0.2.1.length:Int)) p1=some (1+(p0.2.1.length:Int)+(p1.length:Int),marks (1+(p0.2.1.length:Int)) p1.length):=pV (by rw [Bool.and_eq_true,kF,decide_eq_true_eq];omega)
 have m2:amM 1 yl=some (1+(yl.length:Int),marks 1 yl.length):=pV (by rw [Bool.and_eq_true,kF,decide_eq_true_eq];omega)
 have m3:ai1 (marks 1 yl.length) 1=some (1+(yl.length:Int)):=by
  unfold ai1
  rw [hm,if_pos ⟨by rw [Bool.and_eq_true,kF,decide_eq_true_eq];omega,rfl⟩]
 have c1:decide (1+(p0.2.1.length:Int)+(p1.length:Int)<0)=false:=decide_eq_false (by omega)
 have c2:decide (1+(yl.length:Int)<0)=false:=decide_eq_false (by omega)
 rw [ah e1,ah e2]
 dsimp only
 rw [hp,ah hs4,ah e1,ah e2]
 dsimp only
 rw [hp,ah (x:=(yc,yl)) hi4]
 dsimp only
 rw [ah (x:=true) e5]
 simp only [Tre.aG,decide_true,Bool.not_true,cond_false]
 rw [ah e1]
 dsimp only
 rw [hp,ah (x:=true) e6]
 simp only [Tre.aG,Bool.not_true,cond_false]
 rw [ah e2,ah (x:=true) e7]
 simp only [Tre.aG,Bool.not_true,cond_false]
 rw [ah hmk]
 dsimp only
 rw [ah m1]
 simp only [Tre.aG,c1,cond_false]
 rw [ah (x:=true) e5]
 simp only [Tre.aG,decide_true,Bool.not_true,cond_false]
 rw [ah m2]
 dsimp only
 rw [ah m3]
 simp only [Tre.aG,c2,decide_true,Bool.not_true,cond_false]
 rw [ah e1,ah e2]
 dsimp only
 rw [hp,ah (x:=(yc,yl)) hi4]
 dsimp only
 rw [ah (x:=true) e5]
 simp only [Tre.aG,decide_true,Bool.not_true,cond_false]
 rw [ah m3]
 simp only [Tre.aG,c2,decide_true,Bool.not_true,cond_false]
 rfl
def qx:Env:=⟨tau,[(7,SQ),(9,SY),(10,Rk),(17,Qd),(18,OX),(12,Rf),(13,SH),(14,BO),(15,Im),(16,VA)],[]⟩
def AU:Code:=(Tryz.f4.body).getD .skip
def AQ:FnI:=⟨AU,Tryz.f4.results.toList,Tryz.f4.resultTypes.toList,[]⟩
def yj (_zp0:Bool) (_zp1:Bool) (_p0:aM) (_p1:List Int):Bool→aB:=fun r=>⟨(.imm true .bool r),[],[]⟩
theorem Oo:∀(zp0:Bool)(zp1:Bool)(p0:aM)(p1:List Int),bN qx AQ ⟨[(.imm zp0 aX p0),(.imm zp1 (.sl (.int .i64)) p1)],[]⟩=(uV p0 p1).run fun r=>some (yj zp0 zp1 p0 p1 r):=fun _ _ _ _=>by kernel_rfl
def AP (av:List AV) (rs:List Root):Tre aB:=
 aJ av fun a0_ av0=>
 aJ av0 fun a1_ av1=>
 aU av1<|
 aU rs<|
 bE aX a0_ fun z2 d1=>
 bE (.sl (.int .i64)) a1_ fun z4 d3=>
 .mat (qw d1 d3) fun r=>.ret (yj z2 z4 d1 d3 r)
def PI:Ctr:=⟨[],fun ci=>AP ci.args ci.roots,false⟩
theorem LX:bM Tryz.prog .none qx:=(aA aeu aBU (aA aew aBV (aA Y1 azb (aA acJ aBa (aA abh aBb (aA YX azc (aA aeo aA7 (aA PN aA8 (aA VE azd (aA ahB aA9 aN))))))))))
theorem Oq:Contract Tryz.prog .none 4 PI:=by
 have hl:aZ qx [] AU:=bB (by kernel_rfl)
 refine (aI (F:=AQ) bg LX Tryz.func4 (by kernel_rfl) (by kernel_rfl) (by kernel_rfl) hl []).weaken ?_
 rintro ⟨av,rs⟩ co h
 have h:(AP av rs).run some=some co:=h
 obtain ⟨a0_,av0,rfl,h_0⟩:=au h
 obtain ⟨a1_,av1,rfl,h_1⟩:=au h_0
 obtain ⟨rfl,h_2⟩:=ay h_1
 obtain ⟨rfl,h_3⟩:=ay h_2
 obtain ⟨z2,d1,rfl,h_4⟩:=aD h_3
 obtain ⟨z4,d3,rfl,h_5⟩:=aD h_4
 exact bJ (Oo z2 z4 d1 d3) h_5
end Go.Proofs.YtihiobjhogpmdaaGreat
