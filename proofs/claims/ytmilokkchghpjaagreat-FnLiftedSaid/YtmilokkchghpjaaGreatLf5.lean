/- Part 5 of the proof of FnLifted. -/
import Derived.Test.YtmilokkchghpjaaGreatLf4
set_option maxRecDepth 100000
noncomputable section
namespace Go.Proofs.YtmilokkchghpjaaGreat
open Go Go.Abs Go.Proofs
def gJ (aX:List Int) (bD:List Int) (dL:Int):Int→Tre (Int ⊕ (Bool ⊕ Unit)):=fun s4=>
 .cond (decide (s4<dL))
  (.ite (0≤s4∧s4<(aX.length:Int))<|
  .mat (aX[s4.toNat]?) fun x1=>
  .ite (0≤s4∧s4<(bD.length:Int))<|
  .mat (bD[s4.toNat]?) fun x2=>
  .cond (!decide (x1=x2))
   (.ret (.inr (.inl false)))
   (.ret (.inl (aL .i64 (s4+1)))))
  (.ret (.inr (.inr ())))
def xA (p0:List Int) (p1:List Int):Tre Bool:=
 .cond (!decide ((p0.length:Int)=(p1.length:Int)))
  (.ret false)
  (.mat (aS (gJ p0 p1 (p0.length:Int)) 0) fun l3=>
  .alt l3
   (fun a4=>
    .ret a4)
   (fun _=>
    .ret true))
def CX (p0:List Int) (p1:List Int):Option Bool:=(xA p0 p1).run some
theorem LJ(p0 p1:List Int)(y:Bool)(h:zG p0 p1=some y):CX p0 p1=some y:=by
 obtain ⟨hok,rfl⟩:=Ah h
 simp only [Bool.and_eq_true,decide_eq_true_eq] at hok
 unfold CX xA
 rw [Tre.aD]
 by_cases hl:p0.length=p1.length
 ·rw [decide_eq_true (show (p0.length:Int)=(p1.length:Int) by omega),Bool.not_true,cond_false,Tre.mZ,tZ (xs:=p0) (sameAt p1) (.inr ()),aes p1 p0 0 (by simpa using hl)]
  ·rw [List.drop_zero]
   cases decide (p0=p1)<;>rfl
  ·intro i x hx
   have hi:i<p0.length:=(List.getElem?_eq_some_iff.1 hx).1
   have hy:p1[i]?=some p1[i]:=List.getElem?_eq_getElem (by omega)
   unfold gJ
   unfold sameAt
   rw [eB hx,gu hy,Tre.aD,hy]
   dsimp only
   cases decide (x=p1[i])
   ·rfl
   ·simp only [Bool.not_true,cond_true,cond_false,Tre.aN,aY (show i<4611686018427387904 by omega)]
  ·unfold gJ
   exact dR
 ·rw [decide_eq_false (show ¬(p0.length:Int)=(p1.length:Int) by omega),Bool.not_false,cond_true,Tre.aN,decide_eq_false (fun h=>hl (by rw [h]))]
def nD:Env:=⟨tau,[],[]⟩
def CY:Code:=(Tryz.f113.body).getD .skip
def nO (iG:Bool) (oQ:Bool) (aX:List Int) (bD:List Int) (dL:Int):Int→St:=fun x=>bT [(0,(.imm iG .il aX)),(1,(.imm oQ .il bD)),(12,(.i dL)),(13,(.i x))] []
def jk (_:Bool) (_:Bool) (_:List Int) (_:List Int) (_:Int):(Bool ⊕ Unit)→Ex×St
 |.inl x=>(.ret,bT [(4,(.imm true .bool x))] [])
 |.inr _=>(.exit 0,bT [(4,.dead)] [])
def xX (s:St):Tre (Ex×St):=
 bB .il (s.tmps 0) fun z3 d2=>
 bB .il (s.tmps 1) fun z6 d5=>
 aF true .n (s.tmps 12) fun d8=>
 aF true .n (s.tmps 13) fun d10=>
 .mat (aS (gJ d2 d5 d8) d10) fun x=>.alt x (fun a0=>.ret (jk z3 z6 d2 d5 d8 (.inl a0))) (fun b0=>.ret (jk z3 z6 d2 d5 d8 (.inr b0)))
def iF:bF:=⟨([0,1,12,13],[]),([4],[]),xX⟩
def tQ:List (Nat×bF):=[(4,iF)]
theorem GQ:∀(iG oQ:Bool)(aX bD:List Int)(dL x:Int)(c:St→Option (Ex×St)),den nD tQ (aV CY 0) (nO iG oQ aX bD dL x) (bZ iF.kp iF.kx c)=(gJ aX bD dL x).run (cu (nO iG oQ aX bD dL) (jk iG oQ aX bD dL) c):=fun _ _ _ _ _ _ _=>by
 kernel_rfl
theorem Km:bU nD tQ (aV CY 0) iF:=fq fun s e s' h=>by
 generalize hs:restrict iF.kp s=s1 at h
 have h:(xX s1).run some=some (e,s'):=h
 obtain ⟨z3,d2,e1,h_0⟩:=dJ h
 obtain ⟨z6,d5,e4,h_1⟩:=dJ h_0
 obtain ⟨d8,e7,h_2⟩:=bO h_1
 obtain ⟨d10,e9,h_3⟩:=bO h_2
 obtain ⟨y,hy,hz⟩:=iA h_3
 refine ⟨_,_,nO z3 z6 d2 d5 d8,jk z3 z6 d2 d5 d8,gJ d2 d5 d8,d10,y,?_,hy,?_,GQ z3 z6 d2 d5 d8⟩
 ·subst hs;exact aT (T:=[(0,(.imm z3 .il d2)),(1,(.imm z6 .il d5)),(12,(.i d8)),(13,(.i d10))]) (U:=[]) rfl rfl ⟨e1,e4,e7,e9,trivial⟩ trivial
 ·rcases y with x|x<;>exact Option.some.inj hz
def Td:FnI:=fnI Tryz.f113 tQ
def zI (_:Bool) (_:Bool) (_:List Int) (_:List Int):Bool→au:=fun r=>⟨(.imm true .bool r),[],[]⟩
theorem Qa:∀(zp0 zp1:Bool)(p0 p1:List Int),bH nD Td ⟨[(.imm zp0 .il p0),(.imm zp1 .il p1)],[]⟩=(xA p0 p1).run fun r=>some (zI zp0 zp1 p0 p1 r):=fun _ _ _ _=>by kernel_rfl
def Tc (av:List AV) (rs:List Root):Tre au:=
 aB av fun a0_ av0=>
 aB av0 fun a1_ av1=>
 aJ av1<|
 aJ rs<|
 bB .il a0_ fun z2 d1=>
 bB .il a1_ fun z4 d3=>
 .mat (zG d1 d3) fun r=>.ret (zI z2 z4 d1 d3 r)
def nE:Ctr:=dx [] Tc
theorem qQ:Contract Tryz.prog .none 113 nE:=aC (V:=nD) aR aH Tryz.func113 (bM (n:=1) fun k hk=>by
 match k,hk with
 |0,_=>exact bP (id:=4) Km) fun _ _ _=>aI fun _ _=>aI fun _ _=>aZ<|aZ<|dF fun _ _=>dF fun _ _=>fun h=>by intros;subst_vars;exact Es (Qa _ _ _ _) (LJ _ _) h
def Z0 (p0:aA):Tre Bool:=
 .mat (wC p0) fun r1=>
 .cond r1
  (.mat (alM p0.2.1) fun r2=>
  .mat (zG r2 p0.2.1) fun r3=>
  .ret r3)
  (.ret false)
def sH (p0:aA):Option Bool:=(Z0 p0).run some
-- more
theorem aem{c:Nat}{ns:List Nat}(hc:c≤10)(hl:ns.length≤10)(hn:∀n∈ns,n<2 ^ c):(TR (up ns)).length≤ns.length:=by
 have hi:=aou (b:=62) (by omega) (aaJ (c:=c) (b:=62) (ns:=ns) (by omega) (by omega) hn)
 rw [up_toNat] at hi
 rw [ael,up_toNat]
 exact hi.le
theorem Ev(m:Int×List Int×Unit)(hl:m.2.1.length≤1048576):sH m=some (agW m):=by
 unfold sH Z0
 rw [ah (Z7 m hl),Tre.aD]
 unfold agW
 cases h:ahT m
 ·rfl
 obtain ⟨c,ns,rfl,h1,h2,h3,h4⟩:=aqK h
 dsimp only at hl ⊢
 rw [cond_true,ah (show alM (up ns)=some _ from kX (aaJ (c:=c) (by omega) (by omega) h4))]
 rw [ah (show zG (TR (up ns)) (up ns)=some _ from kX (by
  have:=aem h2 h3 h4
  simp only [Bool.and_eq_true,decide_eq_true_eq,eX];omega))]
 rfl
def abw:Env:=⟨tau,[(173,OD),(162,IW),(113,nE)],[]⟩
def alX:FnI:=fnI Tryz.f89 []
def UN (_:Bool) (_:aA):Bool→au:=fun r=>⟨(.imm true .bool r),[],[]⟩
theorem ajE:∀(zp0:Bool)(p0:aA),bH abw alX ⟨[(.imm zp0 aK p0)],[]⟩=(Z0 p0).run fun r=>some (UN zp0 p0 r):=fun _ _=>by kernel_rfl
def alW (av:List AV) (rs:List Root):Tre au:=
 aB av fun a0_ av0=>
 aJ av0<|
 aJ rs<|
 bB aK a0_ fun z2 d1=>
 .mat (sH d1) fun r=>.ret (UN z2 d1 r)
def II:Ctr:=dx [] alW
theorem MJ:Contract Tryz.prog .none 89 II:=aC (V:=abw) aR (ak Z8 axT (ak M7 aoA (ak qQ aoy aH))) Tryz.func89 bn fun _ _ _=>aI fun _ _=>aZ<|aZ<|dF fun _ _=>fun h=>by intros;subst_vars;exact aW (ajE _ _) h
def Dv (p0:aA):Tre Bool:=
 .mat (zi p0) fun r1=>
 .cond r1
  (.mat (au7 p0.1 p0.2.1) fun r2=>
  .mat (zG r2 p0.2.1) fun r3=>
  .ret r3)
  (.ret false)
def rM (p0:aA):Option Bool:=(Dv p0).run some
-- more
theorem azl{m:Int}(h:1≤m∧m≤10):aL .i64 (rX .i64 1 (aL .u64 m)-1)=auI m:=by
 rw [ER (by omega) (by omega)];rfl
theorem adt(m:Int×List Int×Unit):zi m=some (ahT m):=by
 unfold zi NP ahT
 rw [Tre.aD]
 cases h1:inR m.1 1 10
 ·rfl
 rw [Bool.not_true,cond_false,Tre.aD,Bool.true_and]
 rw [iT] at h1
 by_cases h2:(m.2.1.length:Int)>10
 ·rw [decide_eq_true h2,decide_eq_false (show ¬m.2.1.length≤10 by omega)];rfl
 rw [decide_eq_false h2,cond_false,decide_eq_true (show m.2.1.length≤10 by omega),Bool.true_and]
 rw [Tre.mZ,tZ (xs:=m.2.1) (fun _ x=>cond (inP m.1 x) none (some (.inl false))) (.inr ())]
 ·rw [arA,Option.bind_some]
  cases m.2.1.all (inP m.1)<;>rfl
 ·intro i x hx
  have hi:i<m.2.1.length:=(List.getElem?_eq_some_iff.1 hx).1
  unfold mG
  rw [eB hx,Tre.run_ite,if_pos (oD _)]
  dsimp only
  rw [azl h1,Tre.aD,show inR x 0 (auI m.1)=inP m.1 x from rfl]
  cases inP m.1 x
  ·rfl
  ·simp only [Bool.not_true,cond_false,cond_true,Tre.aN,aY (show i<4611686018427387904 by omega)]
 ·unfold mG
  exact dR
theorem WY(m:Int×List Int×Unit):rM m=some (agW m):=by
 unfold rM Dv
 rw [ah (adt m),Tre.aD]
 unfold agW
 cases h:ahT m
 ·rfl
 obtain ⟨c,ns,rfl,h1,h2,h3,h4⟩:=aqK h
 dsimp only
 rw [cond_true,ah (show au7 (c:Int) (up ns)=some _ from kX (by
  rw [Bool.and_eq_true,iT]
  exact ⟨by omega,by rw [Int.toNat_natCast];exact aaJ (c:=c) (Nat.le_refl c) (by omega) h4⟩))]
 rw [ah (show zG (TR (up ns)) (up ns)=some _ from kX (by
  have:=aem h2 h3 h4
  simp only [Bool.and_eq_true,decide_eq_true_eq,eX];omega))]
 rfl
def Jo:Env:=⟨tau,[(140,Sm),(170,Si),(86,Jg)],[]⟩
def Y7:FnI:=fnI Tryz.f87 []
def Ed (zp0:Bool) (p0:aA):Bool→au:=fun r=>⟨(.imm true .bool r),[⟨true,aK,(.imm zp0),p0⟩],[]⟩
theorem WX:∀(zp0:Bool)(p0:aA),bH Jo Y7 ⟨[(.ptr (0,0) [])],[⟨true,aK,(.imm zp0),p0⟩]⟩=(Dv p0).run fun r=>some (Ed zp0 p0 r):=fun _ _=>by kernel_rfl
def Y6 (av:List AV) (rs:List Root):Tre au:=
 aB av fun a0_ av0=>
 aJ av0<|
 aB rs fun r0_ rs0=>
 aJ rs0<|
 dH (0,0) [] a0_<|
 iL true aK r0_ fun m1 d2=>
 fI m1 fun z3=>
 .mat (rM d2) fun r=>.ret (Ed z3 d2 r)
def Jp:Ctr:=dx [] Y6
theorem WZ:Contract Tryz.prog .none 87 Jp:=aC (V:=Jo) aR (ak adu axK (ak adr axR (ak ND atq aH))) Tryz.func87 bn fun _ _ _=>aI fun _ _=>aZ<|aI fun _ _=>aZ<|gy<|tRt fun _ _=>nQ fun _=>fun h=>by intros;subst_vars;exact aW (WX _ _) h
def aaP (p0:aA):Tre Bool:=
 .mat (rM p0) fun r1=>
 .ret r1
def Ct (p0:aA):Option Bool:=(aaP p0).run some
def abQ:Env:=⟨tau,[(87,Jp)],[]⟩
def amZ:FnI:=fnI Tryz.f27 []
def U9 (_:Bool) (_:aA):Bool→au:=fun r=>⟨(.imm true .bool r),[],[]⟩
theorem akt:∀(zp0:Bool)(p0:aA),bH abQ amZ ⟨[(.imm zp0 aK p0)],[]⟩=(aaP p0).run fun r=>some (U9 zp0 p0 r):=fun _ _=>by kernel_rfl
def amY (av:List AV) (rs:List Root):Tre au:=
 aB av fun a0_ av0=>
 aJ av0<|
 aJ rs<|
 bB aK a0_ fun z2 d1=>
 .mat (Ct d1) fun r=>.ret (U9 z2 d1 r)
def abR:Ctr:=dx [] amY
theorem aku:Contract Tryz.prog .none 27 abR:=aC (V:=abQ) aR (ak WZ azQ aH) Tryz.func27 bn fun _ _ _=>aI fun _ _=>aZ<|aZ<|dF fun _ _=>fun h=>by intros;subst_vars;exact aW (akt _ _) h
def MZ (p0:aA) (p1:aA):Tre Bool:=
 .cond (decide (p0.1=p1.1))
  (.mat (zG p0.2.1 p1.2.1) fun r1=>
  .ret r1)
  (.ret false)
def sM (p0:aA) (p1:aA):Option Bool:=(MZ p0 p1).run some
def QZ:Env:=⟨tau,[(113,nE)],[]⟩
def aeR:FnI:=fnI Tryz.f91 []
def KP (_:Bool) (_:Bool) (_:aA) (_:aA):Bool→au:=fun r=>⟨(.imm true .bool r),[],[]⟩
theorem acN:∀(zp0 zp1:Bool)(p0 p1:aA),bH QZ aeR ⟨[(.imm zp0 aK p0),(.imm zp1 aK p1)],[]⟩=(MZ p0 p1).run fun r=>some (KP zp0 zp1 p0 p1 r):=fun _ _ _ _=>by kernel_rfl
def aeQ (av:List AV) (rs:List Root):Tre au:=
 aB av fun a0_ av0=>
 aB av0 fun a1_ av1=>
 aJ av1<|
 aJ rs<|
 bB aK a0_ fun z2 d1=>
 bB aK a1_ fun z4 d3=>
 .mat (sM d1 d3) fun r=>.ret (KP z2 z4 d1 d3 r)
def FL:Ctr:=dx [] aeQ
theorem Oy:Contract Tryz.prog .none 91 FL:=aC (V:=QZ) aR (ak qQ aoy aH) Tryz.func91 bn fun _ _ _=>aI fun _ _=>aI fun _ _=>aZ<|aZ<|dF fun _ _=>dF fun _ _=>fun h=>by intros;subst_vars;exact aW (acN _ _ _ _) h
def UZ (p0:(List aA)):Tre Int:=
 .ret (p0.length:Int)
def ac0 (p0:(List aA)):Option Int:=(UZ p0).run some
theorem Ws(p0:(List aA)):ac0 p0=some (p0.length:Int):=rfl
def OJ:Env:=⟨tau,[],[]⟩
def ac2:FnI:=fnI Tryz.f184 []
def IZ (_:Bool) (_:(List aA)):Int→au:=fun r=>⟨(.i r),[],[]⟩
theorem aal:∀(zp0:Bool)(p0:(List aA)),bH OJ ac2 ⟨[(.imm zp0 (.sl aK) p0)],[]⟩=(UZ p0).run fun r=>some (IZ zp0 p0 r):=fun _ _=>by kernel_rfl
def ac1 (av:List AV) (rs:List Root):Tre au:=
 aB av fun a0_ av0=>
 aJ av0<|
 aJ rs<|
 bB (.sl aK) a0_ fun z2 d1=>
 .ret (IZ z2 d1 (d1.length:Int))
def OL:Ctr:=dx [] ac1
theorem aam:Contract Tryz.prog .none 184 OL:=aC (V:=OJ) aR aH Tryz.func184 bn fun _ _ _=>aI fun _ _=>aZ<|aZ<|dF fun _ _=>fun h=>by intros;subst_vars;exact yt (aal _ _) (Ws _) h
def jB (ME:(List aA)) (Qv:Int) (Qw:aA):Int→Tre (Int ⊕ (Bool ⊕ Unit)):=fun s9=>
 .cond (decide (s9<Qv))
  (.ite (0≤s9∧s9<(ME.length:Int))<|
  .mat (ME[s9.toNat]?) fun x7=>
  .mat (sM Qw x7) fun r8=>
  .cond r8
   (.ret (.inr (.inl false)))
   (.ret (.inl (aL .i64 (s9+1)))))
  (.ret (.inr (.inr ())))
def kZ (aX:(List aA)) (bD:(List aA)) (dL:Int):Int→Tre (Int ⊕ (Bool ⊕ Unit)):=fun s4=>
 .cond (decide (s4<dL))
  (.ite (0≤s4∧s4<(bD.length:Int))<|
  .mat (bD[s4.toNat]?) fun x2=>
  .mat (sH x2) fun r3=>
  .cond (!r3)
   (.ret (.inr (.inl false)))
   (.ite ((0:Int)≤0∧(0:Int)<(aX.length:Int))<|
   .mat (aX[0]?) fun x4=>
   .cond (!decide (x2.1=x4.1))
    (.ret (.inr (.inl false)))
    (.ite ((0:Int)≤0∧(0:Int)<(aX.length:Int))<|
    .mat (aX[0]?) fun x5=>
    .cond (!decide ((x2.2.1.length:Int)=(x5.2.1.length:Int)))
     (.ret (.inr (.inl false)))
     (.ite (0≤(0:Int)∧(0:Int)≤s4∧s4≤(aX.length:Int))<|
     let v6:=(aX.drop 0).take (s4-0).toNat
     .mat (aS (jB v6 (v6.length:Int) x2) 0) fun l9=>
     .alt l9
      (fun a10=>
       .ret (.inr (.inl a10)))
      (fun _=>
       .ret (.inl (aL .i64 (s4+1))))))))
  (.ret (.inr (.inr ())))
def JX (p0:(List aA)):Tre Bool:=
 let v1:=inR (p0.length:Int) 1 400
 .cond (!v1)
  (.ret false)
  (.mat (aS (kZ p0 p0 (p0.length:Int)) 0) fun l12=>
  .alt l12
   (fun a13=>
    .ret a13)
   (fun _=>
    .ret true))
def wD (p0:(List aA)):Option Bool:=(JX p0).run some
-- more
def asU (ss:List (Int×List Int×Unit)) (i:Nat) (x:Int×List Int×Unit):Bool:=
 !agW x||!decide (x.1=(A8 ss).1)||!decide ((x.2.1.length:Int)=((A8 ss).2.1.length:Int))||(ss.take i).any fun y=>decide (x.1=y.1)&&decide (x.2.1=y.2.1)
theorem atz(ss:List (Int×List Int×Unit)):goV (asU ss) 0 ss=goV (alr ss) 0 ss:=by
 refine atA fun i x hx hp=>?_
 unfold asU alr
 cases agW x
 ·rfl
 by_cases hf:x.1=(A8 ss).1
 ·have key:∀l:List (Int×List Int×Unit),(∀y∈l,y.1=(A8 ss).1)→(l.any fun y=>decide (x.1=y.1)&&decide (x.2.1=y.2.1))=l.any fun y=>decide (x.2.1=y.2.1):=by
   intro l
   induction l with
   |nil=>intro _;rfl
   |cons y l ih=>
    intro hy
    simp only [List.any_cons]
    rw [ih fun z hz=>hy z (.tail _ hz),decide_eq_true (hf.trans (hy y (.head _)).symm),Bool.true_and]
  rw [key (ss.take i) fun y hy=>by
   obtain ⟨j,hj⟩:=List.getElem?_of_mem hy
   have hji:j<i:=by have:=(List.getElem?_eq_some_iff.1 hj).1;rw [List.length_take] at this;omega
   rw [List.getElem?_take,if_pos hji] at hj
   have:=hp j y hji hj
   unfold asU at this
   simp only [Bool.or_eq_false_iff,Bool.not_eq_false'] at this
   exact of_decide_eq_true this.1.1.2]
 ·rw [decide_eq_false hf];rfl
theorem Ox(a b:Int×List Int×Unit)(ha:a.2.1.length≤1048576)(hb:b.2.1.length≤1048576):sM a b=some (decide (a.1=b.1)&&decide (a.2.1=b.2.1)):=by
 unfold sM MZ
 rw [Tre.aD]
 cases decide (a.1=b.1)
 ·rfl
 rw [cond_true,Bool.true_and,ah (show zG a.2.1 b.2.1=some _ from kX (by simp only [Bool.and_eq_true,decide_eq_true_eq];exact ⟨ha,hb⟩))]
 rfl
theorem aac(ss:List (Int×List Int×Unit))(h:adS ss)(x:Int×List Int×Unit)(hx:x.2.1.length≤1048576)(l:List (Int×List Int×Unit))(hl:∀y∈l,y∈ss)(hll:l.length≤1048576) :
  aS (jB l (l.length:Int) x) 0=some (cond (l.any fun y=>decide (x.1=y.1)&&decide (x.2.1=y.2.1)) (.inl false) (.inr ())):=by
 rw [tZ (xs:=l) (fun _ y=>cond (decide (x.1=y.1)&&decide (x.2.1=y.2.1)) (some (.inl false)) none) (.inr ())]
 ·rw [arB]
 ·intro j y hy
  have hj:j<l.length:=(List.getElem?_eq_some_iff.1 hy).1
  unfold jB
  rw [eB hy,ah (Ox x y hx (h.2 y (hl y (List.mem_of_getElem? hy)))),Tre.aD]
  cases decide (x.1=y.1)&&decide (x.2.1=y.2.1)
  ·simp only [cond_false,Tre.aN,aY (show j<4611686018427387904 by omega)]
  ·rfl
 ·unfold jB
  exact dR
theorem KU(ss:List (Int×List Int×Unit))(h:adS ss):wD ss=some (adU ss):=by
 unfold wD JX adU
 dsimp only
 rw [Tre.aD]
 cases h1:inR (ss.length:Int) 1 400
 ·rfl
 rw [iT] at h1
 rw [Bool.not_true,cond_false,Bool.true_and,Tre.mZ,tZ (xs:=ss) (fun i x=>cond (asU ss i x) (some (.inl false)) none) (.inr ())]
 ·rw [arC,Option.bind_some,atz]
  cases goV (alr ss) 0 ss<;>rfl
 ·intro i x hx
  have hi:i<ss.length:=(List.getElem?_eq_some_iff.1 hx).1
  have hxl:=h.2 x (List.mem_of_getElem? hx)
  unfold kZ
  rw [eB hx,ah (Ev x hxl),Tre.aD]
  unfold asU
  cases agW x
  ·rfl
  rw [Bool.not_true,cond_false,Bool.false_or,Tre.run_ite,if_pos ⟨Int.le_refl _,by omega⟩,ah (aeu (by omega)),Tre.aD]
  cases decide (x.1=(A8 ss).1)
  ·rfl
  rw [Bool.not_true,cond_false,Bool.false_or,Tre.run_ite,if_pos ⟨Int.le_refl _,by omega⟩,ah (aeu (by omega)),Tre.aD]
  cases decide ((x.2.1.length:Int)=((A8 ss).2.1.length:Int))
  ·rfl
  rw [Bool.not_true,cond_false,Bool.false_or,Tre.run_ite,if_pos ⟨Int.le_refl _,by omega,by omega⟩]
  have hv:(ss.drop 0).take (((i:Int)-0).toNat)=ss.take i:=by rw [List.drop_zero,show ((i:Int)-0).toNat=i by omega]
  rw [hv,ah (aac ss h x hxl (ss.take i) (fun y hy=>List.mem_of_mem_take hy) (by rw [List.length_take];omega))]
  cases (ss.take i).any fun y=>decide (x.1=y.1)&&decide (x.2.1=y.2.1)
  ·simp only [cond_false,aY (show i<4611686018427387904 by omega)];rfl
  ·rfl
 ·unfold kZ
  exact dR
def mq:Env:=⟨tau,[(184,OL),(90,pW),(89,II),(91,FL)],[]⟩
def wE:Code:=(Tryz.f104.body).getD .skip
def uZ (anY:Bool) (anZ:Bool) (auX:Bool) (auY:Bool) (Qr:(List aA)) (Qs:(List aA)) (Qt:Int) (Qu:Int) (ME:(List aA)) (Qv:Int) (Qw:aA):Int→St:=fun x=>bT [(0,(.imm anY (.sl aK) Qr)),(4,(.ptr (6,0) [])),(11,(.imm anZ (.sl aK) Qs)),(12,(.i Qt)),(13,(.i Qu)),(43,(.imm auX (.sl aK) ME)),(44,(.i Qv)),(45,(.i x))] [((6,0),some ⟨true,aK,(.imm auY),Qw⟩)]
def mV (anY:Bool) (anZ:Bool) (_:Bool) (_:Bool) (Qr:(List aA)) (Qs:(List aA)) (Qt:Int) (Qu:Int) (_:(List aA)) (_:Int) (_:aA):(Bool ⊕ Unit)→Ex×St
 |.inl x=>(.ret,bT [(0,(.imm anY (.sl aK) Qr)),(2,(.imm true .bool x)),(11,(.imm anZ (.sl aK) Qs)),(12,(.i Qt)),(13,(.i Qu))] [])
 |.inr _=>(.exit 2,bT [(0,(.imm anY (.sl aK) Qr)),(2,.dead),(11,(.imm anZ (.sl aK) Qs)),(12,(.i Qt)),(13,(.i Qu))] [])
def FN (s:St):Tre (Ex×St):=
 bB (.sl aK) (s.tmps 0) fun z3 d2=>
 dH (6,0) [] (s.tmps 4)<|
 bB (.sl aK) (s.tmps 11) fun z7 d6=>
 aF true .n (s.tmps 12) fun d9=>
 aF true .n (s.tmps 13) fun d11=>
 bB (.sl aK) (s.tmps 43) fun z14 d13=>
 aF true .n (s.tmps 44) fun d16=>
 aF true .n (s.tmps 45) fun d18=>
 bq true aK (s.roots (6,0)) fun m20 d21=>
 fI m20 fun z22=>
 .mat (aS (jB d13 d16 d21) d18) fun x=>.alt x (fun a0=>.ret (mV z3 z7 z14 z22 d2 d6 d9 d11 d13 d16 d21 (.inl a0))) (fun b0=>.ret (mV z3 z7 z14 z22 d2 d6 d9 d11 d13 d16 d21 (.inr b0)))
def lH:bF:=⟨([0,4,11,12,13,43,44,45],[(6,0)]),([0,2,11,12,13],[]),FN⟩
def uY (iG:Bool) (oQ:Bool) (aX:(List aA)) (bD:(List aA)) (dL:Int):Int→St:=fun x=>bT [(0,(.imm iG (.sl aK) aX)),(11,(.imm oQ (.sl aK) bD)),(12,(.i dL)),(13,(.i x))] []
def mU (_:Bool) (_:Bool) (_:(List aA)) (_:(List aA)) (_:Int):(Bool ⊕ Unit)→Ex×St
 |.inl x=>(.ret,bT [(2,(.imm true .bool x))] [])
 |.inr _=>(.exit 0,bT [(2,.dead)] [])
def FM (s:St):Tre (Ex×St):=
 bB (.sl aK) (s.tmps 0) fun z3 d2=>
 bB (.sl aK) (s.tmps 11) fun z6 d5=>
 aF true .n (s.tmps 12) fun d8=>
 aF true .n (s.tmps 13) fun d10=>
 .mat (aS (kZ d2 d5 d8) d10) fun x=>.alt x (fun a0=>.ret (mU z3 z6 d2 d5 d8 (.inl a0))) (fun b0=>.ret (mU z3 z6 d2 d5 d8 (.inr b0)))
def lG:bF:=⟨([0,11,12,13],[]),([2],[]),FM⟩
def qy:List (Nat×bF):=[(9,lH),(4,lG)]
theorem Px:∀(anY anZ auX auY:Bool)(Qr Qs:(List aA))(Qt Qu:Int)(ME:(List aA))(Qv:Int)(Qw:aA)(x:Int)(c:St→Option (Ex×St)),den mq qy (aV wE 1) (uZ anY anZ auX auY Qr Qs Qt Qu ME Qv Qw x) (bZ lH.kp lH.kx c)=(jB ME Qv Qw x).run (cu (uZ anY anZ auX auY Qr Qs Qt Qu ME Qv Qw) (mV anY anZ auX auY Qr Qs Qt Qu ME Qv Qw) c):=fun _ _ _ _ _ _ _ _ _ _ _ _ _=>by
 kernel_rfl
theorem Uh:bU mq qy (aV wE 1) lH:=fq fun s e s' h=>by
 generalize hs:restrict lH.kp s=s1 at h
 have h:(FN s1).run some=some (e,s'):=h
 obtain ⟨z3,d2,e1,h_0⟩:=dJ h
 obtain ⟨e4,h_1⟩:=EY h_0
 obtain ⟨z7,d6,e5,h_2⟩:=dJ h_1
 obtain ⟨d9,e8,h_3⟩:=bO h_2
 obtain ⟨d11,e10,h_4⟩:=bO h_3
 obtain ⟨z14,d13,e12,h_5⟩:=dJ h_4
 obtain ⟨d16,e15,h_6⟩:=bO h_5
 obtain ⟨d18,e17,h_7⟩:=bO h_6
 obtain ⟨m20,d21,e19,h_8⟩:=gG h_7
 obtain ⟨z22,rfl,h_9⟩:=BF h_8
 obtain ⟨y,hy,hz⟩:=iA h_9
 refine ⟨_,_,uZ z3 z7 z14 z22 d2 d6 d9 d11 d13 d16 d21,mV z3 z7 z14 z22 d2 d6 d9 d11 d13 d16 d21,jB d13 d16 d21,d18,y,?_,hy,?_,Px z3 z7 z14 z22 d2 d6 d9 d11 d13 d16 d21⟩
 ·subst hs;exact aT (T:=[(0,(.imm z3 (.sl aK) d2)),(4,(.ptr (6,0) [])),(11,(.imm z7 (.sl aK) d6)),(12,(.i d9)),(13,(.i d11)),(43,(.imm z14 (.sl aK) d13)),(44,(.i d16)),(45,(.i d18))]) (U:=[((6,0),some ⟨true,aK,(.imm z22),d21⟩)]) rfl rfl ⟨e1,e4,e5,e8,e10,e12,e15,e17,trivial⟩ ⟨e19,trivial⟩
 ·rcases y with x|x<;>exact Option.some.inj hz
theorem Pw:∀(iG oQ:Bool)(aX bD:(List aA))(dL x:Int)(c:St→Option (Ex×St)),den mq qy (aV wE 0) (uY iG oQ aX bD dL x) (bZ lG.kp lG.kx c)=(kZ aX bD dL x).run (cu (uY iG oQ aX bD dL) (mU iG oQ aX bD dL) c):=fun _ _ _ _ _ _ _=>by
 kernel_rfl
theorem Ug:bU mq qy (aV wE 0) lG:=fq fun s e s' h=>by
 generalize hs:restrict lG.kp s=s1 at h
 have h:(FM s1).run some=some (e,s'):=h
 obtain ⟨z3,d2,e1,h_0⟩:=dJ h
 obtain ⟨z6,d5,e4,h_1⟩:=dJ h_0
 obtain ⟨d8,e7,h_2⟩:=bO h_1
 obtain ⟨d10,e9,h_3⟩:=bO h_2
 obtain ⟨y,hy,hz⟩:=iA h_3
 refine ⟨_,_,uY z3 z6 d2 d5 d8,mU z3 z6 d2 d5 d8,kZ d2 d5 d8,d10,y,?_,hy,?_,Pw z3 z6 d2 d5 d8⟩
 ·subst hs;exact aT (T:=[(0,(.imm z3 (.sl aK) d2)),(11,(.imm z6 (.sl aK) d5)),(12,(.i d8)),(13,(.i d10))]) (U:=[]) rfl rfl ⟨e1,e4,e7,e9,trivial⟩ trivial
 ·rcases y with x|x<;>exact Option.some.inj hz
def acU:FnI:=fnI Tryz.f104 qy
def IQ (_:Bool) (_:(List aA)):Bool→au:=fun r=>⟨(.imm true .bool r),[],[]⟩
theorem Z9:∀(zp0:Bool)(p0:(List aA)),bH mq acU ⟨[(.imm zp0 (.sl aK) p0)],[]⟩=(JX p0).run fun r=>some (IQ zp0 p0 r):=fun _ _=>by kernel_rfl
def acT (av:List AV) (rs:List Root):Tre au:=
 aB av fun a0_ av0=>
 aJ av0<|
 aJ rs<|
 bB (.sl aK) a0_ fun z2 d1=>
 .mat (wD d1) fun r=>.ret (IQ z2 d1 r)
def OE:Ctr:=dx [] acT
theorem aad:Contract Tryz.prog .none 104 OE:=aC (V:=mq) aR (ak aam ax2 (ak oV abr (ak MJ att (ak Oy awX aH)))) Tryz.func104 (bM (n:=2) fun k hk=>by
 match k,hk with
 |0,_=>exact bP (id:=4) Ug
 |1,_=>exact bP (id:=9) Uh) fun _ _ _=>aI fun _ _=>aZ<|aZ<|dF fun _ _=>fun h=>by intros;subst_vars;exact aW (Z9 _ _) h
def kY (nH:Int) (MC:List Int) (qK:Int):(Int×(List Int))→Tre ((Int×(List Int)) ⊕ (List Int)):=fun s7=>
 .cond (decide (s7.1<qK))
  (.ite (0≤s7.1∧s7.1<(MC.length:Int))<|
  .mat (MC[s7.1.toNat]?) fun x3=>
  .ite (0≤nH)<|
  .ite ((s7.2.length+1)*8≤bQ∧1≤8)<|
  let v4:=s7.2++([Pz .i64 x3 nH])
  .ret (.inl (aL .i64 (s7.1+1),v4)))
  (.ret (.inr s7.2))
def JU (p0:(Int×(Int×Unit))) (p1:Int) (p2:aA):Tre (Int×(List Int)):=
 .mat (lF p0) fun r1=>
 .cond (!r1)
  (.ret (1,[]))
  (.mat (sH p2) fun r2=>
  .cond (!r2)
   (.ret (1,[]))
   (.cond (!(inR p1 1 5))
    (.ret (2,[]))
    (.cond (!decide (p2.1=aL .i64 (p1+p0.1)))
     (.ret (2,[]))
     (.mat (aS (kY p1 p2.2.1 (p2.2.1.length:Int)) (0,[])) fun l5=>
     .cond (!decide ((l5.length:Int)=p1))
      (.ret (6,[]))
      (.mat (oq p0 l5) fun r6=>
      .mat (sM (r6.1,(r6.2,())) p2) fun r7=>
      .cond (!r7)
       (.ret (6,[]))
       (.ret (0,l5)))))))
def qx (p0:(Int×(Int×Unit))) (p1:Int) (p2:aA):Option (Int×(List Int)):=(JU p0 p1 p2).run some
-- more
theorem ao3{f:TF3}(hf:aQ f=true){w:List Nat}(hw:inL (FOf f hf) w)(h1:1≤w.length)(h5:w.length≤5):qx f (w.length:Int) (liftM f w)=some (0,up w):=by
 have hd:=dM hf
 have hlw:(liftM f w).2.1.length=w.length:=by show (up (dY w.length w)).length=_;rw [eX,iU]
 unfold qx JU
 rw [ah (Dl f),hf,Tre.aD,Bool.not_true,cond_false,ah (Ev _ (by omega)),Yf hf hw h5,Tre.aD,Bool.not_true,cond_false,Tre.aD,iT.2 (by omega),Bool.not_true,cond_false,Tre.aD,bY (by omega) (by omega),decide_eq_true (show (liftM f w).1=(w.length:Int)+f.1 from rfl),Bool.not_true,cond_false]
 rw [ah (show aS (kY (w.length:Int) (liftM f w).2.1 ((liftM f w).2.1.length:Int)) (0,[])=some (up w) from ?_)]
 ·rw [eX,Tre.aD,decide_eq_true rfl,Bool.not_true,cond_false,ah (afd hf hw h5)]
  dsimp only
  rw [ah (Ox ((liftM f w).1,(liftM f w).2.1,()) (liftM f w) (by show (liftM f w).2.1.length≤_;omega) (by omega)),decide_eq_true rfl,decide_eq_true rfl,Tre.aD]
  rfl
 refine fH (fun i=>((i:Int),up (w.take i))) w.length _ (fun i hi=>?_) ?_
 ·have hx:=aec hi
  have hlt:cf w i<2 ^ f.1.toNat:=aly hw i
  have hr:(liftM f w).2.1[i]?=some ((2 ^ i|||cf w i <<< w.length:Nat):Int):=Tf (sU hx)
  unfold kY
  dsimp only
  rw [eB hr,Tre.run_ite,if_pos (by omega),Tre.run_ite,if_pos (by unfold bQ;rw [eX,List.length_take];omega),Tre.aN,aY (by omega),ame (by omega),aiY hi,List.take_add_one,hx]
  simp [up]
 ·unfold kY
  dsimp only
  rw [hlw,dR,Tre.aN,List.take_of_length_le (by omega)]
def wB:Env:=⟨tau,[(88,yM),(89,II),(90,pW),(67,lI),(83,yA),(91,FL)],[]⟩
def Oz:Code:=(Tryz.f28.body).getD .skip
def DY (ag8:Bool) (abf:Bool) (nH:Int) (MC:List Int) (qK:Int) (VO:(Int×(Int×Unit))) (VP:aA):(Int×(List Int))→St:=fun x=>bT [(1,(.i nH)),(3,(.ptr (5,0) [])),(5,(.ptr (7,0) [])),(8,(.ref (10,0) [])),(35,(.imm ag8 .il MC)),(36,(.i qK)),(37,(.i x.1))] [((5,0),some ⟨true,aM,.own,VO⟩),((7,0),some ⟨true,aK,(.imm abf),VP⟩),((10,0),some ⟨false,.il,.own,x.2⟩)]
def Ch (_:Bool) (abf:Bool) (nH:Int) (_:List Int) (_:Int) (VO:(Int×(Int×Unit))) (VP:aA):(List Int)→Ex×St:=fun x=>(.exit 1,bT [(1,(.i nH)),(3,(.ptr (5,0) [])),(5,(.ptr (7,0) [])),(8,(.ref (10,0) []))] [((5,0),some ⟨true,aM,.own,VO⟩),((7,0),some ⟨true,aK,(.imm abf),VP⟩),((10,0),some ⟨false,.il,.own,x⟩)])
def V9 (s:St):Tre (Ex×St):=
 aF true .n (s.tmps 1) fun d2=>
 dH (5,0) [] (s.tmps 3)<|
 dH (7,0) [] (s.tmps 5)<|
 fQ (10,0) [] (s.tmps 8)<|
 bB .il (s.tmps 35) fun z8 d7=>
 aF true .n (s.tmps 36) fun d10=>
 aF true .n (s.tmps 37) fun d12=>
 bq true aM (s.roots (5,0)) fun m14 d15=>
 asM .own m14<|
 bq true aK (s.roots (7,0)) fun m17 d18=>
 fI m17 fun z19=>
 bq false .il (s.roots (10,0)) fun m21 d22=>
 asM .own m21<|
 .mat (aS (kY d2 d7 d10) (d12,d22)) fun x=>.ret (Ch z8 z19 d2 d7 d10 d15 d18 x)
def pU:bF:=⟨([1,3,5,8,35,36,37],[(5,0),(7,0),(10,0)]),([1,3,5,8],[(5,0),(7,0),(10,0)]),V9⟩
def Dk:List (Nat×bF):=[(7,pU)]
theorem Pv:∀(ag8 abf:Bool)(nH:Int)(MC:List Int)(qK:Int)(VO:(Int×(Int×Unit)))(VP:aA)(x:(Int×(List Int)))(c:St→Option (Ex×St)),den wB Dk (aV Oz 0) (DY ag8 abf nH MC qK VO VP x) (bZ pU.kp pU.kx c)=(kY nH MC qK x).run (cu (DY ag8 abf nH MC qK VO VP) (Ch ag8 abf nH MC qK VO VP) c):=fun _ _ _ _ _ _ _ _ _=>by
 kernel_rfl
theorem Uf:bU wB Dk (aV Oz 0) pU:=dB fun _ _ _=>aO fun _=>gy<|gy<|nR<|dF fun _ _=>aO fun _=>aO fun _=>cO fun _ _=>tM<|cO fun _ _=>nQ fun _=>cO fun _ _=>tM<|fun h _ e20 _ e16 _ e13 e11 e9 e6 e5 e4 e3 e1=>cK (Pv _ _ _ _ _ _ _) h (by subst_vars;exact aT rfl rfl ⟨e1,e3,e4,e5,e6,e9,e11,trivial⟩ ⟨e13,e16,e20,trivial⟩)
def acP:FnI:=fnI Tryz.f28 Dk
def IK (_:Bool) (_:(Int×(Int×Unit))) (_:Int) (_:aA):(Int×(List Int))→au:=fun r=>⟨(.tcons (.ref (1,0) []) (.tcons (.i r.1) .tnil)),[],[⟨false,.il,.own,r.2⟩]⟩
theorem Z4:∀(zp0:Bool)(p0:(Int×(Int×Unit)))(p1:Int)(p2:aA),bH wB acP ⟨[(.imm true aM p0),(.i p1),(.imm zp0 aK p2)],[]⟩=(JU p0 p1 p2).run fun r=>some (IK zp0 p0 p1 p2 r):=fun _ _ _ _=>by kernel_rfl
def acO (av:List AV) (rs:List Root):Tre au:=
 aB av fun a0_ av0=>
 aB av0 fun a1_ av1=>
 aB av1 fun a2_ av2=>
 aJ av2<|
 aJ rs<|
 aF true aM a0_ fun d1=>
 aF true .n a1_ fun d2=>
 bB aK a2_ fun z4 d3=>
 .mat (qx d1 d2 d3) fun r=>.ret (IK z4 d1 d2 d3 r)
def OA:Ctr:=dx [] acO
theorem Z5:Contract Tryz.prog .none 28 OA:=aC (V:=wB) aR (ak Dm atr (ak MJ att (ak oV abr (ak mD aiI (ak Db atp (ak Oy awX aH)))))) Tryz.func28 (bM (n:=1) fun k hk=>by
 match k,hk with
 |0,_=>exact bP (id:=7) Uf) fun _ _ _=>aI fun _ _=>aI fun _ _=>aI fun _ _=>aZ<|aZ<|aO fun _=>aO fun _=>dF fun _ _=>fun h=>by intros;subst_vars;exact aW (Z4 _ _ _ _) h
def Na (p0:aA) (p1:aA):Tre Int:=
 .mat (sH p0) fun r1=>
 .cond (!r1)
  (.ret 1)
  (.mat (sH p1) fun r2=>
  .cond (!r2)
   (.ret 1)
   (.cond (!decide (p0.1=p1.1))
    (.ret 2)
    (.ret 0)))
def yR (p0:aA) (p1:aA):Option Int:=(Na p0 p1).run some
def Rh:Env:=⟨tau,[(89,II)],[]⟩
def ae9:FnI:=fnI Tryz.f92 []
def K6 (_:Bool) (_:Bool) (_:aA) (_:aA):Int→au:=fun r=>⟨(.i r),[],[]⟩
theorem ac7:∀(zp0 zp1:Bool)(p0 p1:aA),bH Rh ae9 ⟨[(.imm zp0 aK p0),(.imm zp1 aK p1)],[]⟩=(Na p0 p1).run fun r=>some (K6 zp0 zp1 p0 p1 r):=fun _ _ _ _=>by kernel_rfl
def ae8 (av:List AV) (rs:List Root):Tre au:=
 aB av fun a0_ av0=>
 aB av0 fun a1_ av1=>
 aJ av1<|
 aJ rs<|
 bB aK a0_ fun z2 d1=>
 bB aK a1_ fun z4 d3=>
 .mat (yR d1 d3) fun r=>.ret (K6 z2 z4 d1 d3 r)
def Ri:Ctr:=dx [] ae8
theorem ac8:Contract Tryz.prog .none 92 Ri:=aC (V:=Rh) aR (ak MJ att aH) Tryz.func92 bn fun _ _ _=>aI fun _ _=>aI fun _ _=>aZ<|aZ<|dF fun _ _=>dF fun _ _=>fun h=>by intros;subst_vars;exact aW (ac7 _ _ _ _) h
def qm (p0:Int):Tre (List Int):=
 .cond (decide (p0<0))
  (.fail)
  (.cond (decide (aL .i64 (p0-0)>0))
   (.ite (((.n:K)=.n∧0≤(aL .i64 (p0-0))∧(aL .i64 (p0-0)).toNat*8≤bQ∧1≤8))<|
   let v1:=List.replicate (aL .i64 (p0-0)).toNat 0
   .ite (0≤(0:Int)∧(0:Int)≤(0:Int)∧(0:Int)≤(v1.length:Int))<|
   .ret ((v1.drop 0).take 0))
   (.ret []))
def jK (p0:Int):Option (List Int):=(qm p0).run some
def vX:Env:=⟨tau,[],[]⟩
def Ko:FnI:=fnI Tryz.f240 []
def tT (_:Int):(List Int)→au:=fun r=>⟨(.ref (1,0) []),[],[⟨false,.il,.own,r⟩]⟩
theorem H9:∀(p0:Int),bH vX Ko ⟨[.nil,(.i p0)],[]⟩=(qm p0).run fun r=>some (tT p0 r):=fun _=>by kernel_rfl
def Kn (av:List AV) (rs:List Root):Tre au:=
 aB av fun a0_ av0=>
 aB av0 fun a1_ av1=>
 aJ av1<|
 aJ rs<|
 alm a0_<|
 aF true .n a1_ fun d1=>
 .mat (jK d1) fun r=>.ret (tT d1 r)
def vY:Ctr:=dx [0] Kn
theorem Ia:Contract Tryz.prog .none 240 vY:=aC (V:=vX) aR aH Tryz.func240 bn fun _ _ _=>aI fun _ _=>aI fun _ _=>aZ<|aZ<|aAl<|aO fun _=>fun h=>by intros;subst_vars;exact aW (H9 _) h
def dX (bR:(List (List Int))) (fU:Int):(Int×Int)→Tre ((Int×Int) ⊕ Int):=fun s3=>
 .cond (decide (s3.2<fU))
  (.ite (0≤s3.2∧s3.2<(bR.length:Int))<|
  .mat (bR[s3.2.toNat]?) fun x1=>
  let v2:=aL .i64 (s3.1+(x1.length:Int))
  .cond (decide (v2<0))
   (.fail)
   (.ret (.inl (v2,aL .i64 (s3.2+1)))))
  (.ret (.inr s3.1))
def eG (mJ:(List (List Int))) (nS:Int):(Int×(List Int))→Tre ((Int×(List Int)) ⊕ (List Int)):=fun s11=>
 .cond (decide (s11.1<nS))
  (.ite (0≤s11.1∧s11.1<(mJ.length:Int))<|
  .mat (mJ[s11.1.toNat]?) fun x5=>
  .ite ((s11.2.length+x5.length)*8≤bQ∧1≤8)<|
  .ret (.inl (aL .i64 (s11.1+1),s11.2++x5)))
  (.ret (.inr s11.2))
def vo (p0:(List (List Int))):Tre (List Int):=
 .mat (aS (dX p0 (p0.length:Int)) (0,0)) fun l3=>
 .mat (jK l3) fun r4=>
 .mat (aS (eG p0 (p0.length:Int)) (0,r4)) fun l6=>
 .ret l6
def lU (p0:(List (List Int))):Option (List Int):=(vo p0).run some
-- more
theorem agU(n:Nat)(h:n≤1048576):jK (n:Int)=some []:=by
 unfold jK qm
 rw [Tre.aD,decide_eq_false (by omega),cond_false,Tre.aD,Int.sub_zero,bY (by omega) (by omega)]
 by_cases h0:n=0
 ·subst h0;rfl
 ·rw [decide_eq_true (by omega),cond_true,Tre.run_ite,if_pos ⟨rfl,by omega,by unfold bQ;omega,by decide⟩]
  dsimp only
  rw [Tre.run_ite,if_pos ⟨by decide,by decide,by omega⟩]
  simp [Tre.aN]
theorem aq8(p:List (List Int))(h:Kk p≤1048576):aS (dX p (p.length:Int)) (0,0)=some (p.flatten.length:Int):=by
 have key:∀(l:List (List Int))(i acc:Nat),p.drop i=l→i≤p.length→acc+Kk l≤1048576→aS (dX p (p.length:Int)) ((acc:Int),(i:Int))=some ((acc+l.flatten.length:Nat):Int):=by
  intro l
  induction l with
  |nil=>
   intro i acc hd hi _
   have:i=p.length:=by have:=List.drop_eq_nil_iff.1 hd;omega
   subst this
   refine eO ?_
   unfold dX
   exact dR.trans (by simp [Tre.aN])
  |cons x l ih=>
   intro i acc hd hi hs
   have hx:p[i]?=some x:=by have:=congrArg (·[0]?) hd;simpa using this
   have hi':i<p.length:=(List.getElem?_eq_some_iff.1 hx).1
   unfold Kk at hs
   simp only [List.length_cons,List.map_cons,List.sum_cons] at hs
   have hpl:p.length≤1048576:=by unfold Kk at h;omega
   have h1:(dX p (p.length:Int) ((acc:Int),(i:Int))).run some=some (.inl (((acc+x.length:Nat):Int),((i+1:Nat):Int))):=by
    unfold dX
    rw [eB hx]
    dsimp only
    rw [bY (by omega) (by omega),Tre.aD,decide_eq_false (by omega),cond_false,Tre.aN,aY (by omega)]
    push_cast
    rfl
   rw [iq h1,ih (i+1) (acc+x.length) (by rw [←List.drop_drop,hd];rfl) (by omega) (by unfold Kk;omega)]
   simp only [List.flatten_cons,List.length_append]
   congr 2;omega
 have:=key p 0 0 rfl (Nat.zero_le _) (by omega)
 rw [Nat.zero_add] at this
 exact this
theorem abb(p:List (List Int))(h:Kk p≤1048576):lU p=some p.flatten:=by
 have hpl:p.length≤1048576:=by unfold Kk at h;omega
 unfold lU vo
 rw [ah (aq8 p h),ah (agU _ (by have:=Ta p;omega))]
 have:=oh (xs:=p) (step:=eG p (p.length:Int)) (fun i acc=>((i:Int),acc)) (fun _ acc x=>.inl (acc++x)) id (fun i acc=>acc=(p.take i).flatten) (by
  intro i acc x hx hI
  have hi:i<p.length:=(List.getElem?_eq_some_iff.1 hx).1
  have hsub:(p.take i).flatten.length+x.length≤p.flatten.length:=by
   have h1:p.take (i+1)=p.take i++[x]:=by rw [List.take_add_one,hx];rfl
   have h2:(p.take (i+1)).flatten.length≤p.flatten.length:=by
    conv=>rhs;rw [←List.take_append_drop (i+1) p]
    rw [List.flatten_append,List.length_append];omega
   rw [h1,List.flatten_append,List.length_append] at h2
   simpa using h2
  refine ⟨?_,?_⟩
  ·unfold eG
   have:=Ta p
   rw [eB hx,Tre.run_ite,if_pos ⟨by subst hI;unfold bQ;dsimp only;omega,by decide⟩,Tre.aN,aY (by omega)]
  ·intro a ha
   cases ha
   rw [hI,List.take_add_one,hx];simp)
  (by
  intro acc hI
  unfold eG
  exact dR)
  p 0 [] rfl (Nat.zero_le _) rfl
 have key:∀(l:List (List Int))(i:Nat)(acc:List Int),xD (β:=List Int) (fun _ acc x=>.inl (acc++x)) id i acc l=acc++l.flatten:=by
  intro l
  induction l with
  |nil=>intro i acc;simp [xD]
  |cons x l ih=>intro i acc;simp only [xD];rw [ih];simp
 rw [key] at this
 rw [ah (show aS (eG p (p.length:Int)) (0,[])=_ from this)]
 rfl
def gI:Env:=⟨tau,[(240,vY)],[]⟩
def lV:Code:=(Tryz.f222.body).getD .skip
def uR (fD:Bool) (GZ:Bool) (bI:(List (List Int))) (bR:(List (List Int))) (fU:Int):(Int×Int)→St:=fun x=>bT [(0,(.imm fD (.sl .il) bI)),(3,(.i x.1)),(9,(.imm GZ (.sl .il) bR)),(10,(.i fU)),(11,(.i x.2))] []
def tO (fD:Bool) (_:Bool) (bI:(List (List Int))) (_:(List (List Int))) (_:Int):Int→Ex×St:=fun x=>(.exit 0,bT [(0,(.imm fD (.sl .il) bI)),(3,(.i x))] [])
def Kl (s:St):Tre (Ex×St):=
 bB (.sl .il) (s.tmps 0) fun z3 d2=>
 aF true .n (s.tmps 3) fun d5=>
 bB (.sl .il) (s.tmps 9) fun z8 d7=>
 aF true .n (s.tmps 10) fun d10=>
 aF true .n (s.tmps 11) fun d12=>
 .mat (aS (dX d7 d10) (d5,d12)) fun x=>.ret (tO z3 z8 d2 d7 d10 x)
def jJ:bF:=⟨([0,3,9,10,11],[]),([0,3],[]),Kl⟩
def tN (anX:Bool) (mJ:(List (List Int))) (nS:Int):(Int×(List Int))→St:=fun x=>bT [(6,(.ref (8,0) [])),(25,(.imm anX (.sl .il) mJ)),(26,(.i nS)),(27,(.i x.1))] [((8,0),some ⟨false,.il,.own,x.2⟩)]
def rW (_:Bool) (_:(List (List Int))) (_:Int):(List Int)→Ex×St:=fun x=>(.exit 2,bT [(6,(.ref (8,0) []))] [((8,0),some ⟨false,.il,.own,x⟩)])
def H7 (s:St):Tre (Ex×St):=
 fQ (8,0) [] (s.tmps 6)<|
 bB (.sl .il) (s.tmps 25) fun z4 d3=>
 aF true .n (s.tmps 26) fun d6=>
 aF true .n (s.tmps 27) fun d8=>
 bq false .il (s.roots (8,0)) fun m10 d11=>
 asM .own m10<|
 .mat (aS (eG d3 d6) (d8,d11)) fun x=>.ret (rW z4 d3 d6 x)
def ji:bF:=⟨([6,25,26,27],[(8,0)]),([6],[(8,0)]),H7⟩
def jy:List (Nat×bF):=[(3,jJ),(11,ji)]
theorem EM:∀(fD GZ:Bool)(bI bR:(List (List Int)))(fU:Int)(x:(Int×Int))(c:St→Option (Ex×St)),den gI jy (aV lV 0) (uR fD GZ bI bR fU x) (bZ jJ.kp jJ.kx c)=(dX bR fU x).run (cu (uR fD GZ bI bR fU) (tO fD GZ bI bR fU) c):=fun _ _ _ _ _ _ _=>by
 kernel_rfl
theorem H8:bU gI jy (aV lV 0) jJ:=dB fun _ _ _=>dF fun _ _=>aO fun _=>dF fun _ _=>aO fun _=>aO fun _=>fun h e11 e9 e6 e4 e1=>cK (EM _ _ _ _ _) h (by subst_vars;exact aT rfl rfl ⟨e1,e4,e6,e9,e11,trivial⟩ trivial)
theorem DL:∀(anX:Bool)(mJ:(List (List Int)))(nS:Int)(x:(Int×(List Int)))(c:St→Option (Ex×St)),den gI jy (aV lV 1) (tN anX mJ nS x) (bZ ji.kp ji.kx c)=(eG mJ nS x).run (cu (tN anX mJ nS) (rW anX mJ nS) c):=fun _ _ _ _ _=>by
 kernel_rfl
theorem GN:bU gI jy (aV lV 1) ji:=dB fun _ _ _=>nR<|dF fun _ _=>aO fun _=>aO fun _=>cO fun _ _=>tM<|fun h _ e9 e7 e5 e2 e1=>cK (DL _ _ _) h (by subst_vars;exact aT rfl rfl ⟨e1,e2,e5,e7,trivial⟩ ⟨e9,trivial⟩)
def P9:FnI:=fnI Tryz.f222 jy
def xW (_:Bool) (_:(List (List Int))):(List Int)→au:=fun r=>⟨(.ref (1,0) []),[],[⟨false,.il,.own,r⟩]⟩
theorem N8:∀(zp0:Bool)(p0:(List (List Int))),bH gI P9 ⟨[(.imm zp0 (.sl .il) p0)],[]⟩=(vo p0).run fun r=>some (xW zp0 p0 r):=fun _ _=>by kernel_rfl
def P8 (av:List AV) (rs:List Root):Tre au:=
 aB av fun a0_ av0=>
 aJ av0<|
 aJ rs<|
 bB (.sl .il) a0_ fun z2 d1=>
 .mat (lU d1) fun r=>.ret (xW z2 d1 r)
def Af:Ctr:=dx [] P8
theorem N9:Contract Tryz.prog .none 222 Af:=aC (V:=gI) aR (ak Ia ayi aH) Tryz.func222 (bM (n:=2) fun k hk=>by
 match k,hk with
 |0,_=>exact bP (id:=3) H8
 |1,_=>exact bP (id:=11) GN) fun _ _ _=>aI fun _ _=>aZ<|aZ<|dF fun _ _=>fun h=>by intros;subst_vars;exact aW (N8 _ _) h
def MR (p0:aA) (p1:aA):Tre (Int×(List Int)):=
 .mat (lU ([p0.2.1,p1.2.1])) fun r1=>
 .mat (alM r1) fun r2=>
 .ret (p0.1,r2)
def yJ (p0:aA) (p1:aA):Option (Int×(List Int)):=(MR p0 p1).run some
def QU:Env:=⟨tau,[(222,Af),(162,IW)],[]⟩
def aeP:FnI:=fnI Tryz.f174 []
def KM (_:Bool) (_:Bool) (_:aA) (_:aA):(Int×(List Int))→au:=fun r=>⟨(.pair (.i r.1) (.pair (.ref (1,0) []) (.imm true .unit ()))),[],[⟨false,.il,.own,r.2⟩]⟩
theorem acL:∀(zp0 zp1:Bool)(p0 p1:aA),bH QU aeP ⟨[(.imm zp0 aK p0),(.imm zp1 aK p1)],[]⟩=(MR p0 p1).run fun r=>some (KM zp0 zp1 p0 p1 r):=fun _ _ _ _=>by kernel_rfl
def aeO (av:List AV) (rs:List Root):Tre au:=
 aB av fun a0_ av0=>
 aB av0 fun a1_ av1=>
 aJ av1<|
 aJ rs<|
 bB aK a0_ fun z2 d1=>
 bB aK a1_ fun z4 d3=>
 .mat (yJ d1 d3) fun r=>.ret (KM z2 z4 d1 d3 r)
def QV:Ctr:=dx [] aeO
theorem acM:Contract Tryz.prog .none 174 QV:=aC (V:=QU) aR (ak N9 aya (ak M7 aoA aH)) Tryz.func174 bn fun _ _ _=>aI fun _ _=>aI fun _ _=>aZ<|aZ<|dF fun _ _=>dF fun _ _=>fun h=>by intros;subst_vars;exact aW (acL _ _ _ _) h
def yH (p0:aA) (p1:aA):Tre Int:=
 .mat (yJ p0 p1) fun r1=>
 let v2:=aL .i64 (2*(r1.2.length:Int))
 let v3:=aL .i64 (v2-(p0.2.1.length:Int))
 let v4:=aL .i64 (v3-(p1.2.1.length:Int))
 .ret v4
def kH (p0:aA) (p1:aA):Option Int:=(yH p0 p1).run some
-- more
theorem al6{f:TF3}(hf:aQ f=true){u w:List Nat}(hu:inL (FOf f hf) u)(hw:inL (FOf f hf) w)(hl:u.length=w.length)(h5:w.length≤5):kH (liftM f u) (liftM f w)=some (2*(rkN (rY u w):Int)):=by
 obtain ⟨h1,h2,h3⟩:=aiX hf hu hw hl h5
 have hlu:(liftM f u).2.1.length=w.length:=by show (up (dY u.length u)).length=_;rw [eX,iU,hl]
 have hlw:(liftM f w).2.1.length=w.length:=by show (up (dY w.length w)).length=_;rw [eX,iU]
 have hs:yJ (liftM f u) (liftM f w)=some ((liftM f u).1,TR ((liftM f u).2.1++(liftM f w).2.1)):=by
  unfold yJ MR
  rw [ah (abb [(liftM f u).2.1,(liftM f w).2.1] (by simp [Kk];omega))]
  have:[(liftM f u).2.1,(liftM f w).2.1].flatten=(liftM f u).2.1++(liftM f w).2.1:=by simp
  rw [this,ah (show alM ((liftM f u).2.1++(liftM f w).2.1)=some _ from kX h1),Tre.aN]
 unfold kH yH
 have hlen:(TR ((liftM f u).2.1++(liftM f w).2.1)).length=w.length+rkN (rY u w):=h2
 rw [ah hs]
 dsimp only
 rw [hlen,hlu,hlw,Tre.aN,bY (n:=2*_) (by omega) (by omega),bY (n:=2*((w.length+rkN (rY u w):Nat):Int)-_) (by omega) (by omega),bY (by omega) (by omega)]
 congr 1
 omega
def DW:Env:=⟨tau,[(174,QV),(67,lI)],[]⟩
def Ua:FnI:=fnI Tryz.f93 []
def zT (_:Bool) (_:Bool) (_:aA) (_:aA):Int→au:=fun r=>⟨(.i r),[],[]⟩
theorem QO:∀(zp0 zp1:Bool)(p0 p1:aA),bH DW Ua ⟨[(.imm zp0 aK p0),(.imm zp1 aK p1)],[]⟩=(yH p0 p1).run fun r=>some (zT zp0 zp1 p0 p1 r):=fun _ _ _ _=>by kernel_rfl
def T9 (av:List AV) (rs:List Root):Tre au:=
 aB av fun a0_ av0=>
 aB av0 fun a1_ av1=>
 aJ av1<|
 aJ rs<|
 bB aK a0_ fun z2 d1=>
 bB aK a1_ fun z4 d3=>
 .mat (kH d1 d3) fun r=>.ret (zT z2 z4 d1 d3 r)
def uW:Ctr:=dx [] T9
theorem BZ:Contract Tryz.prog .none 93 uW:=aC (V:=DW) aR (ak acM axU (ak mD aiI aH)) Tryz.func93 bn fun _ _ _=>aI fun _ _=>aI fun _ _=>aZ<|aZ<|dF fun _ _=>dF fun _ _=>fun h=>by intros;subst_vars;exact aW (QO _ _ _ _) h
def MF (p0:aA) (p1:aA):Tre (Int×Int):=
 .mat (yR p0 p1) fun r1=>
 .cond (!decide (r1=0))
  (.ret (0,r1))
  (.mat (kH p0 p1) fun r2=>
  .ret (r2,0))
def sG (p0:aA) (p1:aA):Option (Int×Int):=(MF p0 p1).run some
-- more
theorem aoZ{f:TF3}(hf:aQ f=true){u w:List Nat}(hu:inL (FOf f hf) u)(hw:inL (FOf f hf) w)(hl:u.length=w.length)(h5:w.length≤5):sG (liftM f u) (liftM f w)=some (2*(rkN (rY u w):Int),0):=by
 have hlu:(liftM f u).2.1.length=w.length:=by show (up (dY u.length u)).length=_;rw [eX,iU,hl]
 have hlw:(liftM f w).2.1.length=w.length:=by show (up (dY w.length w)).length=_;rw [eX,iU]
 have hc:(liftM f u).1=(liftM f w).1:=by show (u.length:Int)+f.1=_;rw [hl];rfl
 have hs:yR (liftM f u) (liftM f w)=some 0:=by
  unfold yR Na
  rw [ah (Ev _ (by omega)),Yf hf hu (by omega),Tre.aD,Bool.not_true,cond_false,ah (Ev _ (by omega)),Yf hf hw h5,Tre.aD,Bool.not_true,cond_false,Tre.aD,decide_eq_true hc]
  rfl
 unfold sG MF
 rw [ah hs,Tre.aD,decide_eq_true rfl,Bool.not_true,cond_false]
 rw [ah (al6 hf hu hw hl h5),Tre.aN]
def Qx:Env:=⟨tau,[(92,Ri),(93,uW)],[]⟩
def aeD:FnI:=fnI Tryz.f29 []
def Ku (_:Bool) (_:Bool) (_:aA) (_:aA):(Int×Int)→au:=fun r=>⟨(.tcons (.i r.1) (.tcons (.i r.2) .tnil)),[],[]⟩
theorem acz:∀(zp0 zp1:Bool)(p0 p1:aA),bH Qx aeD ⟨[(.imm zp0 aK p0),(.imm zp1 aK p1)],[]⟩=(MF p0 p1).run fun r=>some (Ku zp0 zp1 p0 p1 r):=fun _ _ _ _=>by kernel_rfl
def aeC (av:List AV) (rs:List Root):Tre au:=
 aB av fun a0_ av0=>
 aB av0 fun a1_ av1=>
 aJ av1<|
 aJ rs<|
 bB aK a0_ fun z2 d1=>
 bB aK a1_ fun z4 d3=>
 .mat (sG d1 d3) fun r=>.ret (Ku z2 z4 d1 d3 r)
def Qy:Ctr:=dx [] aeC
theorem acA:Contract Tryz.prog .none 29 Qy:=aC (V:=Qx) aR (ak ac8 azR (ak BZ awY aH)) Tryz.func29 bn fun _ _ _=>aI fun _ _=>aI fun _ _=>aZ<|aZ<|dF fun _ _=>dF fun _ _=>fun h=>by intros;subst_vars;exact aW (acz _ _ _ _) h
-- shared
namespace FO
variable (F : FO)
end FO
-- shared
def asK(l:List Nat):Prop:=l≠[]→cf l (l.length-1)≠0
structure azs(F:FO)(N V A R:List Nat):Prop where
 ia:inL F A
 ir:inL F R
 ta:asK A
 tr:asK R
 eq:∀i,cf N i=F.BH V (cf A) i^^^cf R i
theorem avE{F:FO}{p q:List Nat}(hp:inL F p)(hq:inL F q):inL F (an2 p q):=F.auZ hp hq
theorem asZ{F:FO}:∀{V:List Nat}{x:Nat→Nat}{i:Nat},(∀j,x j=0)→F.BH V x i=0:=by
 intro V
 induction V with
 |nil=>intro x i _;simp [FO.BH]
 |cons v vs ih=>
  intro x i h
  simp only [FO.BH]
  rw [h,F.mul_zero,Nat.zero_xor]
  cases i with
  |zero=>rfl
  |succ i=>exact ih fun j=>by rw [h,F.aqT]
theorem azs.uniq{F:FO}{N V A R m:List Nat}(h:azs F N V A R)(hV:inL F V)(hn:V≠[])(ht:asK V)(hR:R.length<V.length)(hm:inL F m)(he:∀i,cf N i=F.BH V (cf m) i):A=O8 m∧R=[]:=by
 have h1:∀i,F.BH V (cf (an2 A m)) i=cf R i:=by
  intro i
  rw [show cf (an2 A m)=fun j=>cf A j^^^cf m j from funext fun j=>apZ A m j,F.aq6,←he i,h.eq i]
  generalize F.BH V (cf A) i=a
  rw [←Nat.xor_assoc,Nat.xor_self,Nat.zero_xor]
 have h2:=F.as0 hV (avE h.ia hm) hn (ht hn) fun i hi=>by rw [h1];exact asV (by omega)
 have h3:∀i,cf R i=0:=fun i=>by rw [←h1,asZ];exact h2
 have h4:R=[]:=by
  apply Classical.byContradiction
  intro hne
  exact h.tr hne (h3 _)
 refine ⟨asB h.ta (ag1 m) fun i=>?_,h4⟩
 have:=h2 i
 rw [apZ] at this
 rw [Xt]
 calc cf A i=(cf A i^^^cf m i)^^^cf m i:=by rw [Nat.xor_assoc,Nat.xor_self,Nat.xor_zero]
  _=cf m i:=by rw [this,Nat.zero_xor]
-- shared
namespace FO
variable (F : FO)
end FO
section
variable {f : TF3} (hf : aQ f = true)
end
def Ar (bI:List Int) (bJ:Int):(Int×(List Int))→Tre ((Int×(List Int)) ⊕ (List Int)):=fun s3=>
 .cond (decide (s3.1<bJ))
  (.ite (0≤s3.1∧s3.1<(bI.length:Int))<|
  .mat (bI[s3.1.toNat]?) fun x2=>
  .ite (0≤s3.1∧s3.1<(s3.2.length:Int))<|
  .mat (s3.2[s3.1.toNat]?) fun x3=>
  .ite (0≤s3.1∧s3.1<(s3.2.length:Int))<|
  .mat (s3.2[s3.1.toNat]?) fun _=>
  let v5:=s3.2.set s3.1.toNat (jT .i64 x3 x2)
  .ret (.inl (aL .i64 (s3.1+1),v5)))
  (.ret (.inr s3.2))
def ajH (p0:List Int) (p1:List Int):Tre (List Int):=
 .mat (yh p0) fun r1=>
 .mat (aS (Ar p1 (p1.length:Int)) (0,r1)) fun l6=>
 .ret l6
def Tt (p0:List Int) (p1:List Int):Option (List Int):=(ajH p0 p1).run some
-- more
def Tv:Env:=⟨tau,[(159,nC)],[]⟩
def aiL:Code:=(Tryz.f95.body).getD .skip
def UU (fD:Bool) (bI:List Int) (bJ:Int):(Int×(List Int))→St:=fun x=>bT [(5,(.ref (7,0) [])),(10,(.imm fD .il bI)),(11,(.i bJ)),(12,(.i x.1))] [((7,0),some ⟨false,.il,.own,x.2⟩)]
def Q7 (_:Bool) (_:List Int) (_:Int):(List Int)→Ex×St:=fun x=>(.exit 0,bT [(5,(.ref (7,0) []))] [((7,0),some ⟨false,.il,.own,x⟩)])
def ajI (s:St):Tre (Ex×St):=
 fQ (7,0) [] (s.tmps 5)<|
 bB .il (s.tmps 10) fun z4 d3=>
 aF true .n (s.tmps 11) fun d6=>
 aF true .n (s.tmps 12) fun d8=>
 bq false .il (s.roots (7,0)) fun m10 d11=>
 asM .own m10<|
 .mat (aS (Ar d3 d6) (d8,d11)) fun x=>.ret (Q7 z4 d3 d6 x)
def EB:bF:=⟨([5,10,11,12],[(7,0)]),([5],[(7,0)]),ajI⟩
def aag:List (Nat×bF):=[(3,EB)]
theorem acV:∀(fD:Bool)(bI:List Int)(bJ:Int)(x:(Int×(List Int)))(c:St→Option (Ex×St)),den Tv aag (aV aiL 0) (UU fD bI bJ x) (bZ EB.kp EB.kx c)=(Ar bI bJ x).run (cu (UU fD bI bJ) (Q7 fD bI bJ) c):=fun _ _ _ _ _=>by
 kernel_rfl
theorem ahE:bU Tv aag (aV aiL 0) EB:=dB fun _ _ _=>nR<|dF fun _ _=>aO fun _=>aO fun _=>cO fun _ _=>tM<|fun h _ e9 e7 e5 e2 e1=>cK (acV _ _ _) h (by subst_vars;exact aT rfl rfl ⟨e1,e2,e5,e7,trivial⟩ ⟨e9,trivial⟩)
def arG:FnI:=fnI Tryz.f95 aag
def abx (_:Bool) (_:Bool) (_:List Int) (_:List Int):(List Int)→au:=fun r=>⟨(.ref (1,0) []),[],[⟨false,.il,.own,r⟩]⟩
theorem aoQ:∀(zp0 zp1:Bool)(p0 p1:List Int),bH Tv arG ⟨[(.imm zp0 .il p0),(.imm zp1 .il p1)],[]⟩=(ajH p0 p1).run fun r=>some (abx zp0 zp1 p0 p1 r):=fun _ _ _ _=>by kernel_rfl
def arF (av:List AV) (rs:List Root):Tre au:=
 aB av fun a0_ av0=>
 aB av0 fun a1_ av1=>
 aJ av1<|
 aJ rs<|
 bB .il a0_ fun z2 d1=>
 bB .il a1_ fun z4 d3=>
 .mat (Tt d1 d3) fun r=>.ret (abx z2 z4 d1 d3 r)
def aiM:Ctr:=dx [] arF
theorem aoR:Contract Tryz.prog .none 95 aiM:=aC (V:=Tv) aR (ak qP aoz aH) Tryz.func95 (bM (n:=1) fun k hk=>by
 match k,hk with
 |0,_=>exact bP (id:=3) ahE) fun _ _ _=>aI fun _ _=>aI fun _ _=>aZ<|aZ<|dF fun _ _=>dF fun _ _=>fun h=>by intros;subst_vars;exact aW (aoQ _ _ _ _) h
def ae1 (p0:List Int):Tre Int:=
 .mat (alM p0) fun r1=>
 .ret (r1.length:Int)
def wS (p0:List Int):Option Int:=(ae1 p0).run some
-- more
theorem aqd{f:TF3}(hf:aQ f=true){L:List Nat}(h:inL (FOf f hf) L)(hl:L.length≤1000):wS (Uk L)=some (rkN L:Int):=by
 have h5:=(Xy hf).2
 unfold wS ae1
 rw [ah (show alM (Uk L)=some _ from kX (atH hf h hl (by omega))),Tre.aN,aAk]
def ae2:Env:=⟨tau,[(162,IW),(67,lI)],[]⟩
def aoT:FnI:=fnI Tryz.f94 []
def XV (_:Bool) (_:List Int):Int→au:=fun r=>⟨(.i r),[],[]⟩
theorem al2:∀(zp0:Bool)(p0:List Int),bH ae2 aoT ⟨[(.imm zp0 .il p0)],[]⟩=(ae1 p0).run fun r=>some (XV zp0 p0 r):=fun _ _=>by kernel_rfl
def aoS (av:List AV) (rs:List Root):Tre au:=
 aB av fun a0_ av0=>
 aJ av0<|
 aJ rs<|
 bB .il a0_ fun z2 d1=>
 .mat (wS d1) fun r=>.ret (XV z2 d1 r)
def Wm:Ctr:=dx [] aoS
theorem abC:Contract Tryz.prog .none 94 Wm:=aC (V:=ae2) aR (ak M7 aoA (ak mD aiI aH)) Tryz.func94 bn fun _ _ _=>aI fun _ _=>aZ<|aZ<|dF fun _ _=>fun h=>by intros;subst_vars;exact aW (al2 _ _) h
def FP (p0:(Int×(Int×Unit))) (p1:List Int) (p2:List Int):Tre (Int×Int):=
 .mat (lD p0 ([p1,p2])) fun r1=>
 .cond (!decide (r1=0))
  (.ret (0,r1))
  (.mat (Tt p1 p2) fun r2=>
  .mat (wS r2) fun r3=>
  .ret (r3,0))
def oC (p0:(Int×(Int×Unit))) (p1:List Int) (p2:List Int):Option (Int×Int):=(FP p0 p1 p2).run some
-- more
theorem aoY{f:TF3}(hf:aQ f=true){u w:List Nat}(hu:inL (FOf f hf) u)(hw:inL (FOf f hf) w)(hl:u.length=w.length)(h5:w.length≤1000):Tt (up u) (up w)=some (up (rY u w)):=by
 have hxl:=GX hl
 unfold Tt ajH
 rw [ah (show yh (up u)=some (up u) from aj3 (by rw [eX];omega))]
 rw [ah (show aS (Ar (up w) ((up w).length:Int)) (0,up u)=some (up (rY u w)) from ?_),Tre.aN]
 refine fH (fun i=>((i:Int),up ((rY u w).take i++u.drop i))) w.length _ (fun i hi=>?_) ?_
 ·have hwi:=aec hi
  have hui:=aec (show i<u.length by omega)
  have hxi:=Tg hui hwi
  have hti:((rY u w).take i).length=i:=by rw [List.length_take];omega
  have hd:u.drop i=cf u i::u.drop (i+1):=by
   obtain ⟨h1,h2⟩:=List.getElem?_eq_some_iff.1 hui
   rw [List.drop_eq_getElem_cons h1,h2]
  have h1:((rY u w).take i++u.drop i)[i]?=some (cf u i):=by rw [List.getElem?_append_right (by omega),hti,Nat.sub_self,hd];rfl
  have h3:((rY u w).take i++u.drop i).set i (cf u i^^^cf w i)=(rY u w).take (i+1)++u.drop (i+1):=by
   rw [List.set_append_right _ _ (by omega),hti,Nat.sub_self,hd,List.set_cons_zero,List.take_add_one,hxi,Option.toList_some,List.append_assoc]
   rfl
  unfold Ar
  dsimp only
  rw [eB (Tf hwi),gu (Tf h1),gu (Tf h1),azq hf (aly hu i) (aly hw i),Int.toNat_natCast,Og,h3,Tre.aN,aY (by omega)]
 ·unfold Ar
  dsimp only
  rw [eX,dR,Tre.aN,List.drop_of_length_le (by omega),List.append_nil,List.take_of_length_le (by omega)]
theorem ajV{f:TF3}(hf:aQ f=true){u w:List Nat}(hu:inL (FOf f hf) u)(hw:inL (FOf f hf) w)(hl:u.length=w.length)(h1:1≤w.length)(h5:w.length≤5):oC f (up u) (up w)=some ((rkN (rY u w):Int),0):=by
 unfold oC FP
 rw [ah (U1 hf (n:=w.length) (by simp) (by simp) (fun x hx=>by
  rcases List.mem_cons.1 hx with rfl|hx
  ·exact ⟨by rw [eX,hl],aow hf hu⟩
  ·rw [List.mem_singleton] at hx;subst hx;exact ⟨eX w,aow hf hw⟩) ⟨h1,h5⟩),Tre.aD,decide_eq_true rfl,Bool.not_true,cond_false]
 rw [ah (aoY hf hu hw hl (by omega)),ah (show wS (up (rY u w))=some _ from aqd hf (adV (Xn hf) hu hw) (by rw [GX hl];omega)),Tre.aN]
def KV:Env:=⟨tau,[(82,wP),(95,aiM),(94,Wm)],[]⟩
def aaf:FnI:=fnI Tryz.f30 []
def FQ (_:Bool) (_:Bool) (_:(Int×(Int×Unit))) (_:List Int) (_:List Int):(Int×Int)→au:=fun r=>⟨(.tcons (.i r.1) (.tcons (.i r.2) .tnil)),[],[]⟩
theorem XP:∀(zp0 zp1:Bool)(p0:(Int×(Int×Unit)))(p1 p2:List Int),bH KV aaf ⟨[(.imm true aM p0),(.imm zp0 .il p1),(.imm zp1 .il p2)],[]⟩=(FP p0 p1 p2).run fun r=>some (FQ zp0 zp1 p0 p1 p2 r):=fun _ _ _ _ _=>by kernel_rfl
def aae (av:List AV) (rs:List Root):Tre au:=
 aB av fun a0_ av0=>
 aB av0 fun a1_ av1=>
 aB av1 fun a2_ av2=>
 aJ av2<|
 aJ rs<|
 aF true aM a0_ fun d1=>
 bB .il a1_ fun z3 d2=>
 bB .il a2_ fun z5 d4=>
 .mat (oC d1 d2 d4) fun r=>.ret (FQ z3 z5 d1 d2 d4 r)
def KW:Ctr:=dx [] aae
theorem XQ:Contract Tryz.prog .none 30 KW:=aC (V:=KV) aR (ak DU awV (ak aoR azS (ak abC awZ aH))) Tryz.func30 bn fun _ _ _=>aI fun _ _=>aI fun _ _=>aI fun _ _=>aZ<|aZ<|aO fun _=>dF fun _ _=>dF fun _ _=>fun h=>by intros;subst_vars;exact aW (XP _ _ _ _ _) h
def sS (aX:List Int) (bD:List Int):Int→Tre (Int ⊕ (Bool ⊕ Unit)):=fun s4=>
 .cond (decide (s4<(aX.length:Int)))
  (.ite (0≤s4∧s4<(aX.length:Int))<|
  .mat (aX[s4.toNat]?) fun x1=>
  .ite (0≤s4∧s4<(bD.length:Int))<|
  .mat (bD[s4.toNat]?) fun x2=>
  .cond (!decide (x1=x2))
   (.ret (.inr (.inl false)))
   (.ret (.inl (aL .i64 (s4+1)))))
  (.ret (.inr (.inr ())))
def afl (p0:List Int) (p1:List Int):Tre Bool:=
 .cond (!decide ((p0.length:Int)=(p1.length:Int)))
  (.ret false)
  (.mat (aS (sS p0 p1) 0) fun l3=>
  .alt l3
   (fun a4=>
    .ret a4)
   (fun _=>
    .ret true))
def Ni (p0:List Int) (p1:List Int):Option Bool:=(afl p0 p1).run some
-- more
theorem arv{u:List Int}(hs:u.length≤1000000):Ni u u=some true:=by
 have key:=air (xs:=u) (step:=sS u u) (β:=Bool ⊕ Unit) (fun _=>true) (.inl false) (.inr ()) (by
  intro i x hx
  have hi:=(List.getElem?_eq_some_iff.1 hx).1
  unfold sS
  rw [eB hx,Tre.run_ite,if_pos (by omega),Int.toNat_natCast,ah hx,Tre.aD,decide_eq_true rfl,Bool.not_true,cond_false,Tre.aN,aY (by omega)]
  rfl) (by
  unfold sS
  exact dR)
 unfold Ni afl
 rw [Tre.aD,decide_eq_true rfl,Bool.not_true,cond_false,ah key]
 have:u.all (fun _=>true)=true:=by simp
 rw [this]
 rfl
def Nj:Env:=⟨tau,[],[]⟩
def afm:Code:=(Tryz.f31.body).getD .skip
def FX (iG:Bool) (oQ:Bool) (aX:List Int) (bD:List Int):Int→St:=fun x=>bT [(0,(.imm iG .il aX)),(1,(.imm oQ .il bD)),(5,(.i x))] []
def wI (_:Bool) (_:Bool) (_:List Int) (_:List Int):(Bool ⊕ Unit)→Ex×St
 |.inl x=>(.ret,bT [(4,(.imm true .bool x))] [])
 |.inr _=>(.exit 0,bT [(4,.dead)] [])
def U3 (s:St):Tre (Ex×St):=
 bB .il (s.tmps 0) fun z3 d2=>
 bB .il (s.tmps 1) fun z6 d5=>
 aF true .n (s.tmps 5) fun d8=>
 .mat (aS (sS d2 d5) d8) fun x=>.alt x (fun a0=>.ret (wI z3 z6 d2 d5 (.inl a0))) (fun b0=>.ret (wI z3 z6 d2 d5 (.inr b0)))
def vS:bF:=⟨([0,1,5],[]),([4],[]),U3⟩
def Wv:List (Nat×bF):=[(4,vS)]
theorem aap:∀(iG oQ:Bool)(aX bD:List Int)(x:Int)(c:St→Option (Ex×St)),den Nj Wv (aV afm 0) (FX iG oQ aX bD x) (bZ vS.kp vS.kx c)=(sS aX bD x).run (cu (FX iG oQ aX bD) (wI iG oQ aX bD) c):=fun _ _ _ _ _ _=>by
 kernel_rfl
theorem afo:bU Nj Wv (aV afm 0) vS:=fq fun s e s' h=>by
 generalize hs:restrict vS.kp s=s1 at h
 have h:(U3 s1).run some=some (e,s'):=h
 obtain ⟨z3,d2,e1,h_0⟩:=dJ h
 obtain ⟨z6,d5,e4,h_1⟩:=dJ h_0
 obtain ⟨d8,e7,h_2⟩:=bO h_1
 obtain ⟨y,hy,hz⟩:=iA h_2
 refine ⟨_,_,FX z3 z6 d2 d5,wI z3 z6 d2 d5,sS d2 d5,d8,y,?_,hy,?_,aap z3 z6 d2 d5⟩
 ·subst hs;exact aT (T:=[(0,(.imm z3 .il d2)),(1,(.imm z6 .il d5)),(5,(.i d8))]) (U:=[]) rfl rfl ⟨e1,e4,e7,trivial⟩ trivial
 ·rcases y with x|x<;>exact Option.some.inj hz
def ao7:FnI:=fnI Tryz.f31 Wv
def Ya (_:Bool) (_:Bool) (_:List Int) (_:List Int):Bool→au:=fun r=>⟨(.imm true .bool r),[],[]⟩
theorem amg:∀(zp0 zp1:Bool)(p0 p1:List Int),bH Nj ao7 ⟨[(.imm zp0 .il p0),(.imm zp1 .il p1)],[]⟩=(afl p0 p1).run fun r=>some (Ya zp0 zp1 p0 p1 r):=fun _ _ _ _=>by kernel_rfl
def ao6 (av:List AV) (rs:List Root):Tre au:=
 aB av fun a0_ av0=>
 aB av0 fun a1_ av1=>
 aJ av1<|
 aJ rs<|
 bB .il a0_ fun z2 d1=>
 bB .il a1_ fun z4 d3=>
 .mat (Ni d1 d3) fun r=>.ret (Ya z2 z4 d1 d3 r)
def afn:Ctr:=dx [] ao6
theorem amh:Contract Tryz.prog .none 31 afn:=aC (V:=Nj) aR aH Tryz.func31 (bM (n:=1) fun k hk=>by
 match k,hk with
 |0,_=>exact bP (id:=4) afo) fun _ _ _=>aI fun _ _=>aI fun _ _=>aZ<|aZ<|dF fun _ _=>dF fun _ _=>fun h=>by intros;subst_vars;exact aW (amg _ _ _ _) h
def aaS (p0:List Int):Tre (List Int):=
 .ite ((0+p0.length)*8≤bQ∧1≤8)<|
 .ret ([]++p0)
def Je (p0:List Int):Option (List Int):=(aaS p0).run some
-- more
theorem av4{p0:List Int}(h:p0.length≤1048576):Je p0=some p0:=by
 unfold Je aaS
 rw [Tre.run_ite,if_pos (by unfold bQ;omega)]
 rfl
def abY:Env:=⟨tau,[],[(1000000,[((4,0),[],false)])]⟩
def anh:FnI:=fnI Tryz.f139 []
def Ve (_:Bool) (_:List Int):(List Int)→au:=fun r=>⟨(.imm true .il r),[],[]⟩
theorem akE:∀(zp0:Bool)(p0:List Int),bH abY anh ⟨[(.imm zp0 .il p0)],[]⟩=(aaS p0).run fun r=>some (Ve zp0 p0 r):=fun _ _=>by kernel_rfl
def ang (av:List AV) (rs:List Root):Tre au:=
 aB av fun a0_ av0=>
 aJ av0<|
 aJ rs<|
 bB .il a0_ fun z2 d1=>
 .mat (Je d1) fun r=>.ret (Ve z2 d1 r)
def abZ:Ctr:=dx [] ang
theorem akF:Contract Tryz.prog .none 139 abZ:=aC (V:=abY) aR aH Tryz.func139 bn fun _ _ _=>aI fun _ _=>aZ<|aZ<|dF fun _ _=>fun h=>by intros;subst_vars;exact aW (akE _ _) h
def R6 (bI:Int) (bJ:Int) (fA:(Int×(Int×Unit))):(Int×Int)→Tre ((Int×Int) ⊕ Int):=fun s3=>
 .cond (decide (s3.2<fA.1))
  (.ite (0≤aL .u64 s3.2)<|
  let v1:=Pz .i64 bJ (aL .u64 s3.2)
  .cond (decide (Nb .i64 v1 1=1))
   (.ite (0≤aL .u64 s3.2)<|
   let v2:=rX .i64 bI (aL .u64 s3.2)
   .ret (.inl (jT .i64 s3.1 v2,aL .i64 (s3.2+1))))
   (.ret (.inl (s3.1,aL .i64 (s3.2+1)))))
  (.ret (.inr s3.1))
def anm (p0:(Int×(Int×Unit))) (p1:Int) (p2:Int):Tre Int:=
 .mat (aS (R6 p1 p2 p0) (0,0)) fun l3=>
 .mat (Sc l3 p0.2.1) fun r4=>
 .ret r4
def eP (p0:(Int×(Int×Unit))) (p1:Int) (p2:Int):Option Int:=(anm p0 p1 p2).run some
-- more
set_option maxRecDepth 100000
theorem azd:yc eP mulN 1 2=true:=by kernel_rfl
theorem aze:yc eP mulN 1 3=true:=by kernel_rfl
theorem azf:yc eP mulN 2 7=true:=by kernel_rfl
theorem awq:yc eP mulN 3 11=true:=by kernel_rfl
theorem awr:yc eP mulN 3 13=true:=by kernel_rfl
theorem awt:yc eP mulN 4 19=true:=by kernel_rfl
theorem awu:yc eP mulN 4 25=true:=by kernel_rfl
theorem awv:yc eP mulN 4 31=true:=by kernel_rfl
theorem aww:yc eP mulN 5 37=true:=by kernel_rfl
theorem awx:yc eP mulN 5 41=true:=by kernel_rfl
theorem awy:yc eP mulN 5 47=true:=by kernel_rfl
theorem awz:yc eP mulN 5 55=true:=by kernel_rfl
theorem awC:yc eP mulN 5 59=true:=by kernel_rfl
theorem awD:yc eP mulN 5 61=true:=by kernel_rfl
theorem aqS{f:TF3}(hf:aQ f=true){a b:Int}(ha:inF f a)(hb:inF f b):eP f a b=some (gX f a b):=by
 refine auL (fun q hq=>?_) hf ha hb
 simp only [jc,List.mem_cons,List.not_mem_nil,or_false] at hq
 rcases hq with rfl|rfl|rfl|rfl|rfl|rfl|rfl|rfl|rfl|rfl|rfl|rfl|rfl|rfl
 ·exact azd
 ·exact aze
 ·exact azf
 ·exact awq
 ·exact awr
 ·exact awt
 ·exact awu
 ·exact awv
 ·exact aww
 ·exact awx
 ·exact awy
 ·exact awz
 ·exact awC
 ·exact awD
def NH:Env:=⟨tau,[(232,Sd)],[]⟩
def agq:Code:=(Tryz.f203.body).getD .skip
def R7 (bI:Int) (bJ:Int) (fA:(Int×(Int×Unit))):(Int×Int)→St:=fun x=>bT [(1,(.i bI)),(2,(.i bJ)),(3,(.ptr (5,0) [])),(7,(.i x.1)),(8,(.i x.2))] [((5,0),some ⟨true,aM,.own,fA⟩)]
def OW (_:Int) (_:Int) (fA:(Int×(Int×Unit))):Int→Ex×St:=fun x=>(.exit 0,bT [(3,(.ptr (5,0) [])),(7,(.i x))] [((5,0),some ⟨true,aM,.own,fA⟩)])
def ah9 (s:St):Tre (Ex×St):=
 aF true .n (s.tmps 1) fun d2=>
 aF true .n (s.tmps 2) fun d4=>
 dH (5,0) [] (s.tmps 3)<|
 aF true .n (s.tmps 7) fun d7=>
 aF true .n (s.tmps 8) fun d9=>
 bq true aM (s.roots (5,0)) fun m11 d12=>
 asM .own m11<|
 .mat (aS (R6 d2 d4 d12) (d7,d9)) fun x=>.ret (OW d2 d4 d12 x)
def Bu:bF:=⟨([1,2,3,7,8],[(5,0)]),([3,7],[(5,0)]),ah9⟩
def WQ:List (Nat×bF):=[(3,Bu)]
theorem aaW:∀(bI bJ:Int)(fA:(Int×(Int×Unit)))(x:(Int×Int))(c:St→Option (Ex×St)),den NH WQ (aV agq 0) (R7 bI bJ fA x) (bZ Bu.kp Bu.kx c)=(R6 bI bJ fA x).run (cu (R7 bI bJ fA) (OW bI bJ fA) c):=fun _ _ _ _ _=>by
 kernel_rfl
theorem agr:bU NH WQ (aV agq 0) Bu:=dB fun _ _ _=>aO fun _=>aO fun _=>gy<|aO fun _=>aO fun _=>cO fun _ _=>tM<|fun h _ e10 e8 e6 e5 e3 e1=>cK (aaW _ _ _) h (by subst_vars;exact aT rfl rfl ⟨e1,e3,e5,e6,e8,trivial⟩ ⟨e10,trivial⟩)
def apB:FnI:=fnI Tryz.f203 WQ
def YT (_:(Int×(Int×Unit))) (_:Int) (_:Int):Int→au:=fun r=>⟨(.i r),[],[]⟩
theorem ano:∀(p0:(Int×(Int×Unit)))(p1 p2:Int),bH NH apB ⟨[(.imm true aM p0),(.i p1),(.i p2)],[]⟩=(anm p0 p1 p2).run fun r=>some (YT p0 p1 p2 r):=fun _ _ _=>by kernel_rfl
def apA (av:List AV) (rs:List Root):Tre au:=
 aB av fun a0_ av0=>
 aB av0 fun a1_ av1=>
 aB av1 fun a2_ av2=>
 aJ av2<|
 aJ rs<|
 aF true aM a0_ fun d1=>
 aF true .n a1_ fun d2=>
 aF true .n a2_ fun d3=>
 .mat (eP d1 d2 d3) fun r=>.ret (YT d1 d2 d3 r)
def NI:Ctr:=dx [] apA
theorem R8:Contract Tryz.prog .none 203 NI:=aC (V:=NH) aR (ak YZ ato aH) Tryz.func203 (bM (n:=1) fun k hk=>by
 match k,hk with
 |0,_=>exact bP (id:=3) agr) fun _ _ _=>aI fun _ _=>aI fun _ _=>aI fun _ _=>aZ<|aZ<|aO fun _=>aO fun _=>aO fun _=>fun h=>by intros;subst_vars;exact aW (ano _ _ _) h
def Ka (bC:Int) (bA:(Int×(Int×Unit))):(Int×Int)→Tre ((Int×Int) ⊕ Int):=fun s2=>
 .cond (decide (s2.1>0))
  (.mat (eP bA s2.2 bC) fun r1=>
  .ret (.inl (aL .i64 (s2.1-1),r1)))
  (.ret (.inr s2.2))
def agu (p0:(Int×(Int×Unit))) (p1:Int) (p2:Int):Tre Int:=
 .mat (aS (Ka p1 p0) (p2,1)) fun l2=>
 .ret l2
def YU (p0:(Int×(Int×Unit))) (p1:Int) (p2:Int):Option Int:=(agu p0 p1 p2).run some
def EK:Env:=⟨tau,[(203,NI)],[]⟩
def YV:Code:=(Tryz.f230.body).getD .skip
def Li (bC:Int) (bA:(Int×(Int×Unit))):(Int×Int)→St:=fun x=>bT [(1,(.i bC)),(2,(.i x.1)),(3,(.ptr (5,0) [])),(7,(.i x.2))] [((5,0),some ⟨true,aM,.own,bA⟩)]
def Jj (_:Int) (_:(Int×(Int×Unit))):Int→Ex×St:=fun x=>(.exit 0,bT [(7,(.i x))] [])
def ado (s:St):Tre (Ex×St):=
 aF true .n (s.tmps 1) fun d2=>
 aF true .n (s.tmps 2) fun d4=>
 dH (5,0) [] (s.tmps 3)<|
 aF true .n (s.tmps 7) fun d7=>
 bq true aM (s.roots (5,0)) fun m9 d10=>
 asM .own m9<|
 .mat (aS (Ka d2 d10) (d4,d7)) fun x=>.ret (Jj d2 d10 x)
def wJ:bF:=⟨([1,2,3,7],[(5,0)]),([7],[]),ado⟩
def NJ:List (Nat×bF):=[(2,wJ)]
theorem WR:∀(bC:Int)(bA:(Int×(Int×Unit)))(x:(Int×Int))(c:St→Option (Ex×St)),den EK NJ (aV YV 0) (Li bC bA x) (bZ wJ.kp wJ.kx c)=(Ka bC bA x).run (cu (Li bC bA) (Jj bC bA) c):=fun _ _ _ _=>by
 kernel_rfl
theorem aaY:bU EK NJ (aV YV 0) wJ:=dB fun _ _ _=>aO fun _=>aO fun _=>gy<|aO fun _=>cO fun _ _=>tM<|fun h _ e8 e6 e5 e3 e1=>cK (WR _ _) h (by subst_vars;exact aT rfl rfl ⟨e1,e3,e5,e6,trivial⟩ ⟨e8,trivial⟩)
def akI:FnI:=fnI Tryz.f230 NJ
def R9 (_:(Int×(Int×Unit))) (_:Int) (_:Int):Int→au:=fun r=>⟨(.i r),[],[]⟩
theorem aia:∀(p0:(Int×(Int×Unit)))(p1 p2:Int),bH EK akI ⟨[(.imm true aM p0),(.i p1),(.i p2)],[]⟩=(agu p0 p1 p2).run fun r=>some (R9 p0 p1 p2 r):=fun _ _ _=>by kernel_rfl
def akH (av:List AV) (rs:List Root):Tre au:=
 aB av fun a0_ av0=>
 aB av0 fun a1_ av1=>
 aB av1 fun a2_ av2=>
 aJ av2<|
 aJ rs<|
 aF true aM a0_ fun d1=>
 aF true .n a1_ fun d2=>
 aF true .n a2_ fun d3=>
 .mat (YU d1 d2 d3) fun r=>.ret (R9 d1 d2 d3 r)
def YW:Ctr:=dx [] akH
theorem aib:Contract Tryz.prog .none 230 YW:=aC (V:=EK) aR (ak R8 aoG aH) Tryz.func230 (bM (n:=1) fun k hk=>by
 match k,hk with
 |0,_=>exact bP (id:=2) aaY) fun _ _ _=>aI fun _ _=>aI fun _ _=>aI fun _ _=>aZ<|aZ<|aO fun _=>aO fun _=>aO fun _=>fun h=>by intros;subst_vars;exact aW (aia _ _ _) h
def YS (p0:(Int×(Int×Unit))) (p1:Int):Tre Int:=
 .mat (iD p0) fun r1=>
 .mat (YU p0 p1 (aL .i64 (r1-2))) fun r2=>
 .ret r2
def dK (p0:(Int×(Int×Unit))) (p1:Int):Option Int:=(YS p0 p1).run some
-- more
set_option maxRecDepth 100000
theorem aza:xZ dK qN 1 2=true:=by kernel_rfl
theorem azb:xZ dK qN 1 3=true:=by kernel_rfl
theorem azc:xZ dK qN 2 7=true:=by kernel_rfl
theorem awd:xZ dK qN 3 11=true:=by kernel_rfl
theorem awe:xZ dK qN 3 13=true:=by kernel_rfl
theorem awf:xZ dK qN 4 19=true:=by kernel_rfl
theorem awg:xZ dK qN 4 25=true:=by kernel_rfl
theorem awh:xZ dK qN 4 31=true:=by kernel_rfl
theorem awi:xZ dK qN 5 37=true:=by kernel_rfl
theorem awj:xZ dK qN 5 41=true:=by kernel_rfl
theorem awk:xZ dK qN 5 47=true:=by kernel_rfl
theorem awl:xZ dK qN 5 55=true:=by kernel_rfl
theorem awm:xZ dK qN 5 59=true:=by kernel_rfl
theorem awn:xZ dK qN 5 61=true:=by kernel_rfl
theorem awo{f:TF3}(hf:aQ f=true){a:Int}(ha:inF f a):dK f a=some (yT f a):=by
 refine auk (fun q hq=>?_) hf ha
 simp only [jc,List.mem_cons,List.not_mem_nil,or_false] at hq
 rcases hq with rfl|rfl|rfl|rfl|rfl|rfl|rfl|rfl|rfl|rfl|rfl|rfl|rfl|rfl
 ·exact aza
 ·exact azb
 ·exact azc
 ·exact awd
 ·exact awe
 ·exact awf
 ·exact awg
 ·exact awh
 ·exact awi
 ·exact awj
 ·exact awk
 ·exact awl
 ·exact awm
 ·exact awn
def R4:Env:=⟨tau,[(137,xR),(230,YW)],[]⟩
def agp:FnI:=fnI Tryz.f197 []
def Lg (_:(Int×(Int×Unit))) (_:Int):Int→au:=fun r=>⟨(.i r),[],[]⟩
theorem adl:∀(p0:(Int×(Int×Unit)))(p1:Int),bH R4 agp ⟨[(.imm true aM p0),(.i p1)],[]⟩=(YS p0 p1).run fun r=>some (Lg p0 p1 r):=fun _ _=>by kernel_rfl
def agn (av:List AV) (rs:List Root):Tre au:=
 aB av fun a0_ av0=>
 aB av0 fun a1_ av1=>
 aJ av1<|
 aJ rs<|
 aF true aM a0_ fun d1=>
 aF true .n a1_ fun d2=>
 .mat (dK d1 d2) fun r=>.ret (Lg d1 d2 r)
def R5:Ctr:=dx [] agn
theorem adn:Contract Tryz.prog .none 197 R5:=aC (V:=R4) aR (ak zf aeo (ak aib ayh aH)) Tryz.func197 bn fun _ _ _=>aI fun _ _=>aI fun _ _=>aZ<|aZ<|aO fun _=>aO fun _=>fun h=>by intros;subst_vars;exact aW (adl _ _) h
def qb (bI:List Int) (bJ:List Int) (bR:Int) (fA:(Int×(Int×Unit))):(Int×(List Int))→Tre ((Int×(List Int)) ⊕ (List Int)):=fun s3=>
 .cond (decide (s3.1<(bI.length:Int)))
  (.ite (0≤s3.1∧s3.1<(bI.length:Int))<|
  .mat (bI[s3.1.toNat]?) fun x1=>
  .ite (0≤s3.1∧s3.1<(bJ.length:Int))<|
  .mat (bJ[s3.1.toNat]?) fun x2=>
  .mat (eP fA x2 bR) fun r3=>
  .ite ((s3.2.length+1)*8≤bQ∧1≤8)<|
  let v4:=s3.2++([jT .i64 x1 r3])
  .ret (.inl (aL .i64 (s3.1+1),v4)))
  (.ret (.inr s3.2))
def aaZ (p0:(Int×(Int×Unit))) (p1:List Int) (p2:List Int) (p3:Int):Tre (List Int):=
 .mat (aS (qb p1 p2 p3 p0) (0,[])) fun l5=>
 .ret l5
def CG (p0:(Int×(Int×Unit))) (p1:List Int) (p2:List Int) (p3:Int):Option (List Int):=(aaZ p0 p1 p2 p3).run some
-- more
theorem Y8{f:TF3}(hf:aQ f=true){u w:List Int}(hl:u.length=w.length)(hs:u.length≤1000000)(hw:∀y∈w,inF f y){x:Int}(hx:inF f x):CG f u w x=some (vC f u w x):=by
 have key:=oh (xs:=u.zip w) (step:=qb u w x f) (fun (i:Nat) (acc:List Int)=>((i:Int),acc)) (fun _ acc p=>.inl (acc++[jT .i64 p.1 (gX f p.2 x)])) id (fun i acc=>acc.length=i) (by
  intro i acc p hp hi
  have hlt:=(List.getElem?_eq_some_iff.1 hp).1
  rw [List.length_zip] at hlt
  obtain ⟨p1,p2⟩:=p
  rw [List.getElem?_zip_eq_some] at hp
  obtain ⟨h1,h2⟩:=hp
  refine ⟨?_,fun a ha=>?_⟩
  ·unfold qb
   dsimp only
   rw [Tre.aD,decide_eq_true (by omega),cond_true,Tre.run_ite,if_pos (by omega),Int.toNat_natCast,ah h1,Tre.run_ite,if_pos (by omega),ah h2,ah (aqS hf (hw _ (List.mem_of_getElem? h2)) hx),Tre.run_ite,if_pos (by unfold bQ;omega),Tre.aN,aY (by omega)]
  ·cases ha;simp [hi]) (by
  intro acc _
  unfold qb
  dsimp only
  rw [Tre.aD,decide_eq_false (by rw [List.length_zip];omega),cond_false]
  rfl) (u.zip w) 0 [] rfl (Nat.zero_le _) rfl
 rw [Tn] at key
 have key:aS (qb u w x f) (0,[])=some (vC f u w x):=key
 unfold CG aaZ
 rw [ah key]
 rfl
def Jq:Env:=⟨tau,[(203,NI)],[(1000000,[((10,0),[],false)])]⟩
def ab7:Code:=(Tryz.f196.body).getD .skip
def OY (fD:Bool) (GZ:Bool) (bI:List Int) (bJ:List Int) (bR:Int) (fA:(Int×(Int×Unit))):(Int×(List Int))→St:=fun x=>bT [(1,(.imm fD .il bI)),(2,(.imm GZ .il bJ)),(3,(.i bR)),(4,(.ptr (6,0) [])),(9,(.ref (11,0) [])),(10,(.i x.1))] [((6,0),some ⟨true,aM,.own,fA⟩),((11,0),some ⟨false,.il,.own,x.2⟩)]
def Lp (_:Bool) (_:Bool) (_:List Int) (_:List Int) (_:Int) (_:(Int×(Int×Unit))):(List Int)→Ex×St:=fun x=>(.exit 0,bT [(9,(.ref (11,0) []))] [((11,0),some ⟨false,.il,.own,x⟩)])
def agF (s:St):Tre (Ex×St):=
 bB .il (s.tmps 1) fun z3 d2=>
 bB .il (s.tmps 2) fun z6 d5=>
 aF true .n (s.tmps 3) fun d8=>
 dH (6,0) [] (s.tmps 4)<|
 fQ (11,0) [] (s.tmps 9)<|
 aF true .n (s.tmps 10) fun d12=>
 bq true aM (s.roots (6,0)) fun m14 d15=>
 asM .own m14<|
 bq false .il (s.roots (11,0)) fun m17 d18=>
 asM .own m17<|
 .mat (aS (qb d2 d5 d8 d15) (d12,d18)) fun x=>.ret (Lp z3 z6 d2 d5 d8 d15 x)
def zo:bF:=⟨([1,2,3,4,9,10],[(6,0),(11,0)]),([9],[(11,0)]),agF⟩
def Sq:List (Nat×bF):=[(3,zo)]
theorem Y9:∀(fD GZ:Bool)(bI bJ:List Int)(bR:Int)(fA:(Int×(Int×Unit)))(x:(Int×(List Int)))(c:St→Option (Ex×St)),den Jq Sq (aV ab7 0) (OY fD GZ bI bJ bR fA x) (bZ zo.kp zo.kx c)=(qb bI bJ bR fA x).run (cu (OY fD GZ bI bJ bR fA) (Lp fD GZ bI bJ bR fA) c):=fun _ _ _ _ _ _ _ _=>by
 kernel_rfl
theorem adv:bU Jq Sq (aV ab7 0) zo:=dB fun _ _ _=>dF fun _ _=>dF fun _ _=>aO fun _=>gy<|nR<|aO fun _=>cO fun _ _=>tM<|cO fun _ _=>tM<|fun h _ e16 _ e13 e11 e10 e9 e7 e4 e1=>cK (Y9 _ _ _ _ _ _) h (by subst_vars;exact aT rfl rfl ⟨e1,e4,e7,e9,e10,e11,trivial⟩ ⟨e13,e16,trivial⟩)
def anx:FnI:=fnI Tryz.f196 Sq
def Vl (_:Bool) (_:Bool) (_:(Int×(Int×Unit))) (_:List Int) (_:List Int) (_:Int):(List Int)→au:=fun r=>⟨(.imm true .il r),[],[]⟩
theorem akM:∀(zp0 zp1:Bool)(p0:(Int×(Int×Unit)))(p1 p2:List Int)(p3:Int),bH Jq anx ⟨[(.imm true aM p0),(.imm zp0 .il p1),(.imm zp1 .il p2),(.i p3)],[]⟩=(aaZ p0 p1 p2 p3).run fun r=>some (Vl zp0 zp1 p0 p1 p2 p3 r):=fun _ _ _ _ _ _=>by kernel_rfl
def anw (av:List AV) (rs:List Root):Tre au:=
 aB av fun a0_ av0=>
 aB av0 fun a1_ av1=>
 aB av1 fun a2_ av2=>
 aB av2 fun a3_ av3=>
 aJ av3<|
 aJ rs<|
 aF true aM a0_ fun d1=>
 bB .il a1_ fun z3 d2=>
 bB .il a2_ fun z5 d4=>
 aF true .n a3_ fun d6=>
 .mat (CG d1 d2 d4 d6) fun r=>.ret (Vl z3 z5 d1 d2 d4 d6 r)
def ab8:Ctr:=dx [] anw
theorem akN:Contract Tryz.prog .none 196 ab8:=aC (V:=Jq) aR (ak R8 aoG aH) Tryz.func196 (bM (n:=1) fun k hk=>by
 match k,hk with
 |0,_=>exact bP (id:=3) adv) fun _ _ _=>aI fun _ _=>aI fun _ _=>aI fun _ _=>aI fun _ _=>aZ<|aZ<|aO fun _=>dF fun _ _=>dF fun _ _=>aO fun _=>fun h=>by intros;subst_vars;exact aW (akM _ _ _ _ _ _) h
def kE (bJ:(List (List Int))):(Int×(List (List Int)))→Tre ((Int×(List (List Int))) ⊕ (List (List Int))):=fun s3=>
 .cond (decide (s3.1<(bJ.length:Int)))
  (.ite (0≤s3.1∧s3.1<(bJ.length:Int))<|
  .mat (bJ[s3.1.toNat]?) fun x1=>
  .mat (Je x1) fun r2=>
  .ite ((s3.2.length+1)*24≤bQ∧1≤24)<|
  .ret (.inl (aL .i64 (s3.1+1),s3.2++([r2]))))
  (.ret (.inr s3.2))
def jC (wm:Int) (wo:(List (List Int))):Int→Tre (Int ⊕ Int):=fun s11=>
 .cond (decide (s11<(wo.length:Int)))
  (.ite (0≤s11∧s11<(wo.length:Int))<|
  .mat (wo[s11.toNat]?) fun x4=>
  .ite (0≤wm∧wm<(x4.length:Int))<|
  .mat (x4[wm.toNat]?) fun x5=>
  .cond (decide (x5=0))
   (.ret (.inl (aL .i64 (s11+1))))
   (.ret (.inr s11)))
  (.ret (.inr s11))
def jD (uf:Int) (pq:Int) (Bc:(Int×(Int×Unit))):(Int×(List (List Int)))→Tre ((Int×(List (List Int))) ⊕ (List (List Int))):=fun s18=>
 .cond (decide (s18.1<(s18.2.length:Int)))
  (.cond (!decide (s18.1=uf))
   (.ite (0≤s18.1∧s18.1<(s18.2.length:Int))<|
   .mat (s18.2[s18.1.toNat]?) fun x15=>
   .ite (0≤pq∧pq<(x15.length:Int))<|
   .mat (x15[pq.toNat]?) fun x16=>
   .cond (!decide (x16=0))
    (.ite (0≤s18.1∧s18.1<(s18.2.length:Int))<|
    .mat (s18.2[s18.1.toNat]?) fun x17=>
    .ite (0≤uf∧uf<(s18.2.length:Int))<|
    .mat (s18.2[uf.toNat]?) fun x18=>
    .ite (0≤s18.1∧s18.1<(s18.2.length:Int))<|
    .mat (s18.2[s18.1.toNat]?) fun x19=>
    .ite (0≤pq∧pq<(x19.length:Int))<|
    .mat (x19[pq.toNat]?) fun x20=>
    .mat (CG Bc x17 x18 x20) fun r21=>
    .ite (0≤s18.1∧s18.1<(s18.2.length:Int))<|
    .mat (s18.2[s18.1.toNat]?) fun _=>
    let v23:=s18.2.set s18.1.toNat r21
    .ret (.inl (aL .i64 (s18.1+1),v23)))
    (.ret (.inl (aL .i64 (s18.1+1),s18.2))))
   (.ret (.inl (aL .i64 (s18.1+1),s18.2))))
  (.ret (.inr s18.2))
def iZ (nI:Int) (nJ:(Int×(Int×Unit))):(Int×Int×(List (List Int)))→Tre ((Int×Int×(List (List Int))) ⊕ (Int×(List (List Int)))):=fun s8=>
 .cond (decide (s8.2.1<nI))
  (.mat (aS (jC s8.2.1 s8.2.2) s8.1) fun l6=>
  .cond (decide (l6=(s8.2.2.length:Int)))
   (.ret (.inl (s8.1,aL .i64 (s8.2.1+1),s8.2.2)))
   (.ite (0≤l6∧l6<(s8.2.2.length:Int))<|
   .mat (s8.2.2[l6.toNat]?) fun x7=>
   .ite (0≤s8.1∧s8.1<(s8.2.2.length:Int))<|
   .mat (s8.2.2[s8.1.toNat]?) fun x8=>
   .ite (0≤l6∧l6<(s8.2.2.length:Int))<|
   .mat (s8.2.2[l6.toNat]?) fun _=>
   .ite ((.n:K)=.n∧0≤nI∧nI=nI∧nI*(8:Nat)≤140737488355328∧1≤8)<|
   .ite (0≤s8.2.1∧s8.2.1<(x7.length:Int))<|
   .mat (x7[s8.2.1.toNat]?) fun x10=>
   .mat (dK nJ x10) fun r11=>
   .mat (CG nJ (List.replicate nI.toNat (0:Int)) x7 r11) fun r12=>
   .ite (0≤s8.1∧s8.1<((s8.2.2.set l6.toNat x8).length:Int))<|
   .mat ((s8.2.2.set l6.toNat x8)[s8.1.toNat]?) fun _=>
   let v14:=(s8.2.2.set l6.toNat x8).set s8.1.toNat r12
   .mat (aS (jD s8.1 s8.2.1 nJ) (0,v14)) fun l24=>
   .ret (.inl (aL .i64 (s8.1+1),aL .i64 (s8.2.1+1),l24))))
  (.ret (.inr (s8.1,s8.2.2)))
def NT (p0:(Int×(Int×Unit))) (p1:Int) (p2:(List (List Int))):Tre (List (List Int)):=
 .mat (aS (kE p2) (0,[])) fun l3=>
 .mat (aS (iZ p1 p0) (0,0,l3)) fun l25=>
 .ite (0≤(0:Int)∧(0:Int)≤l25.1∧l25.1≤(l25.2.length:Int))<|
 .ret ((l25.2.drop 0).take ((l25.1-0).toNat))
def oK (p0:(Int×(Int×Unit))) (p1:Int) (p2:(List (List Int))):Option (List (List Int)):=(NT p0 p1 p2).run some
-- more
theorem asl{rows:List (List Int)}(hl:rows.length≤1000000)(hr:∀r∈rows,r.length≤1000000):aS (kE rows) (0,[])=some rows:=by
 have key:=oh (xs:=rows) (step:=kE rows) (fun (i:Nat) (acc:List (List Int))=>((i:Int),acc)) (fun _ acc r=>.inl (acc++[id r])) id (fun i acc=>acc.length=i) (by
  intro i acc r h hi
  have hlt:=(List.getElem?_eq_some_iff.1 h).1
  refine ⟨?_,fun a ha=>?_⟩
  ·unfold kE
   dsimp only
   rw [Tre.aD,decide_eq_true (by omega),cond_true,Tre.run_ite,if_pos (by omega),Int.toNat_natCast,ah h,ah (av4 (by have:=hr r (List.mem_of_getElem? h);omega)),Tre.run_ite,if_pos (by unfold bQ;omega),Tre.aN,aY (by omega)]
   rfl
  ·cases ha;simp [hi]) (by
  intro acc _
  unfold kE
  dsimp only
  rw [Tre.aD,decide_eq_false (by omega),cond_false]
  rfl) rows 0 [] rfl (Nat.zero_le _) rfl
 rw [Tn,List.map_id] at key
 exact key
theorem asn{c:Nat}{L:List (List Int)}(hc:∀r∈L,c<r.length)(hL:L.length≤1000000):∀(l:List (List Int))(i:Nat),L.drop i=l→i≤L.length →
  aS (jC (c:Int) L) (i:Int)=some (if lW (u6 c) i l<0 then (L.length:Int) else lW (u6 c) i l):=by
 intro l
 induction l with
 |nil=>
  intro i hl hi
  have:i=L.length:=by have:=List.drop_eq_nil_iff.1 hl;omega
  subst this
  refine eO ?_
  unfold jC
  exact dR
 |cons x l ih=>
  intro i hl hi
  have hx:L[i]?=some x:=by
   have:=congrArg (·[0]?) hl
   simpa using this
  have hlt:=(List.getElem?_eq_some_iff.1 hx).1
  have hcx:=hc x (List.mem_of_getElem? hx)
  obtain ⟨y,hy⟩:∃y,x[c]?=some y:=⟨_,List.getElem?_eq_getElem hcx⟩
  have hn:u6 c x = !decide (y=0):=by unfold u6;rw [hy]
  by_cases h0:y=0
  ·have e:lW (u6 c) i (x::l)=lW (u6 c) (i+1) l:=by simp [lW,hn,h0]
   rw [e,←ih (i+1) (by rw [←List.drop_drop,hl];rfl) (by omega)]
   refine iq ?_
   unfold jC
   rw [eB hx,Tre.run_ite,if_pos (by omega),Int.toNat_natCast,ah hy,Tre.aD,decide_eq_true h0,cond_true,Tre.aN,aY (by omega)]
  ·have e:lW (u6 c) i (x::l)=(i:Int):=by simp [lW,hn,h0]
   rw [e,if_neg (by omega)]
   refine eO ?_
   unfold jC
   rw [eB hx,Tre.run_ite,if_pos (by omega),Int.toNat_natCast,ah hy,Tre.aD,decide_eq_false h0,cond_false,Tre.aN]
theorem apI{f:TF3}(hf:aQ f=true){n c a:Nat}{own:List Int}{L:List (List Int)}(hc:c<n)(hn:n≤1000000)(h:GR f n L)(hk:L[a]?=some own)(hL:L.length≤1000000) :
  aS (jD (a:Int) (c:Int) f) (0,L)=some (L.mapIdx (kK f c a own)):=by
 obtain ⟨hol,hof⟩:=BA h hk
 have hak:=(List.getElem?_eq_some_iff.1 hk).1
 have key:=oh (xs:=L) (step:=jD (a:Int) (c:Int) f) (fun (i:Nat) (acc:List (List Int))=>((i:Int),acc)) (fun i acc r=>.inl (acc.set i (kK f c a own i r))) id (fun i acc=>acc.length=L.length∧acc.drop i=L.drop i∧acc[a]?=some own) (by
  intro i acc r hr hi
  have hlt:=(List.getElem?_eq_some_iff.1 hr).1
  obtain ⟨hr1,hr2⟩:=BA h hr
  have hai:acc[i]?=some r:=by
   have:=congrArg (·[0]?) hi.2.1
   simpa [hr] using this
  obtain ⟨x,hx⟩:∃x,r[c]?=some x:=⟨_,List.getElem?_eq_getElem (by omega)⟩
  have hxf:=hr2 x (List.mem_of_getElem? hx)
  have hset:acc.set i r=acc:=by
   apply List.ext_getElem?
   intro j
   rw [List.getElem?_set]
   split
   ·rename_i h;subst h;simp [show i<acc.length by omega,←hai]
   ·rfl
  refine ⟨?_,fun b hb=>?_⟩
  ·unfold jD
   dsimp only
   rw [Tre.aD,decide_eq_true (by omega),cond_true,Tre.aD]
   by_cases h1:i=a
   ·rw [decide_eq_true (show (i:Int)=(a:Int) by omega),Bool.not_true,cond_false,Tre.aN,aY (by omega)]
    simp only [kK,hx,h1,decide_true,Bool.true_or,cond_true]
    rw [←h1,hset]
   ·rw [decide_eq_false (show ¬(i:Int)=(a:Int) by omega),Bool.not_false,cond_true,Tre.run_ite,if_pos (by omega),Int.toNat_natCast,ah hai,Tre.run_ite,if_pos (by omega),Int.toNat_natCast,ah hx,Tre.aD]
    by_cases h2:x=0
    ·rw [decide_eq_true h2,Bool.not_true,cond_false,Tre.aN,aY (by omega)]
     simp only [kK,hx,h2,decide_true,Bool.or_true,cond_true]
     rw [hset]
    ·rw [decide_eq_false h2,Bool.not_false,cond_true,Tre.run_ite,if_pos (by omega),ah hai,Tre.run_ite,if_pos (by omega),Int.toNat_natCast,ah hi.2.2,Tre.run_ite,if_pos (by omega),ah hai,Tre.run_ite,if_pos (by omega),ah hx,ah (Y8 hf (by omega) (by omega) hof hxf),Tre.run_ite,if_pos (by omega),ah hai,Tre.aN,aY (by omega)]
     simp only [kK,hx,h1,h2,decide_false,Bool.or_self,cond_false]
     have:vC f r own x=(r.zip own).map fun p=>jT .i64 p.1 (gX f x p.2):=by
      unfold vC
      refine List.map_congr_left fun p hp=>?_
      have h1:=List.of_mem_zip (a:=p.1) (b:=p.2) hp
      rw [(AB hf (hof _ h1.2) hxf).2]
     rw [this]
  ·cases hb
   refine ⟨by simp [hi.1],?_,?_⟩
   ·rw [List.drop_set_of_lt (by omega),←List.drop_drop,←List.drop_drop,hi.2.1]
   ·by_cases h1:i=a
    ·subst h1
     rw [List.getElem?_set_self (by omega)]
     rw [hr] at hk;cases hk
     simp only [kK,hx,decide_true,Bool.true_or,cond_true]
    ·rw [List.getElem?_set_ne h1];exact hi.2.2) (by
  rintro acc ⟨hl,_⟩
  unfold jD
  dsimp only
  rw [Tre.aD,decide_eq_false (by omega),cond_false]
  rfl) L 0 L rfl (Nat.zero_le _) ⟨rfl,rfl,hk⟩
 rw [aev _ _ _ _ _ (by simp)] at key
 simpa using key
theorem aqZ{f:TF3}(hf:aQ f=true){x:Int}(hx:inF f x):∀{w:List Int},(∀y∈w,inF f y)→vC f (List.replicate w.length 0) w x=w.map fun y=>gX f y x:=by
 intro w
 induction w with
 |nil=>intro _;rfl
 |cons y w ih=>
  intro h
  have:=ih (fun z hz=>h z (List.mem_cons_of_mem _ hz))
  unfold vC at this ⊢
  simp only [List.length_cons,List.replicate_succ,List.zip_cons_cons,List.map_cons]
  rw [this,AX hf (AB hf (h y (List.mem_cons_self ..)) hx).1]
theorem asq{f:TF3}(hf:aQ f=true){n c:Nat}(hc:c<n)(hn:n≤1000000)(s:Nat×List (List Int))(h:GR f n s.2)(hL:s.2.length≤1000000)(ha:s.1≤s.2.length) :
  (iZ (n:Int) f ((s.1:Int),(c:Int),s.2)).run some=some (.inl (((iM f c s).1:Int),((c+1:Nat):Int),(iM f c s).2)):=by
 obtain ⟨a,L⟩:=s
 dsimp only at h hL ha
 have hfd:=asn (c:=c) (fun r hr=>by rw [(h r hr).1];exact hc) hL (L.drop a) a rfl ha
 unfold iZ
 dsimp only
 rw [Tre.aD,decide_eq_true (by omega),cond_true,ah hfd,Tre.aD]
 unfold iM
 dsimp only
 rcases wT (u6 c) (L.drop a) a with ⟨h1,_⟩|⟨k,row,h1,h2,h3⟩
 ·rw [h1,if_pos (by decide),decide_eq_true rfl,show decide ((-1:Int)<0)=true from rfl,cond_true,cond_true,Tre.aN,aY (by omega)]
 ·have hak:L[a+k]?=some row:=by rw [←h1,List.getElem?_drop]
  have hlt:=(List.getElem?_eq_some_iff.1 hak).1
  obtain ⟨r0,hr0⟩:∃r0,L[a]?=some r0:=⟨_,List.getElem?_eq_getElem (by omega)⟩
  obtain ⟨hrl,hrf⟩:=BA h hak
  obtain ⟨x,hx,hx0⟩:=akk h2
  have hxf:=hrf x (List.mem_of_getElem? hx)
  have hxi:=(Av hf hxf).1
  rw [h3,if_neg (by omega),decide_eq_false (by omega),decide_eq_false (by omega),cond_false,cond_false]
  rw [Tre.run_ite,if_pos (by omega),Int.toNat_natCast,ah hak,Tre.run_ite,if_pos (by omega),Int.toNat_natCast,ah hr0,Tre.run_ite,if_pos (by omega),ah hak,Tre.run_ite,if_pos ⟨rfl,by omega,rfl,by omega,by decide⟩,Tre.run_ite,if_pos (by omega),Int.toNat_natCast,ah hx,ah (awo hf hxf),Int.toNat_natCast]
  rw [ah (Y8 hf (by simp [hrl]) (by simp;omega) hrf hxi),←hrl,aqZ hf hxi hrf]
  have hg:(L.set (a+k) r0)[a]?=some r0:=by
   rw [List.getElem?_set]
   split
   ·first|rfl|rw [if_pos (by omega)]
   ·exact hr0
  simp only [List.length_set]
  rw [Tre.run_ite,if_pos (by omega),ah hg]
  have hp:K9 f c (a+k) a L=(L.set (a+k) r0).set a (row.map fun y=>gX f y (yT f x)):=by
   unfold K9 Kj
   rw [hak,hr0]
   simp only [hx]
  have hpg:=adO (c:=c) (k:=a+k) (a:=a) hf h
  rw [hp] at hpg ⊢
  have hpa:((L.set (a+k) r0).set a (row.map fun y=>gX f y (yT f x)))[a]?=some (row.map fun y=>gX f y (yT f x)):=List.getElem?_set_self (by simp;omega)
  generalize hG:(L.set (a+k) r0).set a (row.map fun y=>gX f y (yT f x))=G at hpg hpa
  rw [ah (apI hf hc hn hpg.1 hpa (by omega)),Tre.aN,aY (by omega),aY (by omega)]
  unfold yg
  rw [hpa]
theorem aso{f:TF3}(hf:aQ f=true){n:Nat}(hn:n≤1000000):∀(m c:Nat)(s:Nat×List (List Int)),c+m=n→GR f n s.2→s.2.length≤1000000→s.1≤s.2.length→aS (iZ (n:Int) f) ((s.1:Int),(c:Int),s.2)=some (((jW f c m s).1:Int),(jW f c m s).2):=by
 intro m
 induction m with
 |zero=>
  intro c s hc h hL ha
  have hc:c=n:=hc
  subst hc
  refine eO ?_
  unfold iZ
  exact dR
 |succ m ih=>
  intro c s hc h hL ha
  rw [iq (asq hf (by omega) hn s h hL ha)]
  have h1:=L8 (c:=c) hf h ha
  exact ih (c+1) _ (by omega) h1.1 (by omega) (by omega)
theorem aqP{f:TF3}(hf:aQ f=true){n:Nat}(hn:n≤1000000){L:List (List Int)}(h:GR f n L)(hL:L.length≤1000000):oK f (n:Int) L=some (VG f n L):=by
 have hl:=aso hf hn n 0 (0,L) (by omega) h hL (Nat.zero_le _)
 have hk:=E5 hf n 0 (0,L) h (Nat.zero_le _)
 have hl:aS (iZ (n:Int) f) (0,0,L)=_:=hl
 unfold oK NT
 rw [ah (asl hL (fun r hr=>by rw [(h r hr).1];exact hn)),ah hl,Tre.run_ite,if_pos (by have:=hk.2.1;have:=hk.2.2;dsimp only at *;omega),Tre.aN]
 unfold VG
 simp
def gV:Env:=⟨tau,[(139,abZ),(197,R5),(196,ab8)],[(2,[((9,0),[],true)])]⟩
def jS:Code:=(Tryz.f175.body).getD .skip
def Gr (fD:Bool) (bI:Int) (bJ:(List (List Int))) (fU:(Int×(Int×Unit))):(Int×(List (List Int)))→St:=fun x=>bT [(1,(.i bI)),(2,(.imm fD (.sl .il) bJ)),(3,(.ptr (5,0) [])),(7,(.ref (9,0) [])),(8,(.i x.1))] [((5,0),some ⟨true,aM,.own,fU⟩),((9,0),some ⟨false,(.sl .il),(.sl (.imm true)),x.2⟩)]
def Eh (_:Bool) (bI:Int) (_:(List (List Int))) (fU:(Int×(Int×Unit))):(List (List Int))→Ex×St:=fun x=>(.exit 0,bT [(1,(.i bI)),(3,(.ptr (5,0) [])),(7,(.ref (9,0) []))] [((5,0),some ⟨true,aM,.own,fU⟩),((9,0),some ⟨false,(.sl .il),(.sl (.imm true)),x⟩)])
def Zb (s:St):Tre (Ex×St):=
 aF true .n (s.tmps 1) fun d2=>
 bB (.sl .il) (s.tmps 2) fun z5 d4=>
 dH (5,0) [] (s.tmps 3)<|
 fQ (9,0) [] (s.tmps 7)<|
 aF true .n (s.tmps 8) fun d9=>
 bq true aM (s.roots (5,0)) fun m11 d12=>
 asM .own m11<|
 bq false (.sl .il) (s.roots (9,0)) fun m14 d15=>
 asM (.sl (.imm true)) m14<|
 .mat (aS (kE d4) (d9,d15)) fun x=>.ret (Eh z5 d2 d4 d12 x)
def rO:bF:=⟨([1,2,3,7,8],[(5,0),(9,0)]),([1,3,7],[(5,0),(9,0)]),Zb⟩
def Ee (mJ:Int) (nS:Int) (wm:Int) (Mc:(Int×(Int×Unit))) (wo:(List (List Int))):Int→St:=fun x=>bT [(1,(.i mJ)),(3,(.ptr (5,0) [])),(7,(.ref (9,0) [])),(9,(.i nS)),(10,(.i wm)),(11,(.i x))] [((5,0),some ⟨true,aM,.own,Mc⟩),((9,0),some ⟨false,(.sl .il),(.sl (.imm true)),wo⟩)]
def CP (mJ:Int) (nS:Int) (wm:Int) (Mc:(Int×(Int×Unit))) (wo:(List (List Int))):Int→Ex×St:=fun x=>(.exit 4,bT [(1,(.i mJ)),(3,(.ptr (5,0) [])),(7,(.ref (9,0) [])),(9,(.i nS)),(10,(.i wm)),(11,(.i x))] [((5,0),some ⟨true,aM,.own,Mc⟩),((9,0),some ⟨false,(.sl .il),(.sl (.imm true)),wo⟩)])
def Xa (s:St):Tre (Ex×St):=
 aF true .n (s.tmps 1) fun d2=>
 dH (5,0) [] (s.tmps 3)<|
 fQ (9,0) [] (s.tmps 7)<|
 aF true .n (s.tmps 9) fun d6=>
 aF true .n (s.tmps 10) fun d8=>
 aF true .n (s.tmps 11) fun d10=>
 bq true aM (s.roots (5,0)) fun m12 d13=>
 asM .own m12<|
 bq false (.sl .il) (s.roots (9,0)) fun m15 d16=>
 asM (.sl (.imm true)) m15<|
 .mat (aS (jC d8 d16) d10) fun x=>.ret (CP d2 d6 d8 d13 d16 x)
def qd:bF:=⟨([1,3,7,9,10,11],[(5,0),(9,0)]),([1,3,7,9,10,11],[(5,0),(9,0)]),Xa⟩
def Ef (Mj:Int) (uf:Int) (pq:Int) (Bc:(Int×(Int×Unit))):(Int×(List (List Int)))→St:=fun x=>bT [(1,(.i Mj)),(3,(.ptr (5,0) [])),(7,(.ref (9,0) [])),(9,(.i uf)),(10,(.i pq)),(13,(.i x.1))] [((5,0),some ⟨true,aM,.own,Bc⟩),((9,0),some ⟨false,(.sl .il),(.sl (.imm true)),x.2⟩)]
def CQ (Mj:Int) (uf:Int) (pq:Int) (Bc:(Int×(Int×Unit))):(List (List Int))→Ex×St:=fun x=>(.exit 6,bT [(1,(.i Mj)),(3,(.ptr (5,0) [])),(7,(.ref (9,0) [])),(9,(.i uf)),(10,(.i pq))] [((5,0),some ⟨true,aM,.own,Bc⟩),((9,0),some ⟨false,(.sl .il),(.sl (.imm true)),x⟩)])
def Xb (s:St):Tre (Ex×St):=
 aF true .n (s.tmps 1) fun d2=>
 dH (5,0) [] (s.tmps 3)<|
 fQ (9,0) [] (s.tmps 7)<|
 aF true .n (s.tmps 9) fun d6=>
 aF true .n (s.tmps 10) fun d8=>
 aF true .n (s.tmps 13) fun d10=>
 bq true aM (s.roots (5,0)) fun m12 d13=>
 asM .own m12<|
 bq false (.sl .il) (s.roots (9,0)) fun m15 d16=>
 asM (.sl (.imm true)) m15<|
 .mat (aS (jD d6 d8 d13) (d10,d16)) fun x=>.ret (CQ d2 d6 d8 d13 x)
def qg:bF:=⟨([1,3,7,9,10,13],[(5,0),(9,0)]),([1,3,7,9,10],[(5,0),(9,0)]),Xb⟩
def Gs (nI:Int) (nJ:(Int×(Int×Unit))):(Int×Int×(List (List Int)))→St:=fun x=>bT [(1,(.i nI)),(3,(.ptr (5,0) [])),(7,(.ref (9,0) [])),(9,(.i x.1)),(10,(.i x.2.1))] [((5,0),some ⟨true,aM,.own,nJ⟩),((9,0),some ⟨false,(.sl .il),(.sl (.imm true)),x.2.2⟩)]
def Ei (_:Int) (_:(Int×(Int×Unit))):(Int×(List (List Int)))→Ex×St:=fun x=>(.exit 2,bT [(7,(.ref (9,0) [])),(9,(.i x.1))] [((9,0),some ⟨false,(.sl .il),(.sl (.imm true)),x.2⟩)])
def Zc (s:St):Tre (Ex×St):=
 aF true .n (s.tmps 1) fun d2=>
 dH (5,0) [] (s.tmps 3)<|
 fQ (9,0) [] (s.tmps 7)<|
 aF true .n (s.tmps 9) fun d6=>
 aF true .n (s.tmps 10) fun d8=>
 bq true aM (s.roots (5,0)) fun m10 d11=>
 asM .own m10<|
 bq false (.sl .il) (s.roots (9,0)) fun m13 d14=>
 asM (.sl (.imm true)) m13<|
 .mat (aS (iZ d2 d11) (d6,d8,d14)) fun x=>.ret (Ei d2 d11 x)
def rP:bF:=⟨([1,3,7,9,10],[(5,0),(9,0)]),([7,9],[(9,0)]),Zc⟩
def iW:List (Nat×bF):=[(3,rO),(11,qd),(18,qg),(8,rP)]
theorem SA:∀(fD:Bool)(bI:Int)(bJ:(List (List Int)))(fU:(Int×(Int×Unit)))(x:(Int×(List (List Int))))(c:St→Option (Ex×St)),den gV iW (aV jS 0) (Gr fD bI bJ fU x) (bZ rO.kp rO.kx c)=(kE bJ x).run (cu (Gr fD bI bJ fU) (Eh fD bI bJ fU) c):=fun _ _ _ _ _ _=>by
 kernel_rfl
theorem Xc:bU gV iW (aV jS 0) rO:=dB fun _ _ _=>aO fun _=>dF fun _ _=>gy<|nR<|aO fun _=>cO fun _ _=>tM<|cO fun _ _=>tM<|fun h _ e13 _ e10 e8 e7 e6 e3 e1=>cK (SA _ _ _ _) h (by subst_vars;exact aT rfl rfl ⟨e1,e3,e6,e7,e8,trivial⟩ ⟨e10,e13,trivial⟩)
theorem PW:∀(mJ nS wm:Int)(Mc:(Int×(Int×Unit)))(wo:(List (List Int)))(x:Int)(c:St→Option (Ex×St)),den gV iW (aV jS 2) (Ee mJ nS wm Mc wo x) (bZ qd.kp qd.kx c)=(jC wm wo x).run (cu (Ee mJ nS wm Mc wo) (CP mJ nS wm Mc wo) c):=fun _ _ _ _ _ _ _=>by
 kernel_rfl
theorem Ux:bU gV iW (aV jS 2) qd:=dB fun _ _ _=>aO fun _=>gy<|nR<|aO fun _=>aO fun _=>aO fun _=>cO fun _ _=>tM<|cO fun _ _=>tM<|fun h _ e14 _ e11 e9 e7 e5 e4 e3 e1=>cK (PW _ _ _ _ _) h (by subst_vars;exact aT rfl rfl ⟨e1,e3,e4,e5,e7,e9,trivial⟩ ⟨e11,e14,trivial⟩)
theorem PX:∀(Mj uf pq:Int)(Bc:(Int×(Int×Unit)))(x:(Int×(List (List Int))))(c:St→Option (Ex×St)),den gV iW (aV jS 3) (Ef Mj uf pq Bc x) (bZ qg.kp qg.kx c)=(jD uf pq Bc x).run (cu (Ef Mj uf pq Bc) (CQ Mj uf pq Bc) c):=fun _ _ _ _ _ _=>by
 kernel_rfl
theorem Uy:bU gV iW (aV jS 3) qg:=dB fun _ _ _=>aO fun _=>gy<|nR<|aO fun _=>aO fun _=>aO fun _=>cO fun _ _=>tM<|cO fun _ _=>tM<|fun h _ e14 _ e11 e9 e7 e5 e4 e3 e1=>cK (PX _ _ _ _) h (by subst_vars;exact aT rfl rfl ⟨e1,e3,e4,e5,e7,e9,trivial⟩ ⟨e11,e14,trivial⟩)
theorem SB:∀(nI:Int)(nJ:(Int×(Int×Unit)))(x:(Int×Int×(List (List Int))))(c:St→Option (Ex×St)),den gV iW (aV jS 1) (Gs nI nJ x) (bZ rP.kp rP.kx c)=(iZ nI nJ x).run (cu (Gs nI nJ) (Ei nI nJ) c):=fun _ _ _ _=>by
 kernel_rfl
theorem Xd:bU gV iW (aV jS 1) rP:=dB fun _ _ _=>aO fun _=>gy<|nR<|aO fun _=>aO fun _=>cO fun _ _=>tM<|cO fun _ _=>tM<|fun h _ e12 _ e9 e7 e5 e4 e3 e1=>cK (SB _ _) h (by subst_vars;exact aT rfl rfl ⟨e1,e3,e4,e5,e7,trivial⟩ ⟨e9,e12,trivial⟩)
def agK:FnI:=fnI Tryz.f175 iW
def Lu (_:Bool) (_:(Int×(Int×Unit))) (_:Int) (_:(List (List Int))):(List (List Int))→au:=fun r=>⟨(.ref (1,0) []),[],[⟨false,(.sl .il),(.sl (.imm true)),r⟩]⟩
theorem adw:∀(zp0:Bool)(p0:(Int×(Int×Unit)))(p1:Int)(p2:(List (List Int))),bH gV agK ⟨[(.imm true aM p0),(.i p1),(.imm zp0 (.sl .il) p2)],[]⟩=(NT p0 p1 p2).run fun r=>some (Lu zp0 p0 p1 p2 r):=fun _ _ _ _=>by kernel_rfl
def agJ (av:List AV) (rs:List Root):Tre au:=
 aB av fun a0_ av0=>
 aB av0 fun a1_ av1=>
 aB av1 fun a2_ av2=>
 aJ av2<|
 aJ rs<|
 aF true aM a0_ fun d1=>
 aF true .n a1_ fun d2=>
 bB (.sl .il) a2_ fun z4 d3=>
 .mat (oK d1 d2 d3) fun r=>.ret (Lu z4 d1 d2 d3 r)
def Gq:Ctr:=dx [] agJ
theorem O1:Contract Tryz.prog .none 175 Gq:=aC (V:=gV) aR (ak akF atg (ak adn ax4 (ak akN atl aH))) Tryz.func175 (bM (n:=4) fun k hk=>by
 match k,hk with
 |0,_=>exact bP (id:=3) Xc
 |1,_=>exact bP (id:=8) Xd
 |2,_=>exact bP (id:=11) Ux
 |3,_=>exact bP (id:=18) Uy) fun _ _ _=>aI fun _ _=>aI fun _ _=>aI fun _ _=>aZ<|aZ<|aO fun _=>aO fun _=>dF fun _ _=>fun h=>by intros;subst_vars;exact aW (adw _ _ _ _) h
def fC (pz:Int) (JG:(Int×(Int×Unit))):(Int×cB×(List (List Int)))→Tre ((Int×cB×(List (List Int))) ⊕ (cB×(List (List Int)))):=fun s5=>
 .cond (decide (s5.1>0))
  (.mat (jR JG pz s5.2.1) fun r4=>
  .ite ((s5.2.2.length+1)*24≤bQ∧1≤24)<|
  .ret (.inl (aL .i64 (s5.1-1),r4.1,s5.2.2++([r4.2]))))
  (.ret (.inr (s5.2.1,s5.2.2)))
def xq (p0:cB):Tre ((Int×(Int×Unit))×Int×cB×(List (List Int))):=
 .mat (jw 4 p0) fun r1=>
 .mat (dO 3 r1.2) fun r2=>
 .mat (dO 3 r2.2) fun r3=>
 .mat (aS (fC (aL .i64 (1+r2.1)) r1.1) (r3.1,r3.2,[])) fun l5=>
 .mat (oK r1.1 (aL .i64 (1+r2.1)) l5.2) fun r6=>
 .ret (r1.1,aL .i64 (1+r2.1),l5.1,r6)
def tH (p0:cB):Option ((Int×(Int×Unit))×Int×cB×(List (List Int))):=(xq p0).run some
def ni:Env:=⟨tau,[(78,qO),(80,iC),(81,tK),(175,Gq)],[]⟩
def CJ:Code:=(Tryz.f96.body).getD .skip
def vV (apS:Bool) (pz:Int) (VK:aG) (JG:(Int×(Int×Unit))):(Int×cB×(List (List Int)))→St:=fun x=>bT [(0,(.ptr (0,0) [])),(2,(.ptr (4,0) [])),(3,(.ptr (5,0) [])),(4,(.i pz)),(5,(.ref (7,0) [])),(6,(.i x.1))] [((0,0),some ⟨true,gq,(.imm apS),x.2.1⟩),((4,0),some ⟨true,aP,.own,VK⟩),((5,0),some ⟨true,aM,.own,JG⟩),((7,0),some ⟨false,(.sl .il),.own,x.2.2⟩)]
def uM (apS:Bool) (pz:Int) (VK:aG) (JG:(Int×(Int×Unit))):(cB×(List (List Int)))→Ex×St:=fun x=>(.exit 0,bT [(2,(.ptr (4,0) [])),(3,(.ptr (5,0) [])),(4,(.i pz)),(5,(.ref (7,0) []))] [((0,0),some ⟨true,gq,(.imm apS),x.1⟩),((4,0),some ⟨true,aP,.own,VK⟩),((5,0),some ⟨true,aM,.own,JG⟩),((7,0),some ⟨false,(.sl .il),.own,x.2⟩)])
def Lr (s:St):Tre (Ex×St):=
 dH (0,0) [] (s.tmps 0)<|
 dH (4,0) [] (s.tmps 2)<|
 dH (5,0) [] (s.tmps 3)<|
 aF true .n (s.tmps 4) fun d5=>
 fQ (7,0) [] (s.tmps 5)<|
 aF true .n (s.tmps 6) fun d8=>
 bq true gq (s.roots (0,0)) fun m10 d11=>
 fI m10 fun z12=>
 bq true aP (s.roots (4,0)) fun m14 d15=>
 asM .own m14<|
 bq true aM (s.roots (5,0)) fun m17 d18=>
 asM .own m17<|
 bq false (.sl .il) (s.roots (7,0)) fun m20 d21=>
 asM .own m20<|
 .mat (aS (fC d5 d18) (d8,d11,d21)) fun x=>.ret (uM z12 d5 d15 d18 x)
def j6:bF:=⟨([0,2,3,4,5,6],[(0,0),(4,0),(5,0),(7,0)]),([2,3,4,5],[(0,0),(4,0),(5,0),(7,0)]),Lr⟩
def tF:List (Nat×bF):=[(5,j6)]
theorem Gn:∀(apS:Bool)(pz:Int)(VK:aG)(JG:(Int×(Int×Unit)))(x:(Int×cB×(List (List Int))))(c:St→Option (Ex×St)),den ni tF (aV CJ 0) (vV apS pz VK JG x) (bZ j6.kp j6.kx c)=(fC pz JG x).run (cu (vV apS pz VK JG) (uM apS pz VK JG) c):=fun _ _ _ _ _ _=>by
 kernel_rfl
theorem Kc:bU ni tF (aV CJ 0) j6:=dB fun _ _ _=>gy<|gy<|gy<|aO fun _=>nR<|aO fun _=>cO fun _ _=>nQ fun _=>cO fun _ _=>tM<|cO fun _ _=>tM<|cO fun _ _=>tM<|fun h _ e19 _ e16 _ e13 _ e9 e7 e6 e4 e3 e2 e1=>cK (Gn _ _ _ _) h (by subst_vars;exact aT rfl rfl ⟨e1,e2,e3,e4,e6,e7,trivial⟩ ⟨e9,e13,e16,e19,trivial⟩)
def Sw:FnI:=fnI Tryz.f96 tF
def zq (zp0:Bool) (_:cB):((Int×(Int×Unit))×Int×cB×(List (List Int)))→au:=fun r=>⟨(.pair (.imm true aM r.1) (.pair (.i r.2.1) (.pair (.ref (1,0) []) (.imm true .unit ())))),[⟨true,gq,(.imm zp0),r.2.2.1⟩],[⟨false,(.sl .il),(.sl (.imm true)),r.2.2.2⟩]⟩
theorem PN:∀(zp0:Bool)(p0:cB),bH ni Sw ⟨[(.ptr (0,0) [])],[⟨true,gq,(.imm zp0),p0⟩]⟩=(xq p0).run fun r=>some (zq zp0 p0 r):=fun _ _=>by kernel_rfl
def Sv (av:List AV) (rs:List Root):Tre au:=
 aB av fun a0_ av0=>
 aJ av0<|
 aB rs fun r0_ rs0=>
 aJ rs0<|
 dH (0,0) [] a0_<|
 iL true gq r0_ fun m1 d2=>
 fI m1 fun z3=>
 .mat (tH d2) fun r=>.ret (zq z3 d2 r)
def CK:Ctr:=dx [] Sv
theorem PO:Contract Tryz.prog .none 96 CK:=aC (V:=ni) aR (ak zu awT (ak jr alP (ak Ac awU (ak O1 ati aH)))) Tryz.func96 (bM (n:=1) fun k hk=>by
 match k,hk with
 |0,_=>exact bP (id:=5) Kc) fun _ _ _=>aI fun _ _=>aZ<|aI fun _ _=>aZ<|gy<|tRt fun _ _=>nQ fun _=>fun h=>by intros;subst_vars;exact aW (PN _ _) h
def aaQ (p0:List Int):Tre aG:=
 .mat (tH (p0,(0,(0,())))) fun r1=>
 .ret (r1.1,(r1.2.1,(r1.2.2.2,())))
def Jd (p0:List Int):Option aG:=(aaQ p0).run some
-- more
theorem ar0{code:List Int}(hl:code.length≤5000)(hc:∀x∈code,0≤x∧x≤255):∃r,Jd code=some r∧((∃n p,lX r n p)∧r.1.1≤4∧r.2.2.1.length≤2):=by
 have h0:vZ 0 (code,0,0,()):=⟨hl,hc,Int.le_refl _,Int.le_refl _⟩
 unfold Jd aaQ
 refine fu.run (fu.mat (P:=fun r=>(∃n p,lX (r.1,r.2.1,r.2.2.2,()) n p)∧r.1.1≤4∧r.2.2.2.length≤2) ?_ fun a ha=>.ret ha)
 unfold tH xq
 refine fu.run (fu.mat (Xv (m:=4) (by decide) (by decide) h0 (by decide)) fun a ha=>fu.mat (Ny ha.2 (by decide)) fun b hb=>fu.mat (Ny hb.2 (by decide)) fun d hd=>?_)
 obtain ⟨M,hM⟩:∃M:Nat,b.1=(M:Int):=⟨b.1.toNat,by omega⟩
 have hwr:aL .i64 (1+b.1)=((M+1:Nat):Int):=by rw [bY (by omega) (by omega)];omega
 rw [hwr]
 have hM2:M≤2:=by omega
 have key:∀(k c:Nat)(s:Src)(L:List (List Int)),vZ c s→c+100*k≤60000→GR a.1 (M+1) L→L.length+k≤2→∃r,aS (fC ((M+1:Nat):Int) a.1) ((k:Int),s,L)=some r∧(GR a.1 (M+1) r.2∧r.2.length≤2):=by
  intro k
  induction k with
  |zero=>
   intro c s L _ _ hG hlen
   refine ⟨(s,L),eO ?_,hG,by omega⟩
   unfold fC
   rfl
  |succ k ih=>
   intro c s L hs hc2 hG hlen
   obtain ⟨w,hw,hws,hwl,hwi⟩:=abq ha.1.1 (M:=M+1) (by omega) (by omega) hs (by omega)
   have hstep:(fC ((M+1:Nat):Int) a.1 (((k+1:Nat):Int),s,L)).run some=some (.inl ((k:Int),w.1,L++[w.2])):=by
    unfold fC
    dsimp only
    rw [Tre.aD,decide_eq_true (by omega),cond_true,ah hw,Tre.run_ite,if_pos (by unfold bQ;omega),Tre.aN,bY (by omega) (by omega),show ((k+1:Nat):Int)-1=(k:Int) by omega]
   rw [iq hstep]
   exact ih (c+2*(M+1)+2) w.1 (L++[w.2]) hws (by omega) (fun r hr=>by
    rcases List.mem_append.1 hr with hr|hr
    ·exact hG r hr
    ·rw [List.mem_singleton] at hr;subst hr;exact ⟨hwl,hwi⟩) (by simp;omega)
 obtain ⟨K,hK⟩:∃K:Nat,d.1=(K:Int):=⟨d.1.toNat,by omega⟩
 obtain ⟨r,hr,hG,hrl⟩:=key K _ d.2 [] hd.2 (by omega) (fun r hr=>by cases hr) (by simp;omega)
 rw [hK]
 refine fu.get hr (fu.get (aqP ha.1.1 (by omega) hG (by omega)) (.ret ?_))
 obtain ⟨p,hp⟩:=ay9 ha.1.1 hG
 have hle:(VG a.1 (M+1) r.2).length≤2:=by
  rw [alN ha.1.1 hG]
  exact Nat.le_trans (E5 ha.1.1 (n:=M+1) (M+1) 0 (0,r.2) hG (Nat.zero_le _)).2.2 hrl
 exact ⟨⟨M+1,p,ha.1.1,rfl,by omega,by omega,by show (VG a.1 (M+1) r.2).length≤10;omega,hp⟩,by have:=ha.1.2.2;omega,hle⟩
def abS:Env:=⟨tau,[(79,Cv),(96,CK)],[(1000000,[((4,0),[.snd,.snd,.fst],false)])]⟩
def am1:FnI:=fnI Tryz.f32 []
def Va (_:Bool) (_:List Int):aG→au:=fun r=>⟨(.imm true aP r),[],[]⟩
theorem akx:∀(zp0:Bool)(p0:List Int),bH abS am1 ⟨[(.imm zp0 (.sl (.int .u8)) p0)],[]⟩=(aaQ p0).run fun r=>some (Va zp0 p0 r):=fun _ _=>by kernel_rfl
def am0 (av:List AV) (rs:List Root):Tre au:=
 aB av fun a0_ av0=>
 aJ av0<|
 aJ rs<|
 bB (.sl (.int .u8)) a0_ fun z2 d1=>
 .mat (Jd d1) fun r=>.ret (Va z2 d1 r)
def abT:Ctr:=dx [] am0
theorem aky:Contract Tryz.prog .none 32 abT:=aC (V:=abS) aR (ak EJ ap2 (ak PO azT aH)) Tryz.func32 bn fun _ _ _=>aI fun _ _=>aZ<|aZ<|dF fun _ _=>fun h=>by intros;subst_vars;exact aW (akx _ _) h
def ow (p0:List Int) (p1:Int) (p2:(Int×(Int×Unit))):Tre Bool:=
 .cond (!decide ((p0.length:Int)=p1))
  (.ret true)
  (.mat (vI p2 p0) fun r1=>
  .ret (!r1))
def jf (p0:List Int) (p1:Int) (p2:(Int×(Int×Unit))):Option Bool:=(ow p0 p1 p2).run some
def uI:Env:=⟨tau,[(67,lI),(69,JI)],[]⟩
def G8:FnI:=fnI Tryz.f223 []
def qY (_:Bool) (_:List Int) (p1:Int) (p2:(Int×(Int×Unit))):Bool→au:=fun r=>⟨(.imm true .bool r),[⟨true,.n,.own,p1⟩,⟨true,aM,.own,p2⟩],[]⟩
theorem Fz:∀(zp0:Bool)(p0:List Int)(p1:Int)(p2:(Int×(Int×Unit))),bH uI G8 ⟨[(.imm zp0 .il p0),(.ptr (0,0) []),(.ptr (0,1) [])],[⟨true,.n,.own,p1⟩,⟨true,aM,.own,p2⟩]⟩=(ow p0 p1 p2).run fun r=>some (qY zp0 p0 p1 p2 r):=fun _ _ _ _=>by kernel_rfl
def G7 (av:List AV) (rs:List Root):Tre au:=
 aB av fun a0_ av0=>
 aB av0 fun a1_ av1=>
 aB av1 fun a2_ av2=>
 aJ av2<|
 aB rs fun r0_ rs0=>
 aB rs0 fun r1_ rs1=>
 aJ rs1<|
 bB .il a0_ fun z2 d1=>
 dH (0,0) [] a1_<|
 dH (0,1) [] a2_<|
 iL true .n r0_ fun m3 d4=>
 asM .own m3<|
 iL true aM r1_ fun m5 d6=>
 asM .own m5<|
 .mat (jf d1 d4 d6) fun r=>.ret (qY z2 d1 d4 d6 r)
def uJ:Ctr:=dx [] G7
theorem FB:Contract Tryz.prog .none 223 uJ:=aC (V:=uI) aR (ak mD aiI (ak QB awS aH)) Tryz.func223 bn fun _ _ _=>aI fun _ _=>aI fun _ _=>aI fun _ _=>aZ<|aI fun _ _=>aI fun _ _=>aZ<|dF fun _ _=>gy<|gy<|tRt fun _ _=>tM<|tRt fun _ _=>tM<|fun h=>by intros;subst_vars;exact aW (Fz _ _ _ _) h
def WC (bC:(List (List Int))) (bK:Int) (bA:Int) (gN:(Int×(Int×Unit))):Int→Tre (Int ⊕ (Int ⊕ Unit)):=fun s2=>
 .cond (decide (s2<bK))
  (.ite (0≤s2∧s2<(bC.length:Int))<|
  .mat (bC[s2.toNat]?) fun x1=>
  .mat (jf x1 bA gN) fun r2=>
  .cond r2
   (.ret (.inr (.inl s2)))
   (.ret (.inl (aL .i64 (s2+1)))))
  (.ret (.inr (.inr ())))
def nm4 (p0:(List (List Int))) (p1:Int) (p2:(Int×(Int×Unit))):Tre Int:=
 .mat (aS (WC p0 (p0.length:Int) p1 p2) 0) fun l3=>
 .alt l3
  (fun a4=>
   .ret a4)
  (fun _=>
   .ret (-1))
def aqt (p0:(List (List Int))) (p1:Int) (p2:(Int×(Int×Unit))):Option Int:=(nm4 p0 p1 p2).run some
def aqu:Env:=⟨tau,[(223,uJ)],[]⟩
def axc:Code:=(Tryz.f194.body).getD .skip
def aaA (oP:Bool) (bC:(List (List Int))) (bK:Int) (bA:Int) (gN:(Int×(Int×Unit))):Int→St:=fun x=>bT [(0,(.imm oP (.sl .il) bC)),(1,(.fn 223 [(0,0),(0,1)])),(7,(.i bK)),(8,(.i x))] [((0,0),some ⟨true,.n,.own,bA⟩),((0,1),some ⟨true,aM,.own,gN⟩)]
def Nr (_:Bool) (_:(List (List Int))) (_:Int) (bA:Int) (gN:(Int×(Int×Unit))):(Int ⊕ Unit)→Ex×St
 |.inl x=>(.ret,bT [(4,(.i x))] [((0,0),some ⟨true,.n,.own,bA⟩),((0,1),some ⟨true,aM,.own,gN⟩)])
 |.inr _=>(.exit 0,bT [(4,.dead)] [((0,0),some ⟨true,.n,.own,bA⟩),((0,1),some ⟨true,aM,.own,gN⟩)])
def amF (s:St):Tre (Ex×St):=
 bB (.sl .il) (s.tmps 0) fun z3 d2=>
 xY 223 [(0,0),(0,1)] (s.tmps 1)<|
 aF true .n (s.tmps 7) fun d6=>
 aF true .n (s.tmps 8) fun d8=>
 bq true .n (s.roots (0,0)) fun m10 d11=>
 asM .own m10<|
 bq true aM (s.roots (0,1)) fun m13 d14=>
 asM .own m13<|
 .mat (aS (WC d2 d6 d11 d14) d8) fun x=>.alt x (fun a0=>.ret (Nr z3 d2 d6 d11 d14 (.inl a0))) (fun b0=>.ret (Nr z3 d2 d6 d11 d14 (.inr b0)))
def Rn:bF:=⟨([0,1,7,8],[(0,0),(0,1)]),([4],[(0,0),(0,1)]),amF⟩
def aub:List (Nat×bF):=[(2,Rn)]
theorem amG:∀(oP:Bool)(bC:(List (List Int)))(bK bA:Int)(gN:(Int×(Int×Unit)))(x:Int)(c:St→Option (Ex×St)),den aqu aub (aV axc 0) (aaA oP bC bK bA gN x) (bZ Rn.kp Rn.kx c)=(WC bC bK bA gN x).run (cu (aaA oP bC bK bA gN) (Nr oP bC bK bA gN) c):=fun _ _ _ _ _ _ _=>by
 kernel_rfl
theorem arV:bU aqu aub (aV axc 0) Rn:=fq fun s e s' h=>by
 generalize hs:restrict Rn.kp s=s1 at h
 have h:(amF s1).run some=some (e,s'):=h
 obtain ⟨z3,d2,e1,h_0⟩:=dJ h
 obtain ⟨e4,h_1⟩:=xB h_0
 obtain ⟨d6,e5,h_2⟩:=bO h_1
 obtain ⟨d8,e7,h_3⟩:=bO h_2
 obtain ⟨m10,d11,e9,h_4⟩:=gG h_3
 obtain ⟨rfl,h_5⟩:=vD h_4
 obtain ⟨m13,d14,e12,h_6⟩:=gG h_5
 obtain ⟨rfl,h_7⟩:=vD h_6
 obtain ⟨y,hy,hz⟩:=iA h_7
 refine ⟨_,_,aaA z3 d2 d6 d11 d14,Nr z3 d2 d6 d11 d14,WC d2 d6 d11 d14,d8,y,?_,hy,?_,amG z3 d2 d6 d11 d14⟩
 ·subst hs;exact aT (T:=[(0,(.imm z3 (.sl .il) d2)),(1,(.fn 223 [(0,0),(0,1)])),(7,(.i d6)),(8,(.i d8))]) (U:=[((0,0),some ⟨true,.n,.own,d11⟩),((0,1),some ⟨true,aM,.own,d14⟩)]) rfl rfl ⟨e1,e4,e5,e7,trivial⟩ ⟨e9,e12,trivial⟩
 ·rcases y with x|x<;>exact Option.some.inj hz
def az7:FnI:=fnI Tryz.f194 aub
def aqv (_:Bool) (_:(List (List Int))) (p1:Int) (p2:(Int×(Int×Unit))):Int→au:=fun r=>⟨(.i r),[⟨true,.n,.own,p1⟩,⟨true,aM,.own,p2⟩],[]⟩
theorem ayT:∀(zp0:Bool)(p0:(List (List Int)))(p1:Int)(p2:(Int×(Int×Unit))),bH aqu az7 ⟨[(.imm zp0 (.sl .il) p0),(.fn 223 [(0,0),(0,1)])],[⟨true,.n,.own,p1⟩,⟨true,aM,.own,p2⟩]⟩=(nm4 p0 p1 p2).run fun r=>some (aqv zp0 p0 p1 p2 r):=fun _ _ _ _=>by kernel_rfl
def az6 (av:List AV) (rs:List Root):Tre au:=
 aB av fun a0_ av0=>
 aB av0 fun a1_ av1=>
 aJ av1<|
 aB rs fun r0_ rs0=>
 aB rs0 fun r1_ rs1=>
 aJ rs1<|
 bB (.sl .il) a0_ fun z2 d1=>
 xY 223 [(0,0),(0,1)] a1_<|
 iL true .n r0_ fun m3 d4=>
 asM .own m3<|
 iL true aM r1_ fun m5 d6=>
 asM .own m5<|
 .mat (aqt d1 d4 d6) fun r=>.ret (aqv z2 d1 d4 d6 r)
def axd:Ctr:=dx [] az6
theorem ayU:Contract Tryz.prog .none 194 axd:=aC (V:=aqu) aR (ak FB ayb aH) Tryz.func194 (bM (n:=1) fun k hk=>by
 match k,hk with
 |0,_=>exact bP (id:=2) arV) fun _ _ _=>aI fun _ _=>aI fun _ _=>aZ<|aI fun _ _=>aI fun _ _=>aZ<|dF fun _ _=>tFn<|tRt fun _ _=>tM<|tRt fun _ _=>tM<|fun h=>by intros;subst_vars;exact aW (ayT _ _ _ _) h
def nm1 (p0:(List (List Int))) (p1:Int) (p2:(Int×(Int×Unit))):Tre Bool:=
 .mat (aqt p0 p1 p2) fun r1=>
 .ret (decide (r1 ≥ 0))
def aql (p0:(List (List Int))) (p1:Int) (p2:(Int×(Int×Unit))):Option Bool:=(nm1 p0 p1 p2).run some
def aw6:Env:=⟨tau,[(194,axd)],[]⟩
def az1:FnI:=fnI Tryz.f124 []
def aqm (_:Bool) (_:(List (List Int))) (p1:Int) (p2:(Int×(Int×Unit))):Bool→au:=fun r=>⟨(.imm true .bool r),[⟨true,.n,.own,p1⟩,⟨true,aM,.own,p2⟩],[]⟩
theorem ayN:∀(zp0:Bool)(p0:(List (List Int)))(p1:Int)(p2:(Int×(Int×Unit))),bH aw6 az1 ⟨[(.imm zp0 (.sl .il) p0),(.fn 223 [(0,0),(0,1)])],[⟨true,.n,.own,p1⟩,⟨true,aM,.own,p2⟩]⟩=(nm1 p0 p1 p2).run fun r=>some (aqm zp0 p0 p1 p2 r):=fun _ _ _ _=>by kernel_rfl
def az0 (av:List AV) (rs:List Root):Tre au:=
 aB av fun a0_ av0=>
 aB av0 fun a1_ av1=>
 aJ av1<|
 aB rs fun r0_ rs0=>
 aB rs0 fun r1_ rs1=>
 aJ rs1<|
 bB (.sl .il) a0_ fun z2 d1=>
 xY 223 [(0,0),(0,1)] a1_<|
 iL true .n r0_ fun m3 d4=>
 asM .own m3<|
 iL true aM r1_ fun m5 d6=>
 asM .own m5<|
 .mat (aql d1 d4 d6) fun r=>.ret (aqm z2 d1 d4 d6 r)
def aw7:Ctr:=dx [] az0
theorem ayO:Contract Tryz.prog .none 124 aw7:=aC (V:=aw6) aR (ak ayU aoE aH) Tryz.func124 bn fun _ _ _=>aI fun _ _=>aI fun _ _=>aZ<|aI fun _ _=>aI fun _ _=>aZ<|dF fun _ _=>tFn<|tRt fun _ _=>tM<|tRt fun _ _=>tM<|fun h=>by intros;subst_vars;exact aW (ayN _ _ _ _) h
def Ao (p0:(Int×(Int×Unit))) (p1:Int) (p2:(List (List Int))):Tre Int:=
 .mat (lF p0) fun r1=>
 .cond (!r1)
  (.ret 1)
  (.cond (!(inR p1 1 5))
   (.ret 2)
   (.cond (decide ((p2.length:Int)>10))
    (.ret 2)
    (.mat (aql p2 p1 p0) fun r2=>
    .cond r2
     (.ret 2)
     (.ret 0))))
def pF (p0:(Int×(Int×Unit))) (p1:Int) (p2:(List (List Int))):Option Int:=(Ao p0 p1 p2).run some
def Fw:Env:=⟨tau,[(88,yM),(90,pW),(124,aw7)],[]⟩
def VY:FnI:=fnI Tryz.f176 []
def BQ (_:Bool) (_:(Int×(Int×Unit))) (_:Int) (_:(List (List Int))):Int→au:=fun r=>⟨(.i r),[],[]⟩
theorem TV:∀(zp0:Bool)(p0:(Int×(Int×Unit)))(p1:Int)(p2:(List (List Int))),bH Fw VY ⟨[(.imm true aM p0),(.i p1),(.imm zp0 (.sl .il) p2)],[]⟩=(Ao p0 p1 p2).run fun r=>some (BQ zp0 p0 p1 p2 r):=fun _ _ _ _=>by kernel_rfl
def VX (av:List AV) (rs:List Root):Tre au:=
 aB av fun a0_ av0=>
 aB av0 fun a1_ av1=>
 aB av1 fun a2_ av2=>
 aJ av2<|
 aJ rs<|
 aF true aM a0_ fun d1=>
 aF true .n a1_ fun d2=>
 bB (.sl .il) a2_ fun z4 d3=>
 .mat (pF d1 d2 d3) fun r=>.ret (BQ z4 d1 d2 d3 r)
def Fx:Ctr:=dx [] VX
theorem TW:Contract Tryz.prog .none 176 Fx:=aC (V:=Fw) aR (ak Dm atr (ak oV abr (ak ayO ate aH))) Tryz.func176 bn fun _ _ _=>aI fun _ _=>aI fun _ _=>aI fun _ _=>aZ<|aZ<|aO fun _=>aO fun _=>dF fun _ _=>fun h=>by intros;subst_vars;exact aW (TV _ _ _ _) h
def qL (p0:List Int) (p1:Int):Tre Bool:=
 .ite (0≤p1∧p1<(p0.length:Int))<|
 .mat (p0[p1.toNat]?) fun x1=>
 .ret (!decide (x1=0))
def jY (p0:List Int) (p1:Int):Option Bool:=(qL p0 p1).run some
-- more
theorem ay7{r:List Int}{c:Nat}(h:c<r.length):jY r (c:Int)=some (u6 c r):=by
 unfold jY qL
 have hx:=List.getElem?_eq_getElem h
 rw [Tre.run_ite,if_pos ⟨by omega,by omega⟩,Int.toNat_natCast,ah hx,Tre.aN]
 unfold u6
 rw [hx]
def xG:Env:=⟨tau,[],[]⟩
def KF:FnI:=fnI Tryz.f225 []
def uH (_:Bool) (_:List Int) (p1:Int):Bool→au:=fun r=>⟨(.imm true .bool r),[⟨true,.n,.own,p1⟩],[]⟩
theorem JJ:∀(zp0:Bool)(p0:List Int)(p1:Int),bH xG KF ⟨[(.imm zp0 .il p0),(.ptr (0,0) [])],[⟨true,.n,.own,p1⟩]⟩=(qL p0 p1).run fun r=>some (uH zp0 p0 p1 r):=fun _ _ _=>by kernel_rfl
def KE (av:List AV) (rs:List Root):Tre au:=
 aB av fun a0_ av0=>
 aB av0 fun a1_ av1=>
 aJ av1<|
 aB rs fun r0_ rs0=>
 aJ rs0<|
 bB .il a0_ fun z2 d1=>
 dH (0,0) [] a1_<|
 iL true .n r0_ fun m3 d4=>
 asM .own m3<|
 .mat (jY d1 d4) fun r=>.ret (uH z2 d1 d4 r)
def xH:Ctr:=dx [] KE
theorem JK:Contract Tryz.prog .none 225 xH:=aC (V:=xG) aR aH Tryz.func225 bn fun _ _ _=>aI fun _ _=>aI fun _ _=>aZ<|aI fun _ _=>aZ<|dF fun _ _=>gy<|tRt fun _ _=>tM<|fun h=>by intros;subst_vars;exact aW (JJ _ _ _) h
def aaC (bC:(List (List Int))) (bK:Int) (bA:Int):Int→Tre (Int ⊕ (Int ⊕ Unit)):=fun s2=>
 .cond (decide (s2<bK))
  (.ite (0≤s2∧s2<(bC.length:Int))<|
  .mat (bC[s2.toNat]?) fun x1=>
  .mat (jY x1 bA) fun r2=>
  .cond r2
   (.ret (.inr (.inl s2)))
   (.ret (.inl (aL .i64 (s2+1)))))
  (.ret (.inr (.inr ())))
def nm7 (p0:(List (List Int))) (p1:Int):Tre Int:=
 .mat (aS (aaC p0 (p0.length:Int) p1) 0) fun l3=>
 .alt l3
  (fun a4=>
   .ret a4)
  (fun _=>
   .ret (-1))
def aqB (p0:(List (List Int))) (p1:Int):Option Int:=(nm7 p0 p1).run some
-- more
theorem av7{xs:List (List Int)}{c:Nat}(hc:∀r∈xs,c<r.length)(hl:xs.length≤1048576):aqB xs (c:Int)=some (lW (u6 c) 0 xs):=by
 unfold aqB nm7
 rw [Tre.mZ,tZ (xs:=xs) (fun i x=>cond (u6 c x) (some (.inl (i:Int))) none) (.inr ())]
 ·rw [Option.bind_some,←Tk (p:=fun x=>u6 c x)]
  generalize zK _ _ _ _=r
  cases r<;>rfl
 ·intro i x hx
  have hi:i<xs.length:=(List.getElem?_eq_some_iff.1 hx).1
  unfold aaC
  rw [eB hx,ah (ay7 (hc x (List.mem_of_getElem? hx))),Tre.aD]
  cases u6 c x
  ·simp only [cond_false,Tre.aN,aY (show i<4611686018427387904 by omega)]
  ·rfl
 ·unfold aaC
  exact dR
def aqC:Env:=⟨tau,[(225,xH)],[]⟩
def axi:Code:=(Tryz.f194.body).getD .skip
def aaD (oP:Bool) (bC:(List (List Int))) (bK:Int) (bA:Int):Int→St:=fun x=>bT [(0,(.imm oP (.sl .il) bC)),(1,(.fn 225 [(0,0)])),(7,(.i bK)),(8,(.i x))] [((0,0),some ⟨true,.n,.own,bA⟩)]
def Nt (_:Bool) (_:(List (List Int))) (_:Int) (bA:Int):(Int ⊕ Unit)→Ex×St
 |.inl x=>(.ret,bT [(4,(.i x))] [((0,0),some ⟨true,.n,.own,bA⟩)])
 |.inr _=>(.exit 0,bT [(4,.dead)] [((0,0),some ⟨true,.n,.own,bA⟩)])
def amJ (s:St):Tre (Ex×St):=
 bB (.sl .il) (s.tmps 0) fun z3 d2=>
 xY 225 [(0,0)] (s.tmps 1)<|
 aF true .n (s.tmps 7) fun d6=>
 aF true .n (s.tmps 8) fun d8=>
 bq true .n (s.roots (0,0)) fun m10 d11=>
 asM .own m10<|
 .mat (aS (aaC d2 d6 d11) d8) fun x=>.alt x (fun a0=>.ret (Nt z3 d2 d6 d11 (.inl a0))) (fun b0=>.ret (Nt z3 d2 d6 d11 (.inr b0)))
def Rp:bF:=⟨([0,1,7,8],[(0,0)]),([4],[(0,0)]),amJ⟩
def aud:List (Nat×bF):=[(2,Rp)]
theorem amK:∀(oP:Bool)(bC:(List (List Int)))(bK bA x:Int)(c:St→Option (Ex×St)),den aqC aud (aV axi 0) (aaD oP bC bK bA x) (bZ Rp.kp Rp.kx c)=(aaC bC bK bA x).run (cu (aaD oP bC bK bA) (Nt oP bC bK bA) c):=fun _ _ _ _ _ _=>by
 kernel_rfl
theorem arX:bU aqC aud (aV axi 0) Rp:=fq fun s e s' h=>by
 generalize hs:restrict Rp.kp s=s1 at h
 have h:(amJ s1).run some=some (e,s'):=h
 obtain ⟨z3,d2,e1,h_0⟩:=dJ h
 obtain ⟨e4,h_1⟩:=xB h_0
 obtain ⟨d6,e5,h_2⟩:=bO h_1
 obtain ⟨d8,e7,h_3⟩:=bO h_2
 obtain ⟨m10,d11,e9,h_4⟩:=gG h_3
 obtain ⟨rfl,h_5⟩:=vD h_4
 obtain ⟨y,hy,hz⟩:=iA h_5
 refine ⟨_,_,aaD z3 d2 d6 d11,Nt z3 d2 d6 d11,aaC d2 d6 d11,d8,y,?_,hy,?_,amK z3 d2 d6 d11⟩
 ·subst hs;exact aT (T:=[(0,(.imm z3 (.sl .il) d2)),(1,(.fn 225 [(0,0)])),(7,(.i d6)),(8,(.i d8))]) (U:=[((0,0),some ⟨true,.n,.own,d11⟩)]) rfl rfl ⟨e1,e4,e5,e7,trivial⟩ ⟨e9,trivial⟩
 ·rcases y with x|x<;>exact Option.some.inj hz
def aAd:FnI:=fnI Tryz.f194 aud
def aqD (_:Bool) (_:(List (List Int))) (p1:Int):Int→au:=fun r=>⟨(.i r),[⟨true,.n,.own,p1⟩],[]⟩
theorem ayZ:∀(zp0:Bool)(p0:(List (List Int)))(p1:Int),bH aqC aAd ⟨[(.imm zp0 (.sl .il) p0),(.fn 225 [(0,0)])],[⟨true,.n,.own,p1⟩]⟩=(nm7 p0 p1).run fun r=>some (aqD zp0 p0 p1 r):=fun _ _ _=>by kernel_rfl
def aAc (av:List AV) (rs:List Root):Tre au:=
 aB av fun a0_ av0=>
 aB av0 fun a1_ av1=>
 aJ av1<|
 aB rs fun r0_ rs0=>
 aJ rs0<|
 bB (.sl .il) a0_ fun z2 d1=>
 xY 225 [(0,0)] a1_<|
 iL true .n r0_ fun m3 d4=>
 asM .own m3<|
 .mat (aqB d1 d4) fun r=>.ret (aqD z2 d1 d4 r)
def axj:Ctr:=dx [] aAc
theorem ay0:Contract Tryz.prog .none 194 axj:=aC (V:=aqC) aR (ak JK ayd aH) Tryz.func194 (bM (n:=1) fun k hk=>by
 match k,hk with
 |0,_=>exact bP (id:=2) arX) fun _ _ _=>aI fun _ _=>aI fun _ _=>aZ<|aI fun _ _=>aZ<|dF fun _ _=>tFn<|tRt fun _ _=>tM<|fun h=>by intros;subst_vars;exact aW (ayZ _ _ _) h
def M8:(Int×Int×Int)→Tre ((Int×Int×Int) ⊕ Int):=fun s2=>
 .cond (decide (s2.2.1>0))
  (.cond (decide (Nb .i64 s2.2.1 1=1))
   (.ret (.inl (rX .i64 s2.1 1,Pz .i64 s2.2.1 1,jT .i64 s2.2.2 s2.1)))
   (.ret (.inl (rX .i64 s2.1 1,Pz .i64 s2.2.1 1,s2.2.2))))
  (.ret (.inr s2.2.2))
def aiN (p0:Int) (p1:Int):Tre Int:=
 .mat (aS M8 (p0,p1,0)) fun l1=>
 .ret l1
def abz (p0:Int) (p1:Int):Option Int:=(aiN p0 p1).run some
def IY:Env:=⟨tau,[],[]⟩
def abA:Code:=(Tryz.f228.body).getD .skip
def OH:(Int×Int×Int)→St:=fun x=>bT [(0,(.i x.1)),(1,(.i x.2.1)),(5,(.i x.2.2))] []
def K3:Int→Ex×St:=fun x=>(.exit 0,bT [(5,(.i x))] [])
def ae0 (s:St):Tre (Ex×St):=
 aF true .n (s.tmps 0) fun d2=>
 aF true .n (s.tmps 1) fun d4=>
 aF true .n (s.tmps 5) fun d6=>
 .mat (aS M8 (d2,d4,d6)) fun x=>.ret (K3 x)
def yQ:bF:=⟨([0,1,5],[]),([5],[]),ae0⟩
def Q9:List (Nat×bF):=[(2,yQ)]
theorem XU:∀(x:(Int×Int×Int))(c:St→Option (Ex×St)),den IY Q9 (aV abA 0) (OH x) (bZ yQ.kp yQ.kx c)=(M8 x).run (cu (OH) (K3) c):=fun _ _=>by
 kernel_rfl
theorem acZ:bU IY Q9 (aV abA 0) yQ:=dB fun _ _ _=>aO fun _=>aO fun _=>aO fun _=>fun h e5 e3 e1=>cK XU h (by subst_vars;exact aT rfl rfl ⟨e1,e3,e5,trivial⟩ trivial)
def al1:FnI:=fnI Tryz.f228 Q9
def UY (_:Int) (_:Int):Int→au:=fun r=>⟨(.i r),[],[]⟩
theorem ajM:∀(p0 p1:Int),bH IY al1 ⟨[(.i p0),(.i p1)],[]⟩=(aiN p0 p1).run fun r=>some (UY p0 p1 r):=fun _ _=>by kernel_rfl
def al0 (av:List AV) (rs:List Root):Tre au:=
 aB av fun a0_ av0=>
 aB av0 fun a1_ av1=>
 aJ av1<|
 aJ rs<|
 aF true .n a0_ fun d1=>
 aF true .n a1_ fun d2=>
 .mat (abz d1 d2) fun r=>.ret (UY d1 d2 r)
def abB:Ctr:=dx [] al0
theorem ajN:Contract Tryz.prog .none 228 abB:=aC (V:=IY) aR aH Tryz.func228 (bM (n:=1) fun k hk=>by
 match k,hk with
 |0,_=>exact bP (id:=2) acZ) fun _ _ _=>aI fun _ _=>aI fun _ _=>aZ<|aZ<|aO fun _=>aO fun _=>fun h=>by intros;subst_vars;exact aW (ajM _ _) h
def abv (p0:(Int×(Int×Unit))) (p1:Int) (p2:Int):Tre Int:=
 .mat (abz p1 p2) fun r1=>
 .mat (Wo r1 p0.2.1) fun r2=>
 .ret r2
def dn (p0:(Int×(Int×Unit))) (p1:Int) (p2:Int):Option Int:=(abv p0 p1 p2).run some
-- more
set_option maxRecDepth 100000
theorem ayo:yc dn mulN 1 2=true:=by kernel_rfl
theorem ayp:yc dn mulN 1 3=true:=by kernel_rfl
theorem ayq:yc dn mulN 2 7=true:=by kernel_rfl
theorem avr:yc dn mulN 3 11=true:=by kernel_rfl
theorem avt:yc dn mulN 3 13=true:=by kernel_rfl
theorem avu:yc dn mulN 4 19=true:=by kernel_rfl
theorem avv:yc dn mulN 4 25=true:=by kernel_rfl
theorem avw:yc dn mulN 4 31=true:=by kernel_rfl
theorem avx:yc dn mulN 5 37=true:=by kernel_rfl
theorem avy:yc dn mulN 5 41=true:=by kernel_rfl
theorem avz:yc dn mulN 5 47=true:=by kernel_rfl
theorem avA:yc dn mulN 5 55=true:=by kernel_rfl
theorem avB:yc dn mulN 5 59=true:=by kernel_rfl
theorem avC:yc dn mulN 5 61=true:=by kernel_rfl
theorem ajQ{f:TF3}(hf:aQ f=true){a b:Int}(ha:inF f a)(hb:inF f b):dn f a b=some (gX f a b):=by
 refine auL (fun q hq=>?_) hf ha hb
 simp only [jc,List.mem_cons,List.not_mem_nil,or_false] at hq
 rcases hq with rfl|rfl|rfl|rfl|rfl|rfl|rfl|rfl|rfl|rfl|rfl|rfl|rfl|rfl
 ·exact ayo
 ·exact ayp
 ·exact ayq
 ·exact avr
 ·exact avt
 ·exact avu
 ·exact avv
 ·exact avw
 ·exact avx
 ·exact avy
 ·exact avz
 ·exact avA
 ·exact avB
 ·exact avC
def UL:Env:=⟨tau,[(228,abB),(219,Wp)],[]⟩
def ahx:FnI:=fnI Tryz.f189 []
def Oq (_:(Int×(Int×Unit))) (_:Int) (_:Int):Int→au:=fun r=>⟨(.i r),[],[]⟩
theorem aeH:∀(p0:(Int×(Int×Unit)))(p1 p2:Int),bH UL ahx ⟨[(.imm true aM p0),(.i p1),(.i p2)],[]⟩=(abv p0 p1 p2).run fun r=>some (Oq p0 p1 p2 r):=fun _ _ _=>by kernel_rfl
def ahw (av:List AV) (rs:List Root):Tre au:=
 aB av fun a0_ av0=>
 aB av0 fun a1_ av1=>
 aB av1 fun a2_ av2=>
 aJ av2<|
 aJ rs<|
 aF true aM a0_ fun d1=>
 aF true .n a1_ fun d2=>
 aF true .n a2_ fun d3=>
 .mat (dn d1 d2 d3) fun r=>.ret (Oq d1 d2 d3 r)
def Bl:Ctr:=dx [] ahw
theorem Fq:Contract Tryz.prog .none 189 Bl:=aC (V:=UL) aR (ak ajN ayg (ak abD atn aH)) Tryz.func189 bn fun _ _ _=>aI fun _ _=>aI fun _ _=>aI fun _ _=>aZ<|aZ<|aO fun _=>aO fun _=>aO fun _=>fun h=>by intros;subst_vars;exact aW (aeH _ _ _) h
def Am (bA:(Int×(Int×Unit))):(Int×Int×Int)→Tre ((Int×Int×Int) ⊕ Int):=fun s2=>
 .cond (decide (s2.2.1>0))
  (.cond (decide (Nb .i64 s2.2.1 1=1))
   (.mat (dn bA s2.2.2 s2.1) fun r1=>
   .mat (dn bA s2.1 s2.1) fun r2=>
   .ret (.inl (r2,Pz .i64 s2.2.1 1,r1)))
   (.mat (dn bA s2.1 s2.1) fun r3=>
   .ret (.inl (r3,Pz .i64 s2.2.1 1,s2.2.2))))
  (.ret (.inr s2.2.2))
def UM (p0:(Int×(Int×Unit))) (p1:Int) (p2:Int):Tre Int:=
 .mat (aS (Am p0) (p1,p2,1)) fun l4=>
 .ret l4
def Ot (p0:(Int×(Int×Unit))) (p1:Int) (p2:Int):Option Int:=(UM p0 p1 p2).run some
def wz:Env:=⟨tau,[(189,Bl)],[]⟩
def Ou:Code:=(Tryz.f241.body).getD .skip
def DT (bA:(Int×(Int×Unit))):(Int×Int×Int)→St:=fun x=>bT [(1,(.i x.1)),(2,(.i x.2.1)),(3,(.ptr (5,0) [])),(7,(.i x.2.2))] [((5,0),some ⟨true,aM,.own,bA⟩)]
def BN (_:(Int×(Int×Unit))):Int→Ex×St:=fun x=>(.exit 0,bT [(7,(.i x))] [])
def VW (s:St):Tre (Ex×St):=
 aF true .n (s.tmps 1) fun d2=>
 aF true .n (s.tmps 2) fun d4=>
 dH (5,0) [] (s.tmps 3)<|
 aF true .n (s.tmps 7) fun d7=>
 bq true aM (s.roots (5,0)) fun m9 d10=>
 asM .own m9<|
 .mat (aS (Am d10) (d2,d4,d7)) fun x=>.ret (BN d10 x)
def pE:bF:=⟨([1,2,3,7],[(5,0)]),([7],[]),VW⟩
def Dc:List (Nat×bF):=[(2,pE)]
theorem Pd:∀(bA:(Int×(Int×Unit)))(x:(Int×Int×Int))(c:St→Option (Ex×St)),den wz Dc (aV Ou 0) (DT bA x) (bZ pE.kp pE.kx c)=(Am bA x).run (cu (DT bA) (BN bA) c):=fun _ _ _=>by
 kernel_rfl
theorem TS:bU wz Dc (aV Ou 0) pE:=dB fun _ _ _=>aO fun _=>aO fun _=>gy<|aO fun _=>cO fun _ _=>tM<|fun h _ e8 e6 e5 e3 e1=>cK (Pd _) h (by subst_vars;exact aT rfl rfl ⟨e1,e3,e5,e6,trivial⟩ ⟨e8,trivial⟩)
def acF:FnI:=fnI Tryz.f241 Dc
def IC (_:(Int×(Int×Unit))) (_:Int) (_:Int):Int→au:=fun r=>⟨(.i r),[],[]⟩
theorem ZV:∀(p0:(Int×(Int×Unit)))(p1 p2:Int),bH wz acF ⟨[(.imm true aM p0),(.i p1),(.i p2)],[]⟩=(UM p0 p1 p2).run fun r=>some (IC p0 p1 p2 r):=fun _ _ _=>by kernel_rfl
def acE (av:List AV) (rs:List Root):Tre au:=
 aB av fun a0_ av0=>
 aB av0 fun a1_ av1=>
 aB av1 fun a2_ av2=>
 aJ av2<|
 aJ rs<|
 aF true aM a0_ fun d1=>
 aF true .n a1_ fun d2=>
 aF true .n a2_ fun d3=>
 .mat (Ot d1 d2 d3) fun r=>.ret (IC d1 d2 d3 r)
def Ov:Ctr:=dx [] acE
theorem ZW:Contract Tryz.prog .none 241 Ov:=aC (V:=wz) aR (ak Fq aoD aH) Tryz.func241 (bM (n:=1) fun k hk=>by
 match k,hk with
 |0,_=>exact bP (id:=2) TS) fun _ _ _=>aI fun _ _=>aI fun _ _=>aI fun _ _=>aZ<|aZ<|aO fun _=>aO fun _=>aO fun _=>fun h=>by intros;subst_vars;exact aW (ZV _ _ _) h
def Oo (p0:(Int×(Int×Unit))) (p1:Int):Tre Int:=
 .mat (eU p0) fun r1=>
 .mat (Ot p0 p1 (aL .i64 (r1-2))) fun r2=>
 .ret r2
def cZ (p0:(Int×(Int×Unit))) (p1:Int):Option Int:=(Oo p0 p1).run some
-- more
set_option maxRecDepth 100000
theorem ayl:xZ cZ qN 1 2=true:=by kernel_rfl
theorem aym:xZ cZ qN 1 3=true:=by kernel_rfl
theorem ayn:xZ cZ qN 2 7=true:=by kernel_rfl
theorem ave:xZ cZ qN 3 11=true:=by kernel_rfl
theorem avf:xZ cZ qN 3 13=true:=by kernel_rfl
theorem avg:xZ cZ qN 4 19=true:=by kernel_rfl
theorem avh:xZ cZ qN 4 25=true:=by kernel_rfl
theorem avi:xZ cZ qN 4 31=true:=by kernel_rfl
theorem avj:xZ cZ qN 5 37=true:=by kernel_rfl
theorem avk:xZ cZ qN 5 41=true:=by kernel_rfl
theorem avl:xZ cZ qN 5 47=true:=by kernel_rfl
theorem avm:xZ cZ qN 5 55=true:=by kernel_rfl
theorem avn:xZ cZ qN 5 59=true:=by kernel_rfl
theorem avo:xZ cZ qN 5 61=true:=by kernel_rfl
theorem avp{f:TF3}(hf:aQ f=true){a:Int}(ha:inF f a):cZ f a=some (yT f a):=by
 refine auk (fun q hq=>?_) hf ha
 simp only [jc,List.mem_cons,List.not_mem_nil,or_false] at hq
 rcases hq with rfl|rfl|rfl|rfl|rfl|rfl|rfl|rfl|rfl|rfl|rfl|rfl|rfl|rfl
 ·exact ayl
 ·exact aym
 ·exact ayn
 ·exact ave
 ·exact avf
 ·exact avg
 ·exact avh
 ·exact avi
 ·exact avj
 ·exact avk
 ·exact avl
 ·exact avm
 ·exact avn
 ·exact avo
def Iz:Env:=⟨tau,[(154,qp),(241,Ov)],[]⟩
def XC:FnI:=fnI Tryz.f226 []
def DN (_:(Int×(Int×Unit))) (_:Int):Int→au:=fun r=>⟨(.i r),[],[]⟩
theorem VR:∀(p0:(Int×(Int×Unit)))(p1:Int),bH Iz XC ⟨[(.imm true aM p0),(.i p1)],[]⟩=(Oo p0 p1).run fun r=>some (DN p0 p1 r):=fun _ _=>by kernel_rfl
def XB (av:List AV) (rs:List Root):Tre au:=
 aB av fun a0_ av0=>
 aB av0 fun a1_ av1=>
 aJ av1<|
 aJ rs<|
 aF true aM a0_ fun d1=>
 aF true .n a1_ fun d2=>
 .mat (cZ d1 d2) fun r=>.ret (DN d1 d2 r)
def IB:Ctr:=dx [] XB
theorem VT:Contract Tryz.prog .none 226 IB:=aC (V:=Iz) aR (ak ug ajz (ak ZW ayj aH)) Tryz.func226 bn fun _ _ _=>aI fun _ _=>aI fun _ _=>aZ<|aZ<|aO fun _=>aO fun _=>fun h=>by intros;subst_vars;exact aW (VR _ _) h
def iO (bR:(List (List Int))) (fU:Int):(Int×(List (List Int)))→Tre ((Int×(List (List Int))) ⊕ (List (List Int))):=fun s3=>
 .cond (decide (s3.1<fU))
  (.ite (0≤s3.1∧s3.1<(bR.length:Int))<|
  .mat (bR[s3.1.toNat]?) fun x1=>
  .mat (yh x1) fun r2=>
  .ite ((s3.2.length+1)*24≤bQ∧1≤24)<|
  .ret (.inl (aL .i64 (s3.1+1),s3.2++([r2]))))
  (.ret (.inr s3.2))
def gZ (qW:Nat) (Im:Int) (Io:Int) (A9:(Int×(Int×Unit))):(Int×(List (List Int)))→Tre ((Int×(List (List Int))) ⊕ (List (List Int))):=fun s15=>
 .cond (decide (s15.1<Io))
  (.mat (s15.2[qW]?) fun x15=>
  .ite (0≤s15.1∧s15.1<(x15.length:Int))<|
  .mat (s15.2[qW]?) fun x16=>
  .mat (x16[s15.1.toNat]?) fun x17=>
  .mat (dn A9 x17 Im) fun r18=>
  .mat (s15.2[qW]?) fun x19=>
  .ite (0≤s15.1∧s15.1<(x19.length:Int))<|
  .mat (s15.2[qW]?) fun x20=>
  .mat (x20[s15.1.toNat]?) fun _=>
  let v22:=x20.set s15.1.toNat r18
  .ret (.inl (aL .i64 (s15.1+1),s15.2.set qW v22)))
  (.ret (.inr s15.2))
def ig (yu:Nat) (wu:Nat) (Ir:Int) (Iu:Int) (vG:(Int×(Int×Unit))):(Int×(List (List Int)))→Tre ((Int×(List (List Int))) ⊕ (List (List Int))):=fun s25=>
 .cond (decide (s25.1<Iu))
  (.mat (s25.2[wu]?) fun x29=>
  .ite (0≤s25.1∧s25.1<(x29.length:Int))<|
  .mat (s25.2[wu]?) fun x30=>
  .mat (x30[s25.1.toNat]?) fun x31=>
  .mat (s25.2[yu]?) fun x32=>
  .ite (0≤s25.1∧s25.1<(x32.length:Int))<|
  .mat (s25.2[yu]?) fun x33=>
  .mat (x33[s25.1.toNat]?) fun x34=>
  .mat (dn vG Ir x34) fun r35=>
  .mat (s25.2[wu]?) fun x36=>
  .ite (0≤s25.1∧s25.1<(x36.length:Int))<|
  .mat (s25.2[wu]?) fun x37=>
  .mat (x37[s25.1.toNat]?) fun _=>
  let v39:=x37.set s25.1.toNat (jT .i64 x31 r35)
  .ret (.inl (aL .i64 (s25.1+1),s25.2.set wu v39)))
  (.ret (.inr s25.2))
def fK (Bd:Int) (Ip:Nat) (Iq:Int) (Bf:(Int×(Int×Unit))) (Bg:Int):(Int×(List (List Int)))→Tre ((Int×(List (List Int))) ⊕ (List (List Int))):=fun s20=>
 .cond (decide (s20.1<Iq))
  (.ite (0≤s20.1∧s20.1<(s20.2.length:Int))<|
  .mat (s20.2[s20.1.toNat]?) fun _=>
  .mat (s20.2[s20.1.toNat]?) fun x25=>
  .ite (0≤Bg∧Bg<(x25.length:Int))<|
  .mat (s20.2[s20.1.toNat]?) fun x26=>
  .mat (x26[Bg.toNat]?) fun x27=>
  .cond (!decide (s20.1=Bd))
   (.cond (!decide (x27=0))
    (.mat (s20.2[s20.1.toNat]?) fun x28=>
    .mat (aS (ig Ip s20.1.toNat x27 (x28.length:Int) Bf) (0,s20.2)) fun l40=>
    .ret (.inl (aL .i64 (s20.1+1),l40)))
    (.ret (.inl (aL .i64 (s20.1+1),s20.2))))
   (.ret (.inl (aL .i64 (s20.1+1),s20.2))))
  (.ret (.inr s20.2))
def gH (jd:Int) (nJ:(Int×(Int×Unit))):(Int×Int×(List (List Int)))→Tre ((Int×Int×(List (List Int))) ⊕ (Int×(List (List Int)))):=fun s8=>
 .cond (decide (s8.2.1<jd))
  (.ite (0≤s8.1∧s8.1≤(s8.2.2.length:Int)∧(s8.2.2.length:Int)≤(s8.2.2.length:Int))<|
  .mat (aqB ((s8.2.2.drop s8.1.toNat).take (((s8.2.2.length:Int)-s8.1).toNat)) s8.2.1) fun r4=>
  .cond (decide (r4<0))
   (.ret (.inl (s8.1,aL .i64 (s8.2.1+1),s8.2.2)))
   (.ite (0≤aL .i64 (s8.1+r4)∧aL .i64 (s8.1+r4)<(s8.2.2.length:Int))<|
   .mat (s8.2.2[(aL .i64 (s8.1+r4)).toNat]?) fun _=>
   .ite (0≤s8.1∧s8.1<(s8.2.2.length:Int))<|
   .mat (s8.2.2[s8.1.toNat]?) fun _=>
   .ite (0≤s8.1∧s8.1<(s8.2.2.length:Int))<|
   .ite (0≤aL .i64 (s8.1+r4)∧aL .i64 (s8.1+r4)<(s8.2.2.length:Int))<|
   .ite (Int.ofNat s8.1.toNat=Int.ofNat s8.1.toNat∧Int.ofNat ((aL .i64 (s8.1+r4)).toNat)=Int.ofNat ((aL .i64 (s8.1+r4)).toNat))<|
   let v7:=CZ ((aL .i64 (s8.1+r4)).toNat) s8.1.toNat s8.2.2
   .ite (0≤s8.1∧s8.1<(v7.length:Int))<|
   .mat (v7[s8.1.toNat]?) fun _=>
   .ite (0≤s8.1∧s8.1<(v7.length:Int))<|
   .mat (v7[s8.1.toNat]?) fun _=>
   .mat (v7[s8.1.toNat]?) fun x10=>
   .ite (0≤s8.2.1∧s8.2.1<(x10.length:Int))<|
   .mat (v7[s8.1.toNat]?) fun x11=>
   .mat (x11[s8.2.1.toNat]?) fun x12=>
   .mat (cZ nJ x12) fun r13=>
   .mat (v7[s8.1.toNat]?) fun x14=>
   .mat (aS (gZ s8.1.toNat r13 (x14.length:Int) nJ) (0,v7)) fun l23=>
   .mat (aS (fK s8.1 s8.1.toNat (l23.length:Int) nJ s8.2.1) (0,l23)) fun l41=>
   .ret (.inl (aL .i64 (s8.1+1),aL .i64 (s8.2.1+1),l41))))
  (.ret (.inr (s8.1,s8.2.2)))
def Fu (p0:(Int×(Int×Unit))) (p1:Int) (p2:(List (List Int))):Tre (List (List Int)):=
 .mat (aS (iO p2 (p2.length:Int)) (0,[])) fun l3=>
 .mat (aS (gH p1 p0) (0,0,l3)) fun l42=>
 .ite (0≤(0:Int)∧(0:Int)≤l42.1∧l42.1≤(l42.2.length:Int))<|
 .ret ((l42.2.drop 0).take ((l42.1-0).toNat))
def ou (p0:(Int×(Int×Unit))) (p1:Int) (p2:(List (List Int))):Option (List (List Int)):=(Fu p0 p1 p2).run some
-- more
theorem aew{α β γ:Type}(g:α→γ)(fin:List γ→β):∀(l:List α)(i:Nat)(acc:List γ),acc.length=i+l.length→xD (fun i acc x=>(.inl (acc.set i (g x)):List γ ⊕ β)) fin i acc l=fin (acc.take i++l.map g):=by
 intro l
 induction l with
 |nil=>intro i acc h;simp only [xD,List.map_nil,List.append_nil];rw [List.take_of_length_le (by simp at h;omega)]
 |cons x l ih=>
  intro i acc h
  simp only [List.length_cons] at h
  simp only [xD]
  rw [ih (i+1) _ (by simp;omega),List.take_add_one]
  simp [show i<acc.length by omega,List.take_set_of_le (Nat.le_refl i)]
theorem ar6{f:TF3}(hf:aQ f=true){L:List (List Int)}{k:Nat}{row:List Int}(hk:L[k]?=some row)(hn:row.length≤1000000)(hr:∀y∈row,inF f y){x:Int}(hx:inF f x) :
  aS (gZ k x (row.length:Int) f) (0,L)=some (L.set k (row.map fun y=>gX f y x)):=by
 have hkl:=(List.getElem?_eq_some_iff.1 hk).1
 have key:=oh (xs:=row) (step:=gZ k x (row.length:Int) f) (fun (i:Nat) (acc:List Int)=>((i:Int),L.set k acc)) (fun i acc y=>.inl (acc.set i (gX f y x))) (fun acc=>L.set k acc) (fun i acc=>acc.length=row.length∧acc.drop i=row.drop i) (by
  intro i acc y hy hi
  have hlt:=(List.getElem?_eq_some_iff.1 hy).1
  have hg:(L.set k acc)[k]?=some acc:=by rw [List.getElem?_set_self hkl]
  have hai:acc[i]?=some y:=by
   have:=congrArg (·[0]?) hi.2
   simpa [hy] using this
  refine ⟨?_,fun a ha=>?_⟩
  ·unfold gZ
   dsimp only
   rw [Tre.aD,decide_eq_true (by omega),cond_true,ah hg,Tre.run_ite,if_pos (by omega),ah hg,Int.toNat_natCast,ah hai,ah (ajQ hf (hr _ (List.mem_of_getElem? hy)) hx),ah hg,Tre.run_ite,if_pos (by omega),ah hg,ah hai,Tre.aN,aY (by omega),List.set_set]
  ·cases ha
   refine ⟨by simp [hi.1],?_⟩
   rw [List.drop_set_of_lt (by omega),←List.drop_drop,←List.drop_drop,hi.2]) (by
  intro acc _
  unfold gZ
  dsimp only
  rw [Tre.aD,decide_eq_false (by omega),cond_false]
  rfl) row 0 row rfl (Nat.zero_le _) ⟨rfl,rfl⟩
 rw [aew _ _ _ _ _ (by simp)] at key
 have h0:L.set k row=L:=by
  apply List.ext_getElem?
  intro j
  rw [List.getElem?_set]
  split
  ·rename_i h;subst h;exact hk.symm
  ·rfl
 rw [h0] at key
 simpa using key
theorem ar5{f:TF3}(hf:aQ f=true){L:List (List Int)}{k i2:Nat}(hne:k≠i2){own r:List Int}(hk:L[k]?=some own)(h2:L[i2]?=some r)(hl:r.length=own.length)(hn:r.length≤1000000)(hr:∀y∈own,inF f y){x:Int}(hx:inF f x) :
  aS (ig k i2 x (r.length:Int) f) (0,L)=some (L.set i2 ((r.zip own).map fun p=>jT .i64 p.1 (gX f x p.2))):=by
 have hkl:=(List.getElem?_eq_some_iff.1 h2).1
 have key:=oh (xs:=r.zip own) (step:=ig k i2 x (r.length:Int) f) (fun (i:Nat) (acc:List Int)=>((i:Int),L.set i2 acc)) (fun i acc p=>.inl (acc.set i (jT .i64 p.1 (gX f x p.2)))) (fun acc=>L.set i2 acc) (fun i acc=>acc.length=r.length∧acc.drop i=r.drop i) (by
  intro i acc p hp hi
  have hlt:=(List.getElem?_eq_some_iff.1 hp).1
  rw [List.length_zip] at hlt
  obtain ⟨p1,p2⟩:=p
  rw [List.getElem?_zip_eq_some] at hp
  obtain ⟨hp1,hp2⟩:=hp
  have hg:(L.set i2 acc)[i2]?=some acc:=by rw [List.getElem?_set_self hkl]
  have hgk:(L.set i2 acc)[k]?=some own:=by rw [List.getElem?_set_ne (Ne.symm hne)];exact hk
  have hai:acc[i]?=some p1:=by
   have:=congrArg (·[0]?) hi.2
   simpa [hp1] using this
  refine ⟨?_,fun a ha=>?_⟩
  ·unfold ig
   dsimp only
   rw [Tre.aD,decide_eq_true (by omega),cond_true,ah hg,Tre.run_ite,if_pos (by omega),ah hg,Int.toNat_natCast,ah hai,ah hgk,Tre.run_ite,if_pos (by omega),ah hgk,ah hp2,ah (ajQ hf hx (hr _ (List.mem_of_getElem? hp2))),ah hg,Tre.run_ite,if_pos (by omega),ah hg,ah hai,Tre.aN,aY (by omega),List.set_set]
  ·cases ha
   refine ⟨by simp [hi.1],?_⟩
   rw [List.drop_set_of_lt (by omega),←List.drop_drop,←List.drop_drop,hi.2]) (by
  intro acc _
  unfold ig
  dsimp only
  rw [Tre.aD,decide_eq_false (by rw [List.length_zip];omega),cond_false]
  rfl) (r.zip own) 0 r rfl (Nat.zero_le _) ⟨rfl,rfl⟩
 rw [aew _ _ _ _ _ (by simp [hl])] at key
 have h0:L.set i2 r=L:=by
  apply List.ext_getElem?
  intro j
  rw [List.getElem?_set]
  split
  ·rename_i h;subst h;simp [hkl,←h2]
  ·rfl
 rw [h0] at key
 simpa using key
theorem av5{f:TF3}(hf:aQ f=true){L:List (List Int)}{k c:Nat}{own:List Int}(hk:L[k]?=some own)(hL:L.length≤1000000)(hn:own.length≤1000000)(hc:c<own.length)(hl:∀r∈L,r.length=own.length∧∀y∈r,inF f y) :
  aS (fK (k:Int) k (L.length:Int) f (c:Int)) (0,L)=some (L.mapIdx (kK f c k own)):=by
 have hown:=hl own (List.mem_of_getElem? hk)
 have key:=oh (xs:=L) (step:=fK (k:Int) k (L.length:Int) f (c:Int)) (fun (i:Nat) (acc:List (List Int))=>((i:Int),acc)) (fun i acc r=>.inl (acc.set i (kK f c k own i r))) id (fun i acc=>acc.length=L.length∧acc.drop i=L.drop i∧acc[k]?=some own) (by
  intro i acc r hr hi
  have hlt:=(List.getElem?_eq_some_iff.1 hr).1
  obtain ⟨hr1,hr2⟩:=hl r (List.mem_of_getElem? hr)
  have hai:acc[i]?=some r:=by
   have:=congrArg (·[0]?) hi.2.1
   simpa [hr] using this
  obtain ⟨x,hx⟩:∃x,r[c]?=some x:=⟨_,List.getElem?_eq_getElem (by omega)⟩
  have hset:acc.set i r=acc:=by
   apply List.ext_getElem?
   intro j
   rw [List.getElem?_set]
   split
   ·rename_i h;subst h;simp [show i<acc.length by omega,←hai]
   ·rfl
  refine ⟨?_,fun a ha=>?_⟩
  ·unfold fK
   dsimp only
   rw [Tre.aD,decide_eq_true (by omega),cond_true,Tre.run_ite,if_pos (by omega),Int.toNat_natCast,ah hai,ah hai,Tre.run_ite,if_pos (by omega),ah hai,Int.toNat_natCast,ah hx,Tre.aD]
   by_cases h1:i=k
   ·rw [decide_eq_true (show (i:Int)=(k:Int) by omega),Bool.not_true,cond_false,Tre.aN,aY (by omega)]
    simp only [kK,hx,h1,decide_true,Bool.true_or,cond_true]
    rw [←h1,hset]
   ·rw [decide_eq_false (show ¬(i:Int)=(k:Int) by omega),Bool.not_false,cond_true,Tre.aD]
    by_cases h2:x=0
    ·rw [decide_eq_true h2,Bool.not_true,cond_false,Tre.aN,aY (by omega)]
     simp only [kK,hx,h2,decide_true,Bool.or_true,cond_true]
     rw [hset]
    ·rw [decide_eq_false h2,Bool.not_false,cond_true,ah hai,ah (ar5 hf (fun h=>h1 h.symm) hi.2.2 hai hr1 (by omega) hown.2 (hr2 _ (List.mem_of_getElem? hx))),Tre.aN,aY (by omega)]
     simp only [kK,hx,h1,h2,decide_false,Bool.or_self,cond_false]
  ·cases ha
   refine ⟨by simp [hi.1],?_,?_⟩
   ·rw [List.drop_set_of_lt (by omega),←List.drop_drop,←List.drop_drop,hi.2.1]
   ·by_cases h1:i=k
    ·subst h1
     rw [List.getElem?_set_self (by omega)]
     rw [hr] at hk;cases hk
     simp only [kK,hx,decide_true,Bool.true_or,cond_true]
    ·rw [List.getElem?_set_ne h1];exact hi.2.2) (by
  intro acc _
  unfold fK
  dsimp only
  rw [Tre.aD,decide_eq_false (by omega),cond_false]
  rfl) L 0 L rfl (Nat.zero_le _) ⟨rfl,rfl,hk⟩
 rw [aev _ _ _ _ _ (by simp)] at key
 simpa using key
theorem aup{rows:List (List Int)}(hl:rows.length≤1000000)(hr:∀r∈rows,r.length≤1000000):aS (iO rows (rows.length:Int)) (0,[])=some rows:=by
 have key:=oh (xs:=rows) (step:=iO rows (rows.length:Int)) (fun (i:Nat) (acc:List (List Int))=>((i:Int),acc)) (fun _ acc r=>.inl (acc++[id r])) id (fun i acc=>acc.length=i) (by
  intro i acc r h hi
  have hlt:=(List.getElem?_eq_some_iff.1 h).1
  refine ⟨?_,fun a ha=>?_⟩
  ·unfold iO
   dsimp only
   rw [Tre.aD,decide_eq_true (by omega),cond_true,Tre.run_ite,if_pos (by omega),Int.toNat_natCast,ah h,ah (show yh r=some r from aj3 (by have:=hr r (List.mem_of_getElem? h);omega)),Tre.run_ite,if_pos (by unfold bQ;omega),Tre.aN,aY (by omega)]
   rfl
  ·cases ha;simp [hi]) (by
  intro acc _
  unfold iO
  dsimp only
  rw [Tre.aD,decide_eq_false (by omega),cond_false]
  rfl) rows 0 [] rfl (Nat.zero_le _) rfl
 rw [Tn,List.map_id] at key
 exact key
theorem aur{f:TF3}(hf:aQ f=true){n c:Nat}(hc:c<n)(hn:n≤1000000)(s:Nat×List (List Int))(h:GR f n s.2)(hL:s.2.length≤1000000)(ha:s.1≤s.2.length) :
  (gH (n:Int) f ((s.1:Int),(c:Int),s.2)).run some=some (.inl (((iM f c s).1:Int),((c+1:Nat):Int),(iM f c s).2)):=by
 obtain ⟨a,L⟩:=s
 dsimp only at h hL ha
 unfold gH
 dsimp only
 have htk:(L.drop a).take (((L.length:Int)-(a:Int)).toNat)=L.drop a:=List.take_of_length_le (by rw [List.length_drop];omega)
 rw [Tre.aD,decide_eq_true (by omega),cond_true,Tre.run_ite,if_pos (by omega),Int.toNat_natCast,htk,ah (av7 (fun r hr=>by rw [(h r (List.mem_of_mem_drop hr)).1];exact hc) (by rw [List.length_drop];omega)),Tre.aD]
 unfold iM
 dsimp only
 rcases wT (u6 c) (L.drop a) 0 with ⟨h1,_⟩|⟨k,row,h1,h2,h3⟩
 ·have h4:=al7 (u6 c) (L.drop a) a 0
  rw [h1,if_pos (by decide)] at h4
  simp only [Nat.add_zero] at h4
  rw [h1,h4]
  simp only [show decide ((-1:Int)<0)=true from rfl,cond_true]
  rw [Tre.aN,aY (by omega)]
 ·have h4:=al7 (u6 c) (L.drop a) a 0
  rw [h3,if_neg (by omega)] at h4
  simp only [Nat.add_zero,Nat.zero_add] at h4
  have h4:lW (u6 c) a (L.drop a)=((a+k:Nat):Int):=by rw [h4];omega
  have hak:L[a+k]?=some row:=by rw [←h1,List.getElem?_drop]
  have hlt:=(List.getElem?_eq_some_iff.1 hak).1
  obtain ⟨r0,hr0⟩:∃r0,L[a]?=some r0:=⟨_,List.getElem?_eq_getElem (by omega)⟩
  obtain ⟨hrl,hrf⟩:=BA h hak
  obtain ⟨x,hx,hx0⟩:=akk h2
  have hxf:=hrf x (List.mem_of_getElem? hx)
  have hsw:CZ (a+k) a L=(L.set (a+k) r0).set a row:=by unfold CZ;rw [hak,hr0]
  have hva:((L.set (a+k) r0).set a row)[a]?=some row:=List.getElem?_set_self (by simp;omega)
  rw [h3,h4]
  simp only [Nat.zero_add]
  have hw:aL .i64 ((a:Int)+(k:Int))=((a+k:Nat):Int):=by rw [bY (by omega) (by omega)];omega
  rw [hw,Int.toNat_natCast,hsw,decide_eq_false (by omega),decide_eq_false (by omega),cond_false,cond_false]
  rw [Tre.run_ite,if_pos (by omega),ah hak,Tre.run_ite,if_pos (by omega),ah hr0,Tre.run_ite,if_pos (by omega),Tre.run_ite,if_pos (by omega),Tre.run_ite,if_pos (by simp)]
  simp only [List.length_set]
  rw [Tre.run_ite,if_pos (by omega),ah hva,Tre.run_ite,if_pos (by omega),ah hva,ah hva,Tre.run_ite,if_pos (by omega),ah hva,Int.toNat_natCast,ah hx,ah (avp hf hxf),ah hva]
  rw [ah (ar6 hf hva (by omega) hrf (Av hf hxf).1),List.set_set]
  have hp:K9 f c (a+k) a L=(L.set (a+k) r0).set a (row.map fun y=>gX f y (yT f x)):=by
   unfold K9 Kj
   rw [hak,hr0]
   simp only [hx]
  have hpg:=adO (c:=c) (k:=a+k) (a:=a) hf h
  rw [hp] at hpg ⊢
  have hpa:((L.set (a+k) r0).set a (row.map fun y=>gX f y (yT f x)))[a]?=some (row.map fun y=>gX f y (yT f x)):=List.getElem?_set_self (by simp;omega)
  generalize hG:(L.set (a+k) r0).set a (row.map fun y=>gX f y (yT f x))=G at hpg hpa
  have hown:=BA hpg.1 hpa
  have hcl:aS (fK (a:Int) a (G.length:Int) f (c:Int)) (0,G)=some (G.mapIdx (kK f c a (row.map fun y=>gX f y (yT f x)))):=
   av5 hf hpa (by omega) (by omega) (by omega) (fun r hr=>by rw [hown.1];exact hpg.1 r hr)
  rw [ah hcl,Tre.aN,aY (by omega),aY (by omega)]
  unfold yg
  rw [hpa]
theorem auq{f:TF3}(hf:aQ f=true){n:Nat}(hn:n≤1000000):∀(m c:Nat)(s:Nat×List (List Int)),c+m=n→GR f n s.2→s.2.length≤1000000→s.1≤s.2.length→aS (gH (n:Int) f) ((s.1:Int),(c:Int),s.2)=some (((jW f c m s).1:Int),(jW f c m s).2):=by
 intro m
 induction m with
 |zero=>
  intro c s hc h hL ha
  have hc:c=n:=hc
  subst hc
  refine eO ?_
  unfold gH
  exact dR
 |succ m ih=>
  intro c s hc h hL ha
  rw [iq (aur hf (by omega) hn s h hL ha)]
  have h1:=L8 (c:=c) hf h ha
  exact ih (c+1) _ (by omega) h1.1 (by omega) (by omega)
theorem avH{f:TF3}(hf:aQ f=true){n:Nat}(hn:n≤1000000){L:List (List Int)}(h:GR f n L)(hL:L.length≤1000000):ou f (n:Int) L=some (VG f n L):=by
 have hl:=auq hf hn n 0 (0,L) (by omega) h hL (Nat.zero_le _)
 have hk:=E5 hf n 0 (0,L) h (Nat.zero_le _)
 have hl:aS (gH (n:Int) f) (0,0,L)=_:=hl
 unfold ou Fu
 rw [ah (aup hL (fun r hr=>by rw [(h r hr).1];exact hn)),ah hl,Tre.run_ite,if_pos (by have:=hk.2.1;have:=hk.2.2;dsimp only at *;omega),Tre.aN]
 unfold VG
 simp
def dW:Env:=⟨tau,[(159,nC),(194,axj),(226,IB),(189,Bl)],[]⟩
def eY:Code:=(Tryz.f178.body).getD .skip
def BO (fD:Bool) (bI:Int) (bJ:Int) (bR:(List (List Int))) (fU:Int) (VJ:(Int×(Int×Unit))):(Int×(List (List Int)))→St:=fun x=>bT [(1,(.i bI)),(3,(.ptr (5,0) [])),(7,(.ref (9,0) [])),(8,(.i bJ)),(21,(.imm fD (.sl .il) bR)),(22,(.i fU)),(23,(.i x.1))] [((5,0),some ⟨true,aM,.own,VJ⟩),((9,0),some ⟨false,(.sl .il),.own,x.2⟩)]
def zP (_:Bool) (bI:Int) (bJ:Int) (_:(List (List Int))) (_:Int) (VJ:(Int×(Int×Unit))):(List (List Int))→Ex×St:=fun x=>(.exit 0,bT [(1,(.i bI)),(3,(.ptr (5,0) [])),(7,(.ref (9,0) [])),(8,(.i bJ))] [((5,0),some ⟨true,aM,.own,VJ⟩),((9,0),some ⟨false,(.sl .il),.own,x⟩)])
def TT (s:St):Tre (Ex×St):=
 aF true .n (s.tmps 1) fun d2=>
 dH (5,0) [] (s.tmps 3)<|
 fQ (9,0) [] (s.tmps 7)<|
 aF true .n (s.tmps 8) fun d6=>
 bB (.sl .il) (s.tmps 21) fun z9 d8=>
 aF true .n (s.tmps 22) fun d11=>
 aF true .n (s.tmps 23) fun d13=>
 bq true aM (s.roots (5,0)) fun m15 d16=>
 asM .own m15<|
 bq false (.sl .il) (s.roots (9,0)) fun m18 d19=>
 asM .own m18<|
 .mat (aS (iO d8 d11) (d13,d19)) fun x=>.ret (zP z9 d2 d6 d8 d11 d16 x)
def nT:bF:=⟨([1,3,7,8,21,22,23],[(5,0),(9,0)]),([1,3,7,8],[(5,0),(9,0)]),TT⟩
def zM (Md:Int) (qW:Nat) (Im:Int) (Me:Int) (Mf:Int) (Io:Int) (A9:(Int×(Int×Unit))) (Mg:Int):(Int×(List (List Int)))→St:=fun x=>bT [(3,(.ptr (5,0) [])),(7,(.ref (9,0) [])),(8,(.i Md)),(11,(.ptr (13,0) [])),(13,(.ref (9,0) [.idx qW])),(14,(.i Im)),(33,(.i Me)),(34,(.i Mf)),(76,(.i Io)),(77,(.i x.1))] [((5,0),some ⟨true,aM,.own,A9⟩),((9,0),some ⟨false,(.sl .il),.own,x.2⟩),((13,0),some ⟨true,.n,.own,Mg⟩)]
def yB (Md:Int) (qW:Nat) (_:Int) (Me:Int) (Mf:Int) (_:Int) (A9:(Int×(Int×Unit))) (Mg:Int):(List (List Int))→Ex×St:=fun x=>(.exit 4,bT [(3,(.ptr (5,0) [])),(7,(.ref (9,0) [])),(8,(.i Md)),(11,(.ptr (13,0) [])),(13,(.ref (9,0) [.idx qW])),(33,(.i Me)),(34,(.i Mf))] [((5,0),some ⟨true,aM,.own,A9⟩),((9,0),some ⟨false,(.sl .il),.own,x⟩),((13,0),some ⟨true,.n,.own,Mg⟩)])
def QG (s:St):Tre (Ex×St):=
 dH (5,0) [] (s.tmps 3)<|
 fQ (9,0) [] (s.tmps 7)<|
 aF true .n (s.tmps 8) fun d4=>
 dH (13,0) [] (s.tmps 11)<|
 Vx (9,0) [.idx 0] (s.tmps 13) fun i7=>
 aF true .n (s.tmps 14) fun d9=>
 aF true .n (s.tmps 33) fun d11=>
 aF true .n (s.tmps 34) fun d13=>
 aF true .n (s.tmps 76) fun d15=>
 aF true .n (s.tmps 77) fun d17=>
 bq true aM (s.roots (5,0)) fun m19 d20=>
 asM .own m19<|
 bq false (.sl .il) (s.roots (9,0)) fun m22 d23=>
 asM .own m22<|
 bq true .n (s.roots (13,0)) fun m25 d26=>
 asM .own m25<|
 .mat (aS (gZ i7 d9 d15 d20) (d17,d23)) fun x=>.ret (yB d4 i7 d9 d11 d13 d15 d20 d26 x)
def mM:bF:=⟨([3,7,8,11,13,14,33,34,76,77],[(5,0),(9,0),(13,0)]),([3,7,8,11,13,33,34],[(5,0),(9,0),(13,0)]),QG⟩
def zO (Ms:Int) (yu:Nat) (wu:Nat) (Ir:Int) (Mt:Int) (Mv:Int) (Mw:Int) (Mx:Int) (Iu:Int) (vG:(Int×(Int×Unit))) (E8:Int):(Int×(List (List Int)))→St:=fun x=>bT [(3,(.ptr (5,0) [])),(7,(.ref (9,0) [])),(8,(.i Ms)),(11,(.ptr (13,0) [])),(13,(.ref (9,0) [.idx yu])),(17,(.ref (9,0) [.idx wu])),(18,(.i Ir)),(33,(.i Mt)),(34,(.i Mv)),(91,(.ref (9,0) [])),(92,(.i Mw)),(93,(.i Mx)),(110,(.i Iu)),(111,(.i x.1))] [((5,0),some ⟨true,aM,.own,vG⟩),((9,0),some ⟨false,(.sl .il),.own,x.2⟩),((13,0),some ⟨true,.n,.own,E8⟩)]
def yD (Ms:Int) (yu:Nat) (_:Nat) (_:Int) (Mt:Int) (Mv:Int) (Mw:Int) (Mx:Int) (_:Int) (vG:(Int×(Int×Unit))) (E8:Int):(List (List Int))→Ex×St:=fun x=>(.exit 8,bT [(3,(.ptr (5,0) [])),(7,(.ref (9,0) [])),(8,(.i Ms)),(11,(.ptr (13,0) [])),(13,(.ref (9,0) [.idx yu])),(33,(.i Mt)),(34,(.i Mv)),(91,(.ref (9,0) [])),(92,(.i Mw)),(93,(.i Mx))] [((5,0),some ⟨true,aM,.own,vG⟩),((9,0),some ⟨false,(.sl .il),.own,x⟩),((13,0),some ⟨true,.n,.own,E8⟩)])
def QI (s:St):Tre (Ex×St):=
 dH (5,0) [] (s.tmps 3)<|
 fQ (9,0) [] (s.tmps 7)<|
 aF true .n (s.tmps 8) fun d4=>
 dH (13,0) [] (s.tmps 11)<|
 Vx (9,0) [.idx 0] (s.tmps 13) fun i7=>
 Vx (9,0) [.idx 0] (s.tmps 17) fun i9=>
 aF true .n (s.tmps 18) fun d11=>
 aF true .n (s.tmps 33) fun d13=>
 aF true .n (s.tmps 34) fun d15=>
 fQ (9,0) [] (s.tmps 91)<|
 aF true .n (s.tmps 92) fun d18=>
 aF true .n (s.tmps 93) fun d20=>
 aF true .n (s.tmps 110) fun d22=>
 aF true .n (s.tmps 111) fun d24=>
 bq true aM (s.roots (5,0)) fun m26 d27=>
 asM .own m26<|
 bq false (.sl .il) (s.roots (9,0)) fun m29 d30=>
 asM .own m29<|
 bq true .n (s.roots (13,0)) fun m32 d33=>
 asM .own m32<|
 .mat (aS (ig i7 i9 d11 d22 d27) (d24,d30)) fun x=>.ret (yD d4 i7 i9 d11 d13 d15 d18 d20 d22 d27 d33 x)
def mP:bF:=⟨([3,7,8,11,13,17,18,33,34,91,92,93,110,111],[(5,0),(9,0),(13,0)]),([3,7,8,11,13,33,34,91,92,93],[(5,0),(9,0),(13,0)]),QI⟩
def zN (Bd:Int) (Ip:Nat) (Mk:Int) (Ml:Int) (Iq:Int) (Bf:(Int×(Int×Unit))) (Bg:Int):(Int×(List (List Int)))→St:=fun x=>bT [(3,(.ptr (5,0) [])),(7,(.ref (9,0) [])),(8,(.i Bd)),(11,(.ptr (13,0) [])),(13,(.ref (9,0) [.idx Ip])),(33,(.i Mk)),(34,(.i Ml)),(91,(.ref (9,0) [])),(92,(.i Iq)),(93,(.i x.1))] [((5,0),some ⟨true,aM,.own,Bf⟩),((9,0),some ⟨false,(.sl .il),.own,x.2⟩),((13,0),some ⟨true,.n,.own,Bg⟩)]
def yC (Bd:Int) (_:Nat) (Mk:Int) (Ml:Int) (_:Int) (Bf:(Int×(Int×Unit))) (_:Int):(List (List Int))→Ex×St:=fun x=>(.exit 6,bT [(3,(.ptr (5,0) [])),(7,(.ref (9,0) [])),(8,(.i Bd)),(33,(.i Mk)),(34,(.i Ml))] [((5,0),some ⟨true,aM,.own,Bf⟩),((9,0),some ⟨false,(.sl .il),.own,x⟩)])
def QH (s:St):Tre (Ex×St):=
 dH (5,0) [] (s.tmps 3)<|
 fQ (9,0) [] (s.tmps 7)<|
 aF true .n (s.tmps 8) fun d4=>
 dH (13,0) [] (s.tmps 11)<|
 Vx (9,0) [.idx 0] (s.tmps 13) fun i7=>
 aF true .n (s.tmps 33) fun d9=>
 aF true .n (s.tmps 34) fun d11=>
 fQ (9,0) [] (s.tmps 91)<|
 aF true .n (s.tmps 92) fun d14=>
 aF true .n (s.tmps 93) fun d16=>
 bq true aM (s.roots (5,0)) fun m18 d19=>
 asM .own m18<|
 bq false (.sl .il) (s.roots (9,0)) fun m21 d22=>
 asM .own m21<|
 bq true .n (s.roots (13,0)) fun m24 d25=>
 asM .own m24<|
 .mat (aS (fK d4 i7 d14 d19 d25) (d16,d22)) fun x=>.ret (yC d4 i7 d9 d11 d14 d19 d25 x)
def mO:bF:=⟨([3,7,8,11,13,33,34,91,92,93],[(5,0),(9,0),(13,0)]),([3,7,8,33,34],[(5,0),(9,0)]),QH⟩
def BP (jd:Int) (nJ:(Int×(Int×Unit))):(Int×Int×(List (List Int)))→St:=fun x=>bT [(3,(.ptr (5,0) [])),(7,(.ref (9,0) [])),(8,(.i x.1)),(33,(.i jd)),(34,(.i x.2.1))] [((5,0),some ⟨true,aM,.own,nJ⟩),((9,0),some ⟨false,(.sl .il),.own,x.2.2⟩)]
def zQ (_:Int) (_:(Int×(Int×Unit))):(Int×(List (List Int)))→Ex×St:=fun x=>(.exit 2,bT [(7,(.ref (9,0) [])),(8,(.i x.1))] [((9,0),some ⟨false,(.sl .il),.own,x.2⟩)])
def TU (s:St):Tre (Ex×St):=
 dH (5,0) [] (s.tmps 3)<|
 fQ (9,0) [] (s.tmps 7)<|
 aF true .n (s.tmps 8) fun d4=>
 aF true .n (s.tmps 33) fun d6=>
 aF true .n (s.tmps 34) fun d8=>
 bq true aM (s.roots (5,0)) fun m10 d11=>
 asM .own m10<|
 bq false (.sl .il) (s.roots (9,0)) fun m13 d14=>
 asM .own m13<|
 .mat (aS (gH d6 d11) (d4,d8,d14)) fun x=>.ret (zQ d6 d11 x)
def nU:bF:=⟨([3,7,8,33,34],[(5,0),(9,0)]),([7,8],[(9,0)]),TU⟩
def eD:List (Nat×bF):=[(3,nT),(15,mM),(25,mP),(20,mO),(8,nU)]
theorem MH:∀(fD:Bool)(bI bJ:Int)(bR:(List (List Int)))(fU:Int)(VJ:(Int×(Int×Unit)))(x:(Int×(List (List Int))))(c:St→Option (Ex×St)),den dW eD (aV eY 0) (BO fD bI bJ bR fU VJ x) (bZ nT.kp nT.kx c)=(iO bR fU x).run (cu (BO fD bI bJ bR fU VJ) (zP fD bI bJ bR fU VJ) c):=fun _ _ _ _ _ _ _ _=>by
 kernel_rfl
theorem QJ:bU dW eD (aV eY 0) nT:=dB fun _ _ _=>aO fun _=>gy<|nR<|aO fun _=>dF fun _ _=>aO fun _=>aO fun _=>cO fun _ _=>tM<|cO fun _ _=>tM<|fun h _ e17 _ e14 e12 e10 e7 e5 e4 e3 e1=>cK (MH _ _ _ _ _ _) h (by subst_vars;exact aT rfl rfl ⟨e1,e3,e4,e5,e7,e10,e12,trivial⟩ ⟨e14,e17,trivial⟩)
theorem KA:∀(Md:Int)(qW:Nat)(Im Me Mf Io:Int)(A9:(Int×(Int×Unit)))(Mg:Int)(x:(Int×(List (List Int))))(c:St→Option (Ex×St)),den dW eD (aV eY 2) (zM Md qW Im Me Mf Io A9 Mg x) (bZ mM.kp mM.kx c)=(gZ qW Im Io A9 x).run (cu (zM Md qW Im Me Mf Io A9 Mg) (yB Md qW Im Me Mf Io A9 Mg) c):=fun _ _ _ _ _ _ _ _ _ _=>by
 kernel_rfl
theorem Pe:bU dW eD (aV eY 2) mM:=dB fun _ _ _=>gy<|nR<|aO fun _=>gy<|aqW fun _=>aO fun _=>aO fun _=>aO fun _=>aO fun _=>aO fun _=>cO fun _ _=>tM<|cO fun _ _=>tM<|cO fun _ _=>tM<|fun h _ e24 _ e21 _ e18 e16 e14 e12 e10 e8 e6 e5 e3 e2 e1=>cK (KA _ _ _ _ _ _ _ _) h (by subst_vars;exact aT rfl rfl ⟨e1,e2,e3,e5,e6,e8,e10,e12,e14,e16,trivial⟩ ⟨e18,e21,e24,trivial⟩)
theorem KD:∀(Ms:Int)(yu wu:Nat)(Ir Mt Mv Mw Mx Iu:Int)(vG:(Int×(Int×Unit)))(E8:Int)(x:(Int×(List (List Int))))(c:St→Option (Ex×St)),den dW eD (aV eY 4) (zO Ms yu wu Ir Mt Mv Mw Mx Iu vG E8 x) (bZ mP.kp mP.kx c)=(ig yu wu Ir Iu vG x).run (cu (zO Ms yu wu Ir Mt Mv Mw Mx Iu vG E8) (yD Ms yu wu Ir Mt Mv Mw Mx Iu vG E8) c):=fun _ _ _ _ _ _ _ _ _ _ _ _ _=>by
 kernel_rfl
theorem Pg:bU dW eD (aV eY 4) mP:=dB fun _ _ _=>gy<|nR<|aO fun _=>gy<|aqW fun _=>aqW fun _=>aO fun _=>aO fun _=>aO fun _=>nR<|aO fun _=>aO fun _=>aO fun _=>aO fun _=>cO fun _ _=>tM<|cO fun _ _=>tM<|cO fun _ _=>tM<|fun h _ e31 _ e28 _ e25 e23 e21 e19 e17 e16 e14 e12 e10 e8 e6 e5 e3 e2 e1=>cK (KD _ _ _ _ _ _ _ _ _ _ _) h (by subst_vars;exact aT rfl rfl ⟨e1,e2,e3,e5,e6,e8,e10,e12,e14,e16,e17,e19,e21,e23,trivial⟩ ⟨e25,e28,e31,trivial⟩)
theorem KC:∀(Bd:Int)(Ip:Nat)(Mk Ml Iq:Int)(Bf:(Int×(Int×Unit)))(Bg:Int)(x:(Int×(List (List Int))))(c:St→Option (Ex×St)),den dW eD (aV eY 3) (zN Bd Ip Mk Ml Iq Bf Bg x) (bZ mO.kp mO.kx c)=(fK Bd Ip Iq Bf Bg x).run (cu (zN Bd Ip Mk Ml Iq Bf Bg) (yC Bd Ip Mk Ml Iq Bf Bg) c):=fun _ _ _ _ _ _ _ _ _=>by
 kernel_rfl
theorem Pf:bU dW eD (aV eY 3) mO:=dB fun _ _ _=>gy<|nR<|aO fun _=>gy<|aqW fun _=>aO fun _=>aO fun _=>nR<|aO fun _=>aO fun _=>cO fun _ _=>tM<|cO fun _ _=>tM<|cO fun _ _=>tM<|fun h _ e23 _ e20 _ e17 e15 e13 e12 e10 e8 e6 e5 e3 e2 e1=>cK (KC _ _ _ _ _ _ _) h (by subst_vars;exact aT rfl rfl ⟨e1,e2,e3,e5,e6,e8,e10,e12,e13,e15,trivial⟩ ⟨e17,e20,e23,trivial⟩)
theorem MI:∀(jd:Int)(nJ:(Int×(Int×Unit)))(x:(Int×Int×(List (List Int))))(c:St→Option (Ex×St)),den dW eD (aV eY 1) (BP jd nJ x) (bZ nU.kp nU.kx c)=(gH jd nJ x).run (cu (BP jd nJ) (zQ jd nJ) c):=fun _ _ _ _=>by
 kernel_rfl
theorem QK:bU dW eD (aV eY 1) nU:=dB fun _ _ _=>gy<|nR<|aO fun _=>aO fun _=>aO fun _=>cO fun _ _=>tM<|cO fun _ _=>tM<|fun h _ e12 _ e9 e7 e5 e3 e2 e1=>cK (MI _ _) h (by subst_vars;exact aT rfl rfl ⟨e1,e2,e3,e5,e7,trivial⟩ ⟨e9,e12,trivial⟩)
def ZY:FnI:=fnI Tryz.f178 eD
def Fv (_:Bool) (_:(Int×(Int×Unit))) (_:Int) (_:(List (List Int))):(List (List Int))→au:=fun r=>⟨(.ref (1,0) []),[],[⟨false,(.sl .il),.own,r⟩]⟩
theorem XG:∀(zp0:Bool)(p0:(Int×(Int×Unit)))(p1:Int)(p2:(List (List Int))),bH dW ZY ⟨[(.imm true aM p0),(.i p1),(.imm zp0 (.sl .il) p2)],[]⟩=(Fu p0 p1 p2).run fun r=>some (Fv zp0 p0 p1 p2 r):=fun _ _ _ _=>by kernel_rfl
def ZX (av:List AV) (rs:List Root):Tre au:=
 aB av fun a0_ av0=>
 aB av0 fun a1_ av1=>
 aB av1 fun a2_ av2=>
 aJ av2<|
 aJ rs<|
 aF true aM a0_ fun d1=>
 aF true .n a1_ fun d2=>
 bB (.sl .il) a2_ fun z4 d3=>
 .mat (ou d1 d2 d3) fun r=>.ret (Fv z4 d1 d2 d3 r)
def Kz:Ctr:=dx [] ZX
theorem XH:Contract Tryz.prog .none 178 Kz:=aC (V:=dW) aR (ak qP aoz (ak ay0 aoE (ak VT aye (ak Fq aoD aH)))) Tryz.func178 (bM (n:=5) fun k hk=>by
 match k,hk with
 |0,_=>exact bP (id:=3) QJ
 |1,_=>exact bP (id:=8) QK
 |2,_=>exact bP (id:=15) Pe
 |3,_=>exact bP (id:=20) Pf
 |4,_=>exact bP (id:=25) Pg) fun _ _ _=>aI fun _ _=>aI fun _ _=>aI fun _ _=>aZ<|aZ<|aO fun _=>aO fun _=>dF fun _ _=>fun h=>by intros;subst_vars;exact aW (XG _ _ _ _) h
def WE (aX:(List (List Int))) (bD:(List (List Int))) (dL:Int):Int→Tre (Int ⊕ (Bool ⊕ Unit)):=fun s4=>
 .cond (decide (s4<dL))
  (.ite (0≤s4∧s4<(bD.length:Int))<|
  .mat (bD[s4.toNat]?) fun x1=>
  .ite (0≤s4∧s4<(aX.length:Int))<|
  .mat (aX[s4.toNat]?) fun x2=>
  .mat (zG x1 x2) fun r3=>
  .cond (!r3)
   (.ret (.inr (.inl false)))
   (.ret (.inl (aL .i64 (s4+1)))))
  (.ret (.inr (.inr ())))
def nm5 (p0:(List (List Int))) (p1:(List (List Int))):Tre Bool:=
 .cond (!decide ((p0.length:Int)=(p1.length:Int)))
  (.ret false)
  (.mat (aS (WE p1 p0 (p0.length:Int)) 0) fun l4=>
  .alt l4
   (fun a5=>
    .ret a5)
   (fun _=>
    .ret true))
def aqw (p0:(List (List Int))) (p1:(List (List Int))):Option Bool:=(nm5 p0 p1).run some
def aqx:Env:=⟨tau,[(113,nE)],[]⟩
def axe:Code:=(Tryz.f224.body).getD .skip
def aaB (iG:Bool) (oQ:Bool) (aX:(List (List Int))) (bD:(List (List Int))) (dL:Int):Int→St:=fun x=>bT [(1,(.imm iG (.sl .il) aX)),(2,(.fn 113 [])),(15,(.imm oQ (.sl .il) bD)),(16,(.i dL)),(17,(.i x))] []
def Ns (_:Bool) (_:Bool) (_:(List (List Int))) (_:(List (List Int))) (_:Int):(Bool ⊕ Unit)→Ex×St
 |.inl x=>(.ret,bT [(6,(.imm true .bool x))] [])
 |.inr _=>(.exit 0,bT [(6,.dead)] [])
def amH (s:St):Tre (Ex×St):=
 bB (.sl .il) (s.tmps 1) fun z3 d2=>
 xY 113 [] (s.tmps 2)<|
 bB (.sl .il) (s.tmps 15) fun z7 d6=>
 aF true .n (s.tmps 16) fun d9=>
 aF true .n (s.tmps 17) fun d11=>
 .mat (aS (WE d2 d6 d9) d11) fun x=>.alt x (fun a0=>.ret (Ns z3 z7 d2 d6 d9 (.inl a0))) (fun b0=>.ret (Ns z3 z7 d2 d6 d9 (.inr b0)))
def Ro:bF:=⟨([1,2,15,16,17],[]),([6],[]),amH⟩
def auc:List (Nat×bF):=[(4,Ro)]
theorem amI:∀(iG oQ:Bool)(aX bD:(List (List Int)))(dL x:Int)(c:St→Option (Ex×St)),den aqx auc (aV axe 0) (aaB iG oQ aX bD dL x) (bZ Ro.kp Ro.kx c)=(WE aX bD dL x).run (cu (aaB iG oQ aX bD dL) (Ns iG oQ aX bD dL) c):=fun _ _ _ _ _ _ _=>by
 kernel_rfl
theorem arW:bU aqx auc (aV axe 0) Ro:=fq fun s e s' h=>by
 generalize hs:restrict Ro.kp s=s1 at h
 have h:(amH s1).run some=some (e,s'):=h
 obtain ⟨z3,d2,e1,h_0⟩:=dJ h
 obtain ⟨e4,h_1⟩:=xB h_0
 obtain ⟨z7,d6,e5,h_2⟩:=dJ h_1
 obtain ⟨d9,e8,h_3⟩:=bO h_2
 obtain ⟨d11,e10,h_4⟩:=bO h_3
 obtain ⟨y,hy,hz⟩:=iA h_4
 refine ⟨_,_,aaB z3 z7 d2 d6 d9,Ns z3 z7 d2 d6 d9,WE d2 d6 d9,d11,y,?_,hy,?_,amI z3 z7 d2 d6 d9⟩
 ·subst hs;exact aT (T:=[(1,(.imm z3 (.sl .il) d2)),(2,(.fn 113 [])),(15,(.imm z7 (.sl .il) d6)),(16,(.i d9)),(17,(.i d11))]) (U:=[]) rfl rfl ⟨e1,e4,e5,e8,e10,trivial⟩ trivial
 ·rcases y with x|x<;>exact Option.some.inj hz
def az9:FnI:=fnI Tryz.f224 auc
def aqy (_:Bool) (_:Bool) (_:(List (List Int))) (_:(List (List Int))):Bool→au:=fun r=>⟨(.imm true .bool r),[],[]⟩
theorem ayV:∀(zp0 zp1:Bool)(p0 p1:(List (List Int))),bH aqx az9 ⟨[(.imm zp0 (.sl .il) p0),(.imm zp1 (.sl .il) p1),(.fn 113 [])],[]⟩=(nm5 p0 p1).run fun r=>some (aqy zp0 zp1 p0 p1 r):=fun _ _ _ _=>by kernel_rfl
def az8 (av:List AV) (rs:List Root):Tre au:=
 aB av fun a0_ av0=>
 aB av0 fun a1_ av1=>
 aB av1 fun a2_ av2=>
 aJ av2<|
 aJ rs<|
 bB (.sl .il) a0_ fun z2 d1=>
 bB (.sl .il) a1_ fun z4 d3=>
 xY 113 [] a2_<|
 .mat (aqw d1 d3) fun r=>.ret (aqy z2 z4 d1 d3 r)
def axf:Ctr:=dx [] az8
theorem ayW:Contract Tryz.prog .none 224 axf:=aC (V:=aqx) aR (ak qQ aoy aH) Tryz.func224 (bM (n:=1) fun k hk=>by
 match k,hk with
 |0,_=>exact bP (id:=4) arW) fun _ _ _=>aI fun _ _=>aI fun _ _=>aI fun _ _=>aZ<|aZ<|dF fun _ _=>dF fun _ _=>tFn<|fun h=>by intros;subst_vars;exact aW (ayV _ _ _ _) h
def Wq (p0:(List (List Int))) (p1:(List (List Int))):Tre Bool:=
 .mat (aqw p0 p1) fun r1=>
 .ret r1
def EF (p0:(List (List Int))) (p1:(List (List Int))):Option Bool:=(Wq p0 p1).run some
def XY:Env:=⟨tau,[(224,axf)],[]⟩
def ajP:FnI:=fnI Tryz.f177 []
def Rc (_:Bool) (_:Bool) (_:(List (List Int))) (_:(List (List Int))):Bool→au:=fun r=>⟨(.imm true .bool r),[],[]⟩
theorem ahH:∀(zp0 zp1:Bool)(p0 p1:(List (List Int))),bH XY ajP ⟨[(.imm zp0 (.sl .il) p0),(.imm zp1 (.sl .il) p1)],[]⟩=(Wq p0 p1).run fun r=>some (Rc zp0 zp1 p0 p1 r):=fun _ _ _ _=>by kernel_rfl
def ajO (av:List AV) (rs:List Root):Tre au:=
 aB av fun a0_ av0=>
 aB av0 fun a1_ av1=>
 aJ av1<|
 aJ rs<|
 bB (.sl .il) a0_ fun z2 d1=>
 bB (.sl .il) a1_ fun z4 d3=>
 .mat (EF d1 d3) fun r=>.ret (Rc z2 z4 d1 d3 r)
def XZ:Ctr:=dx [] ajO
theorem ahI:Contract Tryz.prog .none 177 XZ:=aC (V:=XY) aR (ak ayW ayc aH) Tryz.func177 bn fun _ _ _=>aI fun _ _=>aI fun _ _=>aZ<|aZ<|dF fun _ _=>dF fun _ _=>fun h=>by intros;subst_vars;exact aW (ahH _ _ _ _) h
def Q0 (p0:aG):Tre Bool:=
 .mat (pF p0.1 p0.2.1 p0.2.2.1) fun r1=>
 .cond (decide (r1=0))
  (.mat (ou p0.1 p0.2.1 p0.2.2.1) fun r2=>
  .mat (EF r2 p0.2.2.1) fun r3=>
  .ret r3)
  (.ret false)
def vQ (p0:aG):Option Bool:=(Q0 p0).run some
-- more
theorem apH{l:List Int}(h:l.length≤1048576):zG l l=some true:=by
 unfold zG
 rw [kX (by simp only [Bool.and_eq_true,decide_eq_true_eq];exact ⟨h,h⟩),decide_eq_true rfl]
theorem ajU{c:TRC}{n:Nat}{p:List Nat}(h:lX c n p):pF c.1 c.2.1 c.2.2.1=some 0:=by
 have h1:=h.h1
 have h5:=h.h5
 have h10:=h.r10
 have hc:∀r∈c.2.2.1,jf r c.2.1 c.1=some false:=by
  intro r hr
  have hg:=h.rre.gr r hr
  unfold jf ow
  rw [Tre.aD,decide_eq_true (show (r.length:Int)=c.2.1 by rw [hg.1,h.len]),Bool.not_true,cond_false,ah (QA h.hf r (by rw [hg.1];omega)),Tre.aN,aox h.hf hg.2]
  rfl
 have h2:aqt c.2.2.1 c.2.1 c.1=some (-1):=by
  unfold aqt nm4
  rw [ah (show aS (WC c.2.2.1 (c.2.2.1.length:Int) c.2.1 c.1) 0=some (.inr ()) from ?_)]
  ·rfl
  refine fH (fun i=>(i:Int)) c.2.2.1.length _ (fun i hi=>?_) ?_
  ·have hx:=List.getElem?_eq_getElem hi
   unfold WC
   rw [eB hx,ah (hc _ (List.mem_of_getElem? hx)),Tre.aD,cond_false,Tre.aN,aY (by omega)]
  ·unfold WC
   exact dR
 have h4:aql c.2.2.1 c.2.1 c.1=some false:=by
  unfold aql nm1
  rw [ah h2,Tre.aN]
  rfl
 unfold pF Ao
 rw [ah (Dl c.1),h.hf,Tre.aD,Bool.not_true,cond_false,Tre.aD,iT.2 (by rw [h.len];omega),Bool.not_true,cond_false,Tre.aD,decide_eq_false (by omega),cond_false,ah h4,Tre.aD]
 rfl
theorem afh{L:List (List Int)}(hl:L.length≤1000000)(h:∀r∈L,r.length≤1000000):EF L L=some true:=by
 have h1:aqw L L=some true:=by
  unfold aqw nm5
  rw [Tre.aD,decide_eq_true rfl,Bool.not_true,cond_false,ah (show aS (WE L L (L.length:Int)) 0=some (.inr ()) from ?_)]
  ·rfl
  refine fH (fun i=>(i:Int)) L.length _ (fun i hi=>?_) ?_
  ·have hx:=List.getElem?_eq_getElem hi
   unfold WE
   rw [eB hx,gu hx,ah (apH (by have:=h _ (List.mem_of_getElem? hx);omega)),Tre.aD,Bool.not_true,cond_false,Tre.aN,aY (by omega)]
  ·unfold WE
   exact dR
 unfold EF Wq
 rw [ah h1,Tre.aN]
theorem J2{c:TRC}{n:Nat}{p:List Nat}(h:lX c n p):vQ c=some true:=by
 have h5:=h.h5
 have h10:=h.r10
 have hr:ou c.1 c.2.1 c.2.2.1=some c.2.2.1:=by
  rw [h.len,avH h.hf (by omega) h.rre.gr (by omega),h.rre.idem h.hf]
 unfold vQ Q0
 rw [ah (ajU h),Tre.aD,decide_eq_true rfl,cond_true,ah hr,ah (afh (by omega) fun r hr=>by have:=(h.rre.gr r hr).1;omega),Tre.aN]
def UR:Env:=⟨tau,[(176,Fx),(178,Kz),(177,XZ)],[]⟩
def ahD:FnI:=fnI Tryz.f97 []
def OB (_:Bool) (_:aG):Bool→au:=fun r=>⟨(.imm true .bool r),[],[]⟩
theorem aeS:∀(zp0:Bool)(p0:aG),bH UR ahD ⟨[(.imm zp0 aP p0)],[]⟩=(Q0 p0).run fun r=>some (OB zp0 p0 r):=fun _ _=>by kernel_rfl
def ahC (av:List AV) (rs:List Root):Tre au:=
 aB av fun a0_ av0=>
 aJ av0<|
 aJ rs<|
 bB aP a0_ fun z2 d1=>
 .mat (vQ d1) fun r=>.ret (OB z2 d1 r)
def JV:Ctr:=dx [] ahC
theorem Q5:Contract Tryz.prog .none 97 JV:=aC (V:=UR) aR (ak TW axV (ak XH axX (ak ahI axW aH))) Tryz.func97 bn fun _ _ _=>aI fun _ _=>aZ<|aZ<|dF fun _ _=>fun h=>by intros;subst_vars;exact aW (aeS _ _) h
def U0 (p0:(List (List Int))):Tre Int:=
 .ret (p0.length:Int)
def ac3 (p0:(List (List Int))):Option Int:=(U0 p0).run some
theorem Wt(p0:(List (List Int))):ac3 p0=some (p0.length:Int):=rfl
def OM:Env:=⟨tau,[],[]⟩
def ac5:FnI:=fnI Tryz.f98 []
def I4 (_:Bool) (_:(List (List Int))):Int→au:=fun r=>⟨(.i r),[],[]⟩
theorem aan:∀(zp0:Bool)(p0:(List (List Int))),bH OM ac5 ⟨[(.imm zp0 (.sl .il) p0)],[]⟩=(U0 p0).run fun r=>some (I4 zp0 p0 r):=fun _ _=>by kernel_rfl
def ac4 (av:List AV) (rs:List Root):Tre au:=
 aB av fun a0_ av0=>
 aJ av0<|
 aJ rs<|
 bB (.sl .il) a0_ fun z2 d1=>
 .ret (I4 z2 d1 (d1.length:Int))
def Dn:Ctr:=dx [] ac4
theorem K4:Contract Tryz.prog .none 98 Dn:=aC (V:=OM) aR aH Tryz.func98 bn fun _ _ _=>aI fun _ _=>aZ<|aZ<|dF fun _ _=>fun h=>by intros;subst_vars;exact yt (aan _ _) (Wt _) h
def iy (om:List Int) (lC:Int) (MB:List Int) (Qp:Int) (JH:aG):(Int×(List Int))→Tre ((Int×(List Int)) ⊕ (List Int)):=fun s6=>
 .cond (decide (s6.1<Qp))
  (.ite (0≤s6.1∧s6.1<(MB.length:Int))<|
  .mat (MB[s6.1.toNat]?) fun x2=>
  .ite (0≤s6.1∧s6.1<(s6.2.length:Int))<|
  .mat (s6.2[s6.1.toNat]?) fun x3=>
  .ite (0≤lC∧lC<(om.length:Int))<|
  .mat (om[lC.toNat]?) fun x4=>
  .mat (dn JH.1 x4 x2) fun r5=>
  .ite (0≤s6.1∧s6.1<(s6.2.length:Int))<|
  .mat (s6.2[s6.1.toNat]?) fun _=>
  let v7:=s6.2.set s6.1.toNat (jT .i64 x3 r5)
  .ret (.inl (aL .i64 (s6.1+1),v7)))
  (.ret (.inr s6.2))
def iw (bI:List Int) (bJ:(List (List Int))) (bR:Int) (fA:aG):(Int×(List Int))→Tre ((Int×(List Int)) ⊕ (List Int)):=fun s3=>
 .cond (decide (s3.1<bR))
  (.ite (0≤s3.1∧s3.1<(bJ.length:Int))<|
  .mat (bJ[s3.1.toNat]?) fun x1=>
  .mat (aS (iy bI s3.1 x1 (x1.length:Int) fA) (0,s3.2)) fun l8=>
  .ret (.inl (aL .i64 (s3.1+1),l8)))
  (.ret (.inr s3.2))
def yK (p0:aG) (p1:List Int):Tre (List Int):=
 .ite ((.n:K)=.n∧0≤p0.2.1∧p0.2.1=p0.2.1∧p0.2.1*(8:Nat)≤140737488355328∧1≤8)<|
 .mat (aS (iw p1 p0.2.2.1 (p0.2.2.1.length:Int) p0) (0,List.replicate p0.2.1.toNat (0:Int))) fun l9=>
 .ret l9
def kJ (p0:aG) (p1:List Int):Option (List Int):=(yK p0 p1).run some
-- more
theorem atG{f:TF3}(hf:aQ f=true){n:Nat}(hn:n≤1000){row out ms:List Int}(hr:okV f n row)(ho:okV f n out){i:Nat}{x:Int}(hi:ms[i]?=some x)(hx:inF f x){c:TRC}(hc:c.1=f) :
  aS (iy ms (i:Int) row (row.length:Int) c) (0,out)=some (vC f out row x):=by
 have hal:=Xo hf ho hr hx
 refine fH (fun k=>((k:Int),(vC f out row x).take k++out.drop k)) row.length _ (fun k hk=>?_) ?_
 ·have hkn:k<n:=by have:=hr.1;omega
  have hrk:=List.getElem?_eq_getElem hk
  have hol:k<out.length:=by rw [ho.1];exact hkn
  have hok:=List.getElem?_eq_getElem hol
  have hak:(vC f out row x)[k]?=some (jT .i64 out[k] (gX f x row[k])):=by
   unfold vC
   rw [List.getElem?_map,List.getElem?_zip_eq_some.2 (show out[k]?=some (out[k],row[k]).1∧row[k]?=some (out[k],row[k]).2 from ⟨hok,hrk⟩),Option.map_some]
   dsimp only
   rw [mE hf (hr.2 _ (List.mem_of_getElem? hrk)) hx]
  have hti:((vC f out row x).take k).length=k:=by rw [List.length_take,hal.1];omega
  have hd:out.drop k=out[k]::out.drop (k+1):=List.drop_eq_getElem_cons _
  have h1:((vC f out row x).take k++out.drop k)[k]?=some out[k]:=by rw [List.getElem?_append_right (by omega),hti,Nat.sub_self,hd];rfl
  have h3:((vC f out row x).take k++out.drop k).set k (jT .i64 out[k] (gX f x row[k]))=(vC f out row x).take (k+1)++out.drop (k+1):=by
   rw [List.set_append_right _ _ (by omega),hti,Nat.sub_self,hd,List.set_cons_zero,List.take_add_one,hak,Option.toList_some,List.append_assoc]
   rfl
  unfold iy
  dsimp only
  rw [eB hrk,gu h1,gu hi,ah (show dn c.1 x row[k]=some (gX f x row[k]) from by rw [hc];exact ajQ hf hx (hr.2 _ (List.mem_of_getElem? hrk))),gu h1,Int.toNat_natCast,h3,Tre.aN,aY (by omega)]
 ·unfold iy
  dsimp only
  rw [dR,Tre.aN,List.drop_of_length_le (by rw [ho.1,hr.1];omega),List.append_nil,List.take_of_length_le (by rw [hal.1,hr.1];omega)]
theorem ap8{c:TRC}{n:Nat}{p:List Nat}(h:lX c n p){m:List Int}(hm:okV c.1 c.2.2.1.length m):kJ c m=some (tX c m):=by
 have h5:=h.h5
 have h10:=h.r10
 unfold kJ yK
 rw [Tre.run_ite,if_pos (by rw [h.len];exact ⟨rfl,by omega,rfl,by omega,by decide⟩)]
 rw [ah (show aS (iw m c.2.2.1 (c.2.2.1.length:Int) c) (0,List.replicate c.2.1.toNat 0)=some (tX c m) from ?_),Tre.aN]
 unfold tX acv
 rw [h.len,Int.toNat_natCast]
 have hwz:∀i,i≤m.length→okV c.1 n (BG c.1 (fun i=>c.2.2.1.getD i []) 0 (List.replicate n 0) (m.take i)):=fun i hi=>
  aee h.hf _ 0 _ (C9 n) (fun x hx=>hm.2 x (List.mem_of_mem_take hx)) fun j _ hj=>rows_ok h.rre.gr (by rw [List.length_take] at hj;have:=hm.1;omega)
 refine fH (fun i=>((i:Int),BG c.1 (fun i=>c.2.2.1.getD i []) 0 (List.replicate n 0) (m.take i))) c.2.2.1.length _ (fun i hi=>?_) ?_
 ·have hx:=List.getElem?_eq_getElem hi
  have hmi:=List.getElem?_eq_getElem (show i<m.length by rw [hm.1];exact hi)
  have hrow:=h.rre.gr _ (List.mem_of_getElem? hx)
  unfold iw
  dsimp only
  rw [eB hx,ah (atG h.hf (by omega) hrow (hwz i (by rw [hm.1];omega)) hmi (hm.2 _ (List.mem_of_getElem? hmi)) rfl),Tre.aN,aY (by omega),List.take_add_one,hmi,Option.toList_some,aiD]
  have:0+(m.take i).length=i:=by rw [List.length_take,hm.1];omega
  rw [this,jX hx]
 ·unfold iw
  dsimp only
  rw [dR,Tre.aN,List.take_of_length_le (by rw [hm.1];omega)]
def iX:Env:=⟨tau,[(189,Bl)],[]⟩
def nV:Code:=(Tryz.f114.body).getD .skip
def xK (abe:Bool) (apT:Bool) (auV:Bool) (apU:Bool) (om:List Int) (lC:Int) (VL:(List (List Int))) (uT:Int) (VN:Int) (MB:List Int) (Qp:Int) (JH:aG):(Int×(List Int))→St:=fun x=>bT [(1,(.imm abe .il om)),(2,(.ptr (4,0) [])),(5,(.ref (7,0) [])),(6,(.i lC)),(14,(.imm apT (.sl .il) VL)),(15,(.i uT)),(16,(.i VN)),(21,(.imm auV .il MB)),(22,(.i Qp)),(23,(.i x.1))] [((4,0),some ⟨true,aP,(.imm apU),JH⟩),((7,0),some ⟨false,.il,.own,x.2⟩)]
def vP (abe:Bool) (apT:Bool) (_:Bool) (apU:Bool) (om:List Int) (_:Int) (VL:(List (List Int))) (uT:Int) (VN:Int) (_:List Int) (_:Int) (JH:aG):(List Int)→Ex×St:=fun x=>(.exit 2,bT [(1,(.imm abe .il om)),(2,(.ptr (4,0) [])),(5,(.ref (7,0) [])),(14,(.imm apT (.sl .il) VL)),(15,(.i uT)),(16,(.i VN))] [((4,0),some ⟨true,aP,(.imm apU),JH⟩),((7,0),some ⟨false,.il,.own,x⟩)])
def MU (s:St):Tre (Ex×St):=
 bB .il (s.tmps 1) fun z3 d2=>
 dH (4,0) [] (s.tmps 2)<|
 fQ (7,0) [] (s.tmps 5)<|
 aF true .n (s.tmps 6) fun d7=>
 bB (.sl .il) (s.tmps 14) fun z10 d9=>
 aF true .n (s.tmps 15) fun d12=>
 aF true .n (s.tmps 16) fun d14=>
 bB .il (s.tmps 21) fun z17 d16=>
 aF true .n (s.tmps 22) fun d19=>
 aF true .n (s.tmps 23) fun d21=>
 bq true aP (s.roots (4,0)) fun m23 d24=>
 fI m23 fun z25=>
 bq false .il (s.roots (7,0)) fun m27 d28=>
 asM .own m27<|
 .mat (aS (iy d2 d7 d16 d19 d24) (d21,d28)) fun x=>.ret (vP z3 z10 z17 z25 d2 d7 d9 d12 d14 d16 d19 d24 x)
def kR:bF:=⟨([1,2,5,6,14,15,16,21,22,23],[(4,0),(7,0)]),([1,2,5,14,15,16],[(4,0),(7,0)]),MU⟩
def xJ (fD:Bool) (GZ:Bool) (auU:Bool) (bI:List Int) (bJ:(List (List Int))) (bR:Int) (fA:aG):(Int×(List Int))→St:=fun x=>bT [(1,(.imm fD .il bI)),(2,(.ptr (4,0) [])),(5,(.ref (7,0) [])),(14,(.imm GZ (.sl .il) bJ)),(15,(.i bR)),(16,(.i x.1))] [((4,0),some ⟨true,aP,(.imm auU),fA⟩),((7,0),some ⟨false,.il,.own,x.2⟩)]
def vO (_:Bool) (_:Bool) (_:Bool) (_:List Int) (_:(List (List Int))) (_:Int) (_:aG):(List Int)→Ex×St:=fun x=>(.exit 0,bT [(5,(.ref (7,0) []))] [((7,0),some ⟨false,.il,.own,x⟩)])
def MS (s:St):Tre (Ex×St):=
 bB .il (s.tmps 1) fun z3 d2=>
 dH (4,0) [] (s.tmps 2)<|
 fQ (7,0) [] (s.tmps 5)<|
 bB (.sl .il) (s.tmps 14) fun z8 d7=>
 aF true .n (s.tmps 15) fun d10=>
 aF true .n (s.tmps 16) fun d12=>
 bq true aP (s.roots (4,0)) fun m14 d15=>
 fI m14 fun z16=>
 bq false .il (s.roots (7,0)) fun m18 d19=>
 asM .own m18<|
 .mat (aS (iw d2 d7 d10 d15) (d12,d19)) fun x=>.ret (vO z3 z8 z16 d2 d7 d10 d15 x)
def kQ:bF:=⟨([1,2,5,14,15,16],[(4,0),(7,0)]),([5],[(7,0)]),MS⟩
def kI:List (Nat×bF):=[(6,kR),(3,kQ)]
theorem Ht:∀(abe apT auV apU:Bool)(om:List Int)(lC:Int)(VL:(List (List Int)))(uT VN:Int)(MB:List Int)(Qp:Int)(JH:aG)(x:(Int×(List Int)))(c:St→Option (Ex×St)),den iX kI (aV nV 1) (xK abe apT auV apU om lC VL uT VN MB Qp JH x) (bZ kR.kp kR.kx c)=(iy om lC MB Qp JH x).run (cu (xK abe apT auV apU om lC VL uT VN MB Qp JH) (vP abe apT auV apU om lC VL uT VN MB Qp JH) c):=fun _ _ _ _ _ _ _ _ _ _ _ _ _ _=>by
 kernel_rfl
theorem KO:bU iX kI (aV nV 1) kR:=dB fun _ _ _=>dF fun _ _=>gy<|nR<|aO fun _=>dF fun _ _=>aO fun _=>aO fun _=>dF fun _ _=>aO fun _=>aO fun _=>cO fun _ _=>nQ fun _=>cO fun _ _=>tM<|fun h _ e26 _ e22 e20 e18 e15 e13 e11 e8 e6 e5 e4 e1=>cK (Ht _ _ _ _ _ _ _ _ _ _ _ _) h (by subst_vars;exact aT rfl rfl ⟨e1,e4,e5,e6,e8,e11,e13,e15,e18,e20,trivial⟩ ⟨e22,e26,trivial⟩)
theorem Hr:∀(fD GZ auU:Bool)(bI:List Int)(bJ:(List (List Int)))(bR:Int)(fA:aG)(x:(Int×(List Int)))(c:St→Option (Ex×St)),den iX kI (aV nV 0) (xJ fD GZ auU bI bJ bR fA x) (bZ kQ.kp kQ.kx c)=(iw bI bJ bR fA x).run (cu (xJ fD GZ auU bI bJ bR fA) (vO fD GZ auU bI bJ bR fA) c):=fun _ _ _ _ _ _ _ _ _=>by
 kernel_rfl
theorem KN:bU iX kI (aV nV 0) kQ:=dB fun _ _ _=>dF fun _ _=>gy<|nR<|dF fun _ _=>aO fun _=>aO fun _=>cO fun _ _=>nQ fun _=>cO fun _ _=>tM<|fun h _ e17 _ e13 e11 e9 e6 e5 e4 e1=>cK (Hr _ _ _ _ _ _ _) h (by subst_vars;exact aT rfl rfl ⟨e1,e4,e5,e6,e9,e11,trivial⟩ ⟨e13,e17,trivial⟩)
def Uc:FnI:=fnI Tryz.f114 kI
def zU (_:Bool) (_:Bool) (_:aG) (_:List Int):(List Int)→au:=fun r=>⟨(.ref (1,0) []),[],[⟨false,.il,.own,r⟩]⟩
theorem QW:∀(zp0 zp1:Bool)(p0:aG)(p1:List Int),bH iX Uc ⟨[(.imm zp0 aP p0),(.imm zp1 .il p1)],[]⟩=(yK p0 p1).run fun r=>some (zU zp0 zp1 p0 p1 r):=fun _ _ _ _=>by kernel_rfl
def Ub (av:List AV) (rs:List Root):Tre au:=
 aB av fun a0_ av0=>
 aB av0 fun a1_ av1=>
 aJ av1<|
 aJ rs<|
 bB aP a0_ fun z2 d1=>
 bB .il a1_ fun z4 d3=>
 .mat (kJ d1 d3) fun r=>.ret (zU z2 z4 d1 d3 r)
def uX:Ctr:=dx [] Ub
theorem Ca:Contract Tryz.prog .none 114 uX:=aC (V:=iX) aR (ak Fq aoD aH) Tryz.func114 (bM (n:=2) fun k hk=>by
 match k,hk with
 |0,_=>exact bP (id:=3) KN
 |1,_=>exact bP (id:=6) KO) fun _ _ _=>aI fun _ _=>aI fun _ _=>aZ<|aZ<|dF fun _ _=>dF fun _ _=>fun h=>by intros;subst_vars;exact aW (QW _ _ _ _) h
def uV (p0:List Int) (p1:(List aA)) (p2:aG):Tre (List aA):=
 .mat (oq p2.1 p0) fun r1=>
 .ite ((p1.length+1)*32≤bQ∧1≤32)<|
 let v2:=p1++([(r1.1,(r1.2,()))])
 .ret v2
def lS (p0:List Int) (p1:(List aA)) (p2:aG):Option (List aA):=(uV p0 p1 p2).run some
def zR:Env:=⟨tau,[(83,yA)],[]⟩
def Pk:FnI:=fnI Tryz.f100 []
def xI (_:Bool) (_:List Int) (_:(List aA)) (p2:aG):(List aA)→au:=fun r=>⟨.tnil,[⟨true,(.sl aK),.own,r⟩,⟨true,aP,(.imm true),p2⟩],[]⟩
theorem MO:∀(zp0:Bool)(p0:List Int)(p1:(List aA))(p2:aG),bH zR Pk ⟨[(.imm zp0 .il p0),(.ptr (0,0) []),(.ptr (0,1) [])],[⟨true,(.sl aK),.own,p1⟩,⟨true,aP,(.imm true),p2⟩]⟩=(uV p0 p1 p2).run fun r=>some (xI zp0 p0 p1 p2 r):=fun _ _ _ _=>by kernel_rfl
def Pj (av:List AV) (rs:List Root):Tre au:=
 aB av fun a0_ av0=>
 aB av0 fun a1_ av1=>
 aB av1 fun a2_ av2=>
 aJ av2<|
 aB rs fun r0_ rs0=>
 aB rs0 fun r1_ rs1=>
 aJ rs1<|
 bB .il a0_ fun z2 d1=>
 dH (0,0) [] a1_<|
 dH (0,1) [] a2_<|
 iL true (.sl aK) r0_ fun m3 d4=>
 asM .own m3<|
 iL true aP r1_ fun m5 d6=>
 asM (.imm true) m5<|
 .mat (lS d1 d4 d6) fun r=>.ret (xI z2 d1 d4 d6 r)
def zS:Ctr:=dx [] Pj
theorem MP:Contract Tryz.prog .none 100 zS:=aC (V:=zR) aR (ak Db atp aH) Tryz.func100 bn fun _ _ _=>aI fun _ _=>aI fun _ _=>aI fun _ _=>aZ<|aI fun _ _=>aI fun _ _=>aZ<|dF fun _ _=>gy<|gy<|tRt fun _ _=>tM<|tRt fun _ _=>tM<|fun h=>by intros;subst_vars;exact aW (MO _ _ _ _) h
def pK (p0:List Int) (p1:aG) (p2:(List aA)) (p3:aG):Tre (List aA):=
 .mat (kJ p1 p0) fun r1=>
 .mat (lS r1 p2 p3) fun r2=>
 .ret r2
def gQ (p0:List Int) (p1:aG) (p2:(List aA)) (p3:aG):Option (List aA):=(pK p0 p1 p2 p3).run some
def vM:Env:=⟨tau,[(114,uX),(100,zS)],[]⟩
def JO:FnI:=fnI Tryz.f179 []
def sK (_:Bool) (_:List Int) (p1:aG) (_:(List aA)) (p3:aG):(List aA)→au:=fun r=>⟨.tnil,[⟨true,.fn,.own,(some (100,[(0,2),(0,3)]):Option (Nat×List ay))⟩,⟨true,aP,(.imm true),p1⟩,⟨true,(.sl aK),.own,r⟩,⟨true,aP,(.imm true),p3⟩],[]⟩
theorem Ho:∀(zp0:Bool)(p0:List Int)(p1:aG)(p2:(List aA))(p3:aG),bH vM JO ⟨[(.imm zp0 .il p0),(.ptr (0,0) []),(.ptr (0,1) [])],[⟨true,.fn,.own,(some (100,[(0,2),(0,3)]):Option (Nat×List ay))⟩,⟨true,aP,(.imm true),p1⟩,⟨true,(.sl aK),.own,p2⟩,⟨true,aP,(.imm true),p3⟩]⟩=(pK p0 p1 p2 p3).run fun r=>some (sK zp0 p0 p1 p2 p3 r):=fun _ _ _ _ _=>by kernel_rfl
def JN (av:List AV) (rs:List Root):Tre au:=
 aB av fun a0_ av0=>
 aB av0 fun a1_ av1=>
 aB av1 fun a2_ av2=>
 aJ av2<|
 aB rs fun r0_ rs0=>
 aB rs0 fun r1_ rs1=>
 aB rs1 fun r2_ rs2=>
 aB rs2 fun r3_ rs3=>
 aJ rs3<|
 bB .il a0_ fun z2 d1=>
 dH (0,0) [] a1_<|
 dH (0,1) [] a2_<|
 iL true .fn r0_ fun m3 d4=>
 asM .own m3<|
 asD d4 (some (100,[(0,2),(0,3)]):Option (Nat×List ay))<|
 iL true aP r1_ fun m5 d6=>
 asM (.imm true) m5<|
 iL true (.sl aK) r2_ fun m7 d8=>
 asM .own m7<|
 iL true aP r3_ fun m9 d10=>
 asM (.imm true) m9<|
 .mat (gQ d1 d6 d8 d10) fun r=>.ret (sK z2 d1 d6 d8 d10 r)
def vN:Ctr:=dx [] JN
theorem Hq:Contract Tryz.prog .none 179 vN:=aC (V:=vM) aR (ak Ca atc (ak MP axC aH)) Tryz.func179 bn fun _ _ _=>aI fun _ _=>aI fun _ _=>aI fun _ _=>aZ<|aI fun _ _=>aI fun _ _=>aI fun _ _=>aI fun _ _=>aZ<|dF fun _ _=>gy<|gy<|tRt fun _ _=>tM<|tD<|tRt fun _ _=>tM<|tRt fun _ _=>tM<|tRt fun _ _=>tM<|fun h=>by intros;subst_vars;exact aW (Ho _ _ _ _ _) h
def I9 (JF:(Int×(Int×Unit))):(Int×(List Int))→Tre ((Int×(List Int)) ⊕ (Int×(List Int))):=fun s4=>
 .cond (decide (s4.1 ≥ 0))
  (.ite (0≤s4.1∧s4.1<(s4.2.length:Int))<|
  .mat (s4.2[s4.1.toNat]?) fun x2=>
  .mat (eU JF) fun r3=>
  .cond (decide (x2=aL .i64 (r3-1)))
   (.ite (0≤s4.1∧s4.1<(s4.2.length:Int))<|
   .mat (s4.2[s4.1.toNat]?) fun _=>
   let v5:=s4.2.set s4.1.toNat 0
   .ret (.inl (aL .i64 (s4.1-1),v5)))
   (.ret (.inr (s4.1,s4.2))))
  (.ret (.inr (s4.1,s4.2)))
def Yo (bC:Int) (bK:aG) (bA:aG) (gN:(Int×(Int×Unit))):((List aA)×(List Int))→Tre (((List aA)×(List Int)) ⊕ (List aA)):=fun s2=>
 .mat (gQ s2.2 bK s2.1 bA) fun r1=>
 .mat (aS (I9 gN) (aL .i64 (bC-1),s2.2)) fun l6=>
 .cond (decide (l6.1<0))
  (.ret (.inr r1))
  (.ite (0≤l6.1∧l6.1<(l6.2.length:Int))<|
  .mat (l6.2[l6.1.toNat]?) fun x7=>
  .ite (0≤l6.1∧l6.1<(l6.2.length:Int))<|
  .mat (l6.2[l6.1.toNat]?) fun _=>
  let v9:=l6.2.set l6.1.toNat (aL .i64 (x7+1))
  .ret (.inl (r1,v9)))
def ayH (p0:(Int×(Int×Unit))) (p1:Int) (p2:aG) (p3:(List aA)) (p4:aG):Tre (List aA):=
 .ite ((.n:K)=.n∧0≤p1∧p1=p1∧p1*(8:Nat)≤140737488355328∧1≤8)<|
 .mat (aS (Yo p1 p2 p4 p0) (p3,List.replicate p1.toNat (0:Int))) fun l10=>
 .ret l10
def akf (p0:(Int×(Int×Unit))) (p1:Int) (p2:aG) (p3:(List aA)) (p4:aG):Option (List aA):=(ayH p0 p1 p2 p3 p4).run some
def aay:Env:=⟨tau,[(179,vN),(154,qp)],[]⟩
def akg:Code:=(Tryz.f121.body).getD .skip
def afJ (aX:Int) (dL:aG) (lu:(List aA)) (jM:aG) (JF:(Int×(Int×Unit))):(Int×(List Int))→St:=fun x=>bT [(1,(.i aX)),(2,(.fn 179 [(0,0),(0,1)])),(3,(.ptr (5,0) [])),(6,(.ref (8,0) [])),(7,(.i x.1))] [((0,0),some ⟨true,.fn,.own,(some (100,[(0,2),(0,3)]):Option (Nat×List ay))⟩),((0,1),some ⟨true,aP,(.imm true),dL⟩),((0,2),some ⟨true,(.sl aK),.own,lu⟩),((0,3),some ⟨true,aP,(.imm true),jM⟩),((5,0),some ⟨true,aM,.own,JF⟩),((8,0),some ⟨false,.il,.own,x.2⟩)]
def abL (aX:Int) (dL:aG) (lu:(List aA)) (jM:aG) (JF:(Int×(Int×Unit))):(Int×(List Int))→Ex×St:=fun x=>(.exit 2,bT [(1,(.i aX)),(2,(.fn 179 [(0,0),(0,1)])),(3,(.ptr (5,0) [])),(6,(.ref (8,0) [])),(7,(.i x.1))] [((0,0),some ⟨true,.fn,.own,(some (100,[(0,2),(0,3)]):Option (Nat×List ay))⟩),((0,1),some ⟨true,aP,(.imm true),dL⟩),((0,2),some ⟨true,(.sl aK),.own,lu⟩),((0,3),some ⟨true,aP,(.imm true),jM⟩),((5,0),some ⟨true,aM,.own,JF⟩),((8,0),some ⟨false,.il,.own,x.2⟩)])
def arT (s:St):Tre (Ex×St):=
 aF true .n (s.tmps 1) fun d2=>
 xY 179 [(0,0),(0,1)] (s.tmps 2)<|
 dH (5,0) [] (s.tmps 3)<|
 fQ (8,0) [] (s.tmps 6)<|
 aF true .n (s.tmps 7) fun d7=>
 bq true .fn (s.roots (0,0)) fun m9 d10=>
 asM .own m9<|
 asD d10 (some (100,[(0,2),(0,3)]):Option (Nat×List ay))<|
 bq true aP (s.roots (0,1)) fun m12 d13=>
 asM (.imm true) m12<|
 bq true (.sl aK) (s.roots (0,2)) fun m15 d16=>
 asM .own m15<|
 bq true aP (s.roots (0,3)) fun m18 d19=>
 asM (.imm true) m18<|
 bq true aM (s.roots (5,0)) fun m21 d22=>
 asM .own m21<|
 bq false .il (s.roots (8,0)) fun m24 d25=>
 asM .own m24<|
 .mat (aS (I9 d22) (d7,d25)) fun x=>.ret (abL d2 d13 d16 d19 d22 x)
def TL:bF:=⟨([1,2,3,6,7],[(0,0),(0,1),(0,2),(0,3),(5,0),(8,0)]),([1,2,3,6,7],[(0,0),(0,1),(0,2),(0,3),(5,0),(8,0)]),arT⟩
def afI (bC:Int) (bK:aG) (bA:aG) (gN:(Int×(Int×Unit))):((List aA)×(List Int))→St:=fun x=>bT [(1,(.i bC)),(2,(.fn 179 [(0,0),(0,1)])),(3,(.ptr (5,0) [])),(6,(.ref (8,0) []))] [((0,0),some ⟨true,.fn,.own,(some (100,[(0,2),(0,3)]):Option (Nat×List ay))⟩),((0,1),some ⟨true,aP,(.imm true),bK⟩),((0,2),some ⟨true,(.sl aK),.own,x.1⟩),((0,3),some ⟨true,aP,(.imm true),bA⟩),((5,0),some ⟨true,aM,.own,gN⟩),((8,0),some ⟨false,.il,.own,x.2⟩)]
def abK (_:Int) (bK:aG) (bA:aG) (_:(Int×(Int×Unit))):(List aA)→Ex×St:=fun x=>(.ret,bT [] [((0,0),some ⟨true,.fn,.own,(some (100,[(0,2),(0,3)]):Option (Nat×List ay))⟩),((0,1),some ⟨true,aP,(.imm true),bK⟩),((0,2),some ⟨true,(.sl aK),.own,x⟩),((0,3),some ⟨true,aP,(.imm true),bA⟩)])
def arS (s:St):Tre (Ex×St):=
 aF true .n (s.tmps 1) fun d2=>
 xY 179 [(0,0),(0,1)] (s.tmps 2)<|
 dH (5,0) [] (s.tmps 3)<|
 fQ (8,0) [] (s.tmps 6)<|
 bq true .fn (s.roots (0,0)) fun m7 d8=>
 asM .own m7<|
 asD d8 (some (100,[(0,2),(0,3)]):Option (Nat×List ay))<|
 bq true aP (s.roots (0,1)) fun m10 d11=>
 asM (.imm true) m10<|
 bq true (.sl aK) (s.roots (0,2)) fun m13 d14=>
 asM .own m13<|
 bq true aP (s.roots (0,3)) fun m16 d17=>
 asM (.imm true) m16<|
 bq true aM (s.roots (5,0)) fun m19 d20=>
 asM .own m19<|
 bq false .il (s.roots (8,0)) fun m22 d23=>
 asM .own m22<|
 .mat (aS (Yo d2 d11 d17 d20) (d14,d23)) fun x=>.ret (abK d2 d11 d17 d20 x)
def TK:bF:=⟨([1,2,3,6],[(0,0),(0,1),(0,2),(0,3),(5,0),(8,0)]),([],[(0,0),(0,1),(0,2),(0,3)]),arS⟩
def afH:List (Nat×bF):=[(4,TL),(2,TK)]
theorem aki:∀(aX:Int)(dL:aG)(lu:(List aA))(jM:aG)(JF:(Int×(Int×Unit)))(x:(Int×(List Int)))(c:St→Option (Ex×St)),den aay afH (aV akg 1) (afJ aX dL lu jM JF x) (bZ TL.kp TL.kx c)=(I9 JF x).run (cu (afJ aX dL lu jM JF) (abL aX dL lu jM JF) c):=fun _ _ _ _ _ _ _=>by
 kernel_rfl
theorem aph:bU aay afH (aV akg 1) TL:=dB fun _ _ _=>aO fun _=>tFn<|gy<|nR<|aO fun _=>cO fun _ _=>tM<|tD<|cO fun _ _=>tM<|cO fun _ _=>tM<|cO fun _ _=>tM<|cO fun _ _=>tM<|cO fun _ _=>tM<|fun h _ e23 _ e20 _ e17 _ e14 _ e11 _ _ e8 e6 e5 e4 e3 e1=>cK (aki _ _ _ _ _) h (by subst_vars;exact aT rfl rfl ⟨e1,e3,e4,e5,e6,trivial⟩ ⟨e8,e11,e14,e17,e20,e23,trivial⟩)
theorem akh:∀(bC:Int)(bK bA:aG)(gN:(Int×(Int×Unit)))(x:((List aA)×(List Int)))(c:St→Option (Ex×St)),den aay afH (aV akg 0) (afI bC bK bA gN x) (bZ TK.kp TK.kx c)=(Yo bC bK bA gN x).run (cu (afI bC bK bA gN) (abK bC bK bA gN) c):=fun _ _ _ _ _ _=>by
 kernel_rfl
theorem apg:bU aay afH (aV akg 0) TK:=dB fun _ _ _=>aO fun _=>tFn<|gy<|nR<|cO fun _ _=>tM<|tD<|cO fun _ _=>tM<|cO fun _ _=>tM<|cO fun _ _=>tM<|cO fun _ _=>tM<|cO fun _ _=>tM<|fun h _ e21 _ e18 _ e15 _ e12 _ e9 _ _ e6 e5 e4 e3 e1=>cK (akh _ _ _ _) h (by subst_vars;exact aT rfl rfl ⟨e1,e3,e4,e5,trivial⟩ ⟨e6,e9,e12,e15,e18,e21,trivial⟩)
def ayJ:FnI:=fnI Tryz.f121 afH
def amB (_:(Int×(Int×Unit))) (_:Int) (p2:aG) (_:(List aA)) (p4:aG):(List aA)→au:=fun r=>⟨.tnil,[⟨true,.fn,.own,(some (100,[(0,2),(0,3)]):Option (Nat×List ay))⟩,⟨true,aP,(.imm true),p2⟩,⟨true,(.sl aK),.own,r⟩,⟨true,aP,(.imm true),p4⟩],[]⟩
theorem avV:∀(p0:(Int×(Int×Unit)))(p1:Int)(p2:aG)(p3:(List aA))(p4:aG),bH aay ayJ ⟨[(.imm true aM p0),(.i p1),(.fn 179 [(0,0),(0,1)])],[⟨true,.fn,.own,(some (100,[(0,2),(0,3)]):Option (Nat×List ay))⟩,⟨true,aP,(.imm true),p2⟩,⟨true,(.sl aK),.own,p3⟩,⟨true,aP,(.imm true),p4⟩]⟩=(ayH p0 p1 p2 p3 p4).run fun r=>some (amB p0 p1 p2 p3 p4 r):=fun _ _ _ _ _=>by kernel_rfl
def ayI (av:List AV) (rs:List Root):Tre au:=
 aB av fun a0_ av0=>
 aB av0 fun a1_ av1=>
 aB av1 fun a2_ av2=>
 aJ av2<|
 aB rs fun r0_ rs0=>
 aB rs0 fun r1_ rs1=>
 aB rs1 fun r2_ rs2=>
 aB rs2 fun r3_ rs3=>
 aJ rs3<|
 aF true aM a0_ fun d1=>
 aF true .n a1_ fun d2=>
 xY 179 [(0,0),(0,1)] a2_<|
 iL true .fn r0_ fun m3 d4=>
 asM .own m3<|
 asD d4 (some (100,[(0,2),(0,3)]):Option (Nat×List ay))<|
 iL true aP r1_ fun m5 d6=>
 asM (.imm true) m5<|
 iL true (.sl aK) r2_ fun m7 d8=>
 asM .own m7<|
 iL true aP r3_ fun m9 d10=>
 asM (.imm true) m9<|
 .mat (akf d1 d2 d6 d8 d10) fun r=>.ret (amB d1 d2 d6 d8 d10 r)
def at5:Ctr:=dx [] ayI
theorem avW:Contract Tryz.prog .none 121 at5:=aC (V:=aay) aR (ak Hq atj (ak ug ajz aH)) Tryz.func121 (bM (n:=2) fun k hk=>by
 match k,hk with
 |0,_=>exact bP (id:=2) apg
 |1,_=>exact bP (id:=4) aph) fun _ _ _=>aI fun _ _=>aI fun _ _=>aI fun _ _=>aZ<|aI fun _ _=>aI fun _ _=>aI fun _ _=>aI fun _ _=>aZ<|aO fun _=>aO fun _=>tFn<|tRt fun _ _=>tM<|tD<|tRt fun _ _=>tM<|tRt fun _ _=>tM<|tRt fun _ _=>tM<|fun h=>by intros;subst_vars;exact aW (avV _ _ _ _ _) h
def ayK (p0:aG) (p1:(List aA)) (p2:aG):Tre (List aA):=
 .mat (akf p0.1 (p0.2.2.1.length:Int) p0 p1 p2) fun r1=>
 .ret r1
def akj (p0:aG) (p1:(List aA)) (p2:aG):Option (List aA):=(ayK p0 p1 p2).run some
def at6:Env:=⟨tau,[(121,at5)],[]⟩
def ayM:FnI:=fnI Tryz.f99 []
def amC (_:aG) (_:(List aA)) (p2:aG):(List aA)→au:=fun r=>⟨.tnil,[⟨true,(.sl aK),.own,r⟩,⟨true,aP,(.imm true),p2⟩],[]⟩
theorem avX:∀(p0:aG)(p1:(List aA))(p2:aG),bH at6 ayM ⟨[(.imm true aP p0),(.fn 100 [(0,0),(0,1)])],[⟨true,(.sl aK),.own,p1⟩,⟨true,aP,(.imm true),p2⟩]⟩=(ayK p0 p1 p2).run fun r=>some (amC p0 p1 p2 r):=fun _ _ _=>by kernel_rfl
def ayL (av:List AV) (rs:List Root):Tre au:=
 aB av fun a0_ av0=>
 aB av0 fun a1_ av1=>
 aJ av1<|
 aB rs fun r0_ rs0=>
 aB rs0 fun r1_ rs1=>
 aJ rs1<|
 aF true aP a0_ fun d1=>
 xY 100 [(0,0),(0,1)] a1_<|
 iL true (.sl aK) r0_ fun m2 d3=>
 asM .own m2<|
 iL true aP r1_ fun m4 d5=>
 asM (.imm true) m4<|
 .mat (akj d1 d3 d5) fun r=>.ret (amC d1 d3 d5 r)
def at7:Ctr:=dx [] ayL
theorem avY:Contract Tryz.prog .none 99 at7:=aC (V:=at6) aR (ak avW atd aH) Tryz.func99 bn fun _ _ _=>aI fun _ _=>aI fun _ _=>aZ<|aI fun _ _=>aI fun _ _=>aZ<|aO fun _=>tFn<|tRt fun _ _=>tM<|tRt fun _ _=>tM<|fun h=>by intros;subst_vars;exact aW (avX _ _ _) h
end Go.Proofs.YtmilokkchghpjaaGreat
