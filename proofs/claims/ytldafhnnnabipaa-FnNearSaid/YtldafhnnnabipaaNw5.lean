/- Part 5 of the proof of FnNear. -/
import Derived.Test.YtldafhnnnabipaaNw4
set_option maxRecDepth 100000
noncomputable section
namespace Go.Proofs.Ytldafhnnnabipaa
open Go Go.Abs Go.Proofs
def sV (aX:List Int) (cB:List Int):Int→Tre (Int ⊕ (Bool ⊕ Unit)):=fun s4=>
 .cond (decide (s4<(aX.length:Int)))
  (.ite (0≤s4∧s4<(aX.length:Int))<|
  .mat (aX[s4.toNat]?) fun x1=>
  .ite (0≤s4∧s4<(cB.length:Int))<|
  .mat (cB[s4.toNat]?) fun x2=>
  .cond (!decide (x1=x2))
   (.ret (.inr (.inl false)))
   (.ret (.inl (aN .i64 (s4+1)))))
  (.ret (.inr (.inr ())))
def Y9 (p0:List Int) (p1:List Int):Tre Bool:=
 .cond (!decide ((p0.length:Int)=(p1.length:Int)))
  (.ret false)
  (.mat (aP (sV p0 p1) 0) fun l3=>
  .alt l3
   (fun a4=>
    .ret a4)
   (fun _=>
    .ret true))
def aap (p0:List Int) (p1:List Int):Option Bool:=(Y9 p0 p1).run some
def QD(a b:List Int):Option Bool:=agF (decide (a.length≤1048576)&&decide (b.length≤1048576)) (decide (a=b))
def sameAt(b:List Int)(i:Nat)(x:Int):Option (Bool ⊕ Unit):=match b[i]? with
 |some y=>cond (decide (x=y)) none (some (.inl false))
 |none=>none
theorem acf(b:List Int):∀(l:List Int)(i:Nat),l.length=(b.drop i).length→Oy (β:=Bool ⊕ Unit) (sameAt b) (.inr ()) i l=cond (decide (l=b.drop i)) (.inr ()) (.inl false):=by
 intro l
 induction l with
 |nil=>
  intro i h
  have:b.drop i=[]:=List.eq_nil_of_length_eq_zero h.symm
  rw [this];rfl
 |cons x l ih=>
  intro i h
  have hi:i<b.length:=by rw [List.length_drop,List.length_cons] at h;omega
  have hd:b.drop i=b[i]::b.drop (i+1):=List.drop_eq_getElem_cons hi
  have hlen:l.length=(b.drop (i+1)).length:=by rw [hd,List.length_cons,List.length_cons] at h;omega
  have hih:=ih (i+1) hlen
  simp only [Oy,sameAt]
  rw [List.getElem?_eq_getElem hi]
  simp only
  by_cases hx:x=b[i]
  ·rw [decide_eq_true hx,cond_true,hih]
   by_cases hl:l=b.drop (i+1)
   ·rw [decide_eq_true hl,decide_eq_true (show x::l=b.drop i by rw [hd,hx,hl])]
   ·rw [decide_eq_false hl,decide_eq_false (fun h2=>hl (by rw [hd] at h2;exact (List.cons.inj h2).2))]
  ·rw [decide_eq_false hx,cond_false,decide_eq_false (fun h2=>hx (by rw [hd] at h2;exact (List.cons.inj h2).1))]
   rfl
theorem adT(p0 p1:List Int)(y:Bool)(h:QD p0 p1=some y):aap p0 p1=some y:=by
 obtain ⟨hok,rfl⟩:=wP h
 simp only [Bool.and_eq_true,decide_eq_true_eq] at hok
 unfold aap Y9
 rw [Tre.aF]
 by_cases hl:p0.length=p1.length
 ·rw [decide_eq_true (show (p0.length:Int)=(p1.length:Int) by omega),Bool.not_true,cond_false,Tre.qE,Jz (xs:=p0) (sameAt p1) (.inr ()),acf p1 p0 0 (by simpa using hl)]
  ·rw [List.drop_zero]
   cases decide (p0=p1)<;>rfl
  ·intro i x hx
   have hi:i<p0.length:=(List.getElem?_eq_some_iff.1 hx).1
   have hy:p1[i]?=some p1[i]:=List.getElem?_eq_getElem (by omega)
   unfold sV
   unfold sameAt
   rw [fq hx,eG hy,Tre.aF,hy]
   dsimp only
   cases decide (x=p1[i])
   ·rfl
   ·simp only [Bool.not_true,cond_true,cond_false,Tre.aK,aV (show i<4611686018427387904 by omega)]
  ·unfold sV
   exact dY
 ·rw [decide_eq_false (show ¬(p0.length:Int)=(p1.length:Int) by omega),Bool.not_false,cond_true,Tre.aK,decide_eq_false (fun h=>hl (by rw [h]))]
def Ii:Env:=⟨tau,[],[]⟩
def aaq:Code:=(Try.f100.body).getD .skip
def CV (nS:Bool) (sD:Bool) (aX:List Int) (cB:List Int):Int→St:=fun x=>bR [(0,(.imm nS .il aX)),(1,(.imm sD .il cB)),(5,(.i x))] []
def sW (_:Bool) (_:Bool) (_:List Int) (_:List Int):(Bool ⊕ Unit)→Ex×St
 |.inl x=>(.ret,bR [(4,(.imm true .bool x))] [])
 |.inr _=>(.exit 0,bR [(4,.dead)] [])
def PV (s:St):Tre (Ex×St):=
 bE .il (s.tmps 0) fun z3 d2=>
 bE .il (s.tmps 1) fun z6 d5=>
 aC true .n (s.tmps 5) fun d8=>
 .mat (aP (sV d2 d5) d8) fun x=>.alt x (fun a0=>.ret (sW z3 z6 d2 d5 (.inl a0))) (fun b0=>.ret (sW z3 z6 d2 d5 (.inr b0)))
def rO:bB:=⟨([0,1,5],[]),([4],[]),PV⟩
def PU:List (Nat×bB):=[(4,rO)]
theorem Xa:∀(nS sD:Bool)(aX cB:List Int)(x:Int)(c:St→Option (Ex×St)),den Ii PU (aU aaq 0) (CV nS sD aX cB x) (bY rO.kp rO.kx c)=(sV aX cB x).run (bZ (CV nS sD aX cB) (sW nS sD aX cB) c):=fun _ _ _ _ _ _=>by
 kernel_rfl
theorem abd:bP Ii PU (aU aaq 0) rO:=gF fun s e s' h=>by
 generalize hs:restrict rO.kp s=s1 at h
 have h:(PV s1).run some=some (e,s'):=h
 obtain ⟨z3,d2,e1,h_0⟩:=dO h
 obtain ⟨z6,d5,e4,h_1⟩:=dO h_0
 obtain ⟨d8,e7,h_2⟩:=bQ h_1
 obtain ⟨y,hy,hz⟩:=jd h_2
 refine ⟨_,_,CV z3 z6 d2 d5,sW z3 z6 d2 d5,sV d2 d5,d8,y,?_,hy,?_,Xa z3 z6 d2 d5⟩
 ·subst hs;exact aR (T:=[(0,(.imm z3 .il d2)),(1,(.imm z6 .il d5)),(5,(.i d8))]) (U:=[]) rfl rfl ⟨e1,e4,e7,trivial⟩ trivial
 ·rcases y with x|x<;>exact Option.some.inj hz
def akm:FnI:=fnI Try.f100 PU
def Tf (_:Bool) (_:Bool) (_:List Int) (_:List Int):Bool→aA:=fun r=>⟨(.imm true .bool r),[],[]⟩
theorem ahV:∀(zp0 zp1:Bool)(p0 p1:List Int),bI Ii akm ⟨[(.imm zp0 .il p0),(.imm zp1 .il p1)],[]⟩=(Y9 p0 p1).run fun r=>some (Tf zp0 zp1 p0 p1 r):=fun _ _ _ _=>by kernel_rfl
def akl (av:List AV) (rs:List Root):Tre aA:=
 aB av fun a0_ av0=>
 aB av0 fun a1_ av1=>
 aL av1<|
 aL rs<|
 bE .il a0_ fun z2 d1=>
 bE .il a1_ fun z4 d3=>
 .mat (QD d1 d3) fun r=>.ret (Tf z2 z4 d1 d3 r)
def aar:Ctr:=dD [] akl
theorem ahW:Contract Try.prog .none 100 aar:=aD (V:=Ii) aT aI Try.func100 (bJ (n:=1) fun k hk=>by
 match k,hk with
 |0,_=>exact bM (id:=4) abd) fun _ _ _=>aH fun _ _=>aH fun _ _=>bn<|bn<|dI fun _ _=>dI fun _ _=>fun h=>by intros;subst_vars;exact Am (ahV _ _ _ _) (adT _ _) h
def gG (aX:List Int) (cB:List Int) (eO:Int):Int→Tre (Int ⊕ (Bool ⊕ Unit)):=fun s4=>
 .cond (decide (s4<eO))
  (.ite (0≤s4∧s4<(aX.length:Int))<|
  .mat (aX[s4.toNat]?) fun x1=>
  .ite (0≤s4∧s4<(cB.length:Int))<|
  .mat (cB[s4.toNat]?) fun x2=>
  .cond (!decide (x1=x2))
   (.ret (.inr (.inl false)))
   (.ret (.inl (aN .i64 (s4+1)))))
  (.ret (.inr (.inr ())))
def wM (p0:List Int) (p1:List Int):Tre Bool:=
 .cond (!decide ((p0.length:Int)=(p1.length:Int)))
  (.ret false)
  (.mat (aP (gG p0 p1 (p0.length:Int)) 0) fun l3=>
  .alt l3
   (fun a4=>
    .ret a4)
   (fun _=>
    .ret true))
def Cv (p0:List Int) (p1:List Int):Option Bool:=(wM p0 p1).run some
theorem KH(p0 p1:List Int)(y:Bool)(h:QD p0 p1=some y):Cv p0 p1=some y:=by
 obtain ⟨hok,rfl⟩:=wP h
 simp only [Bool.and_eq_true,decide_eq_true_eq] at hok
 unfold Cv wM
 rw [Tre.aF]
 by_cases hl:p0.length=p1.length
 ·rw [decide_eq_true (show (p0.length:Int)=(p1.length:Int) by omega),Bool.not_true,cond_false,Tre.qE,Jz (xs:=p0) (sameAt p1) (.inr ()),acf p1 p0 0 (by simpa using hl)]
  ·rw [List.drop_zero]
   cases decide (p0=p1)<;>rfl
  ·intro i x hx
   have hi:i<p0.length:=(List.getElem?_eq_some_iff.1 hx).1
   have hy:p1[i]?=some p1[i]:=List.getElem?_eq_getElem (by omega)
   unfold gG
   unfold sameAt
   rw [fq hx,eG hy,Tre.aF,hy]
   dsimp only
   cases decide (x=p1[i])
   ·rfl
   ·simp only [Bool.not_true,cond_true,cond_false,Tre.aK,aV (show i<4611686018427387904 by omega)]
  ·unfold gG
   exact dY
 ·rw [decide_eq_false (show ¬(p0.length:Int)=(p1.length:Int) by omega),Bool.not_false,cond_true,Tre.aK,decide_eq_false (fun h=>hl (by rw [h]))]
def mG:Env:=⟨tau,[],[]⟩
def Cw:Code:=(Try.f114.body).getD .skip
def mU (nS:Bool) (sD:Bool) (aX:List Int) (cB:List Int) (eO:Int):Int→St:=fun x=>bR [(0,(.imm nS .il aX)),(1,(.imm sD .il cB)),(12,(.i eO)),(13,(.i x))] []
def iY (_:Bool) (_:Bool) (_:List Int) (_:List Int) (_:Int):(Bool ⊕ Unit)→Ex×St
 |.inl x=>(.ret,bR [(4,(.imm true .bool x))] [])
 |.inr _=>(.exit 0,bR [(4,.dead)] [])
def xI (s:St):Tre (Ex×St):=
 bE .il (s.tmps 0) fun z3 d2=>
 bE .il (s.tmps 1) fun z6 d5=>
 aC true .n (s.tmps 12) fun d8=>
 aC true .n (s.tmps 13) fun d10=>
 .mat (aP (gG d2 d5 d8) d10) fun x=>.alt x (fun a0=>.ret (iY z3 z6 d2 d5 d8 (.inl a0))) (fun b0=>.ret (iY z3 z6 d2 d5 d8 (.inr b0)))
def iA:bB:=⟨([0,1,12,13],[]),([4],[]),xI⟩
def rX:List (Nat×bB):=[(4,iA)]
theorem F7:∀(nS sD:Bool)(aX cB:List Int)(eO x:Int)(c:St→Option (Ex×St)),den mG rX (aU Cw 0) (mU nS sD aX cB eO x) (bY iA.kp iA.kx c)=(gG aX cB eO x).run (bZ (mU nS sD aX cB eO) (iY nS sD aX cB eO) c):=fun _ _ _ _ _ _ _=>by
 kernel_rfl
theorem Ju:bP mG rX (aU Cw 0) iA:=gF fun s e s' h=>by
 generalize hs:restrict iA.kp s=s1 at h
 have h:(xI s1).run some=some (e,s'):=h
 obtain ⟨z3,d2,e1,h_0⟩:=dO h
 obtain ⟨z6,d5,e4,h_1⟩:=dO h_0
 obtain ⟨d8,e7,h_2⟩:=bQ h_1
 obtain ⟨d10,e9,h_3⟩:=bQ h_2
 obtain ⟨y,hy,hz⟩:=jd h_3
 refine ⟨_,_,mU z3 z6 d2 d5 d8,iY z3 z6 d2 d5 d8,gG d2 d5 d8,d10,y,?_,hy,?_,F7 z3 z6 d2 d5 d8⟩
 ·subst hs;exact aR (T:=[(0,(.imm z3 .il d2)),(1,(.imm z6 .il d5)),(12,(.i d8)),(13,(.i d10))]) (U:=[]) rfl rfl ⟨e1,e4,e7,e9,trivial⟩ trivial
 ·rcases y with x|x<;>exact Option.some.inj hz
def QG:FnI:=fnI Try.f114 rX
def yY (_:Bool) (_:Bool) (_:List Int) (_:List Int):Bool→aA:=fun r=>⟨(.imm true .bool r),[],[]⟩
theorem Oh:∀(zp0 zp1:Bool)(p0 p1:List Int),bI mG QG ⟨[(.imm zp0 .il p0),(.imm zp1 .il p1)],[]⟩=(wM p0 p1).run fun r=>some (yY zp0 zp1 p0 p1 r):=fun _ _ _ _=>by kernel_rfl
def QF (av:List AV) (rs:List Root):Tre aA:=
 aB av fun a0_ av0=>
 aB av0 fun a1_ av1=>
 aL av1<|
 aL rs<|
 bE .il a0_ fun z2 d1=>
 bE .il a1_ fun z4 d3=>
 .mat (QD d1 d3) fun r=>.ret (yY z2 z4 d1 d3 r)
def rY:Ctr:=dD [] QF
theorem zF:Contract Try.prog .none 114 rY:=aD (V:=mG) aT aI Try.func114 (bJ (n:=1) fun k hk=>by
 match k,hk with
 |0,_=>exact bM (id:=4) Ju) fun _ _ _=>aH fun _ _=>aH fun _ _=>bn<|bn<|dI fun _ _=>dI fun _ _=>fun h=>by intros;subst_vars;exact Am (Oh _ _ _ _) (KH _ _) h
def UM (aX:(List (List Int))) (cB:(List (List Int))) (eO:Int):Int→Tre (Int ⊕ (Bool ⊕ Unit)):=fun s4=>
 .cond (decide (s4<eO))
  (.ite (0≤s4∧s4<(cB.length:Int))<|
  .mat (cB[s4.toNat]?) fun x1=>
  .ite (0≤s4∧s4<(aX.length:Int))<|
  .mat (aX[s4.toNat]?) fun x2=>
  .mat (QD x1 x2) fun r3=>
  .cond (!r3)
   (.ret (.inr (.inl false)))
   (.ret (.inl (aN .i64 (s4+1)))))
  (.ret (.inr (.inr ())))
def nm3 (p0:(List (List Int))) (p1:(List (List Int))):Tre Bool:=
 .cond (!decide ((p0.length:Int)=(p1.length:Int)))
  (.ret false)
  (.mat (aP (UM p1 p0 (p0.length:Int)) 0) fun l4=>
  .alt l4
   (fun a5=>
    .ret a5)
   (fun _=>
    .ret true))
def ane (p0:(List (List Int))) (p1:(List (List Int))):Option Bool:=(nm3 p0 p1).run some
def anf:Env:=⟨tau,[(114,rY)],[]⟩
def att:Code:=(Try.f196.body).getD .skip
def YS (nS:Bool) (sD:Bool) (aX:(List (List Int))) (cB:(List (List Int))) (eO:Int):Int→St:=fun x=>bR [(1,(.imm nS (.sl .il) aX)),(2,(.fn 114 [])),(15,(.imm sD (.sl .il) cB)),(16,(.i eO)),(17,(.i x))] []
def LV (_:Bool) (_:Bool) (_:(List (List Int))) (_:(List (List Int))) (_:Int):(Bool ⊕ Unit)→Ex×St
 |.inl x=>(.ret,bR [(6,(.imm true .bool x))] [])
 |.inr _=>(.exit 0,bR [(6,.dead)] [])
def ajN (s:St):Tre (Ex×St):=
 bE (.sl .il) (s.tmps 1) fun z3 d2=>
 vW 114 [] (s.tmps 2)<|
 bE (.sl .il) (s.tmps 15) fun z7 d6=>
 aC true .n (s.tmps 16) fun d9=>
 aC true .n (s.tmps 17) fun d11=>
 .mat (aP (UM d2 d6 d9) d11) fun x=>.alt x (fun a0=>.ret (LV z3 z7 d2 d6 d9 (.inl a0))) (fun b0=>.ret (LV z3 z7 d2 d6 d9 (.inr b0)))
def Pm:bB:=⟨([1,2,15,16,17],[]),([6],[]),ajN⟩
def aqy:List (Nat×bB):=[(4,Pm)]
theorem ajO:∀(nS sD:Bool)(aX cB:(List (List Int)))(eO x:Int)(c:St→Option (Ex×St)),den anf aqy (aU att 0) (YS nS sD aX cB eO x) (bY Pm.kp Pm.kx c)=(UM aX cB eO x).run (bZ (YS nS sD aX cB eO) (LV nS sD aX cB eO) c):=fun _ _ _ _ _ _ _=>by
 kernel_rfl
theorem aoy:bP anf aqy (aU att 0) Pm:=gF fun s e s' h=>by
 generalize hs:restrict Pm.kp s=s1 at h
 have h:(ajN s1).run some=some (e,s'):=h
 obtain ⟨z3,d2,e1,h_0⟩:=dO h
 obtain ⟨e4,h_1⟩:=wO h_0
 obtain ⟨z7,d6,e5,h_2⟩:=dO h_1
 obtain ⟨d9,e8,h_3⟩:=bQ h_2
 obtain ⟨d11,e10,h_4⟩:=bQ h_3
 obtain ⟨y,hy,hz⟩:=jd h_4
 refine ⟨_,_,YS z3 z7 d2 d6 d9,LV z3 z7 d2 d6 d9,UM d2 d6 d9,d11,y,?_,hy,?_,ajO z3 z7 d2 d6 d9⟩
 ·subst hs;exact aR (T:=[(1,(.imm z3 (.sl .il) d2)),(2,(.fn 114 [])),(15,(.imm z7 (.sl .il) d6)),(16,(.i d9)),(17,(.i d11))]) (U:=[]) rfl rfl ⟨e1,e4,e5,e8,e10,trivial⟩ trivial
 ·rcases y with x|x<;>exact Option.some.inj hz
def awr:FnI:=fnI Try.f196 aqy
def ang (_:Bool) (_:Bool) (_:(List (List Int))) (_:(List (List Int))):Bool→aA:=fun r=>⟨(.imm true .bool r),[],[]⟩
theorem avh:∀(zp0 zp1:Bool)(p0 p1:(List (List Int))),bI anf awr ⟨[(.imm zp0 (.sl .il) p0),(.imm zp1 (.sl .il) p1),(.fn 114 [])],[]⟩=(nm3 p0 p1).run fun r=>some (ang zp0 zp1 p0 p1 r):=fun _ _ _ _=>by kernel_rfl
def awq (av:List AV) (rs:List Root):Tre aA:=
 aB av fun a0_ av0=>
 aB av0 fun a1_ av1=>
 aB av1 fun a2_ av2=>
 aL av2<|
 aL rs<|
 bE (.sl .il) a0_ fun z2 d1=>
 bE (.sl .il) a1_ fun z4 d3=>
 vW 114 [] a2_<|
 .mat (ane d1 d3) fun r=>.ret (ang z2 z4 d1 d3 r)
def atu:Ctr:=dD [] awq
theorem avi:Contract Try.prog .none 196 atu:=aD (V:=anf) aT (ak zF apM aI) Try.func196 (bJ (n:=1) fun k hk=>by
 match k,hk with
 |0,_=>exact bM (id:=4) aoy) fun _ _ _=>aH fun _ _=>aH fun _ _=>aH fun _ _=>bn<|bn<|dI fun _ _=>dI fun _ _=>tFn<|fun h=>by intros;subst_vars;exact bg (avh _ _ _ _) h
def Uy (p0:(List (List Int))) (p1:(List (List Int))):Tre Bool:=
 .mat (ane p0 p1) fun r1=>
 .ret r1
def DX (p0:(List (List Int))) (p1:(List (List Int))):Option Bool:=(Uy p0 p1).run some
def V4:Env:=⟨tau,[(196,atu)],[]⟩
def ag8:FnI:=fnI Try.f139 []
def Pb (_:Bool) (_:Bool) (_:(List (List Int))) (_:(List (List Int))):Bool→aA:=fun r=>⟨(.imm true .bool r),[],[]⟩
theorem ae8:∀(zp0 zp1:Bool)(p0 p1:(List (List Int))),bI V4 ag8 ⟨[(.imm zp0 (.sl .il) p0),(.imm zp1 (.sl .il) p1)],[]⟩=(Uy p0 p1).run fun r=>some (Pb zp0 zp1 p0 p1 r):=fun _ _ _ _=>by kernel_rfl
def ag7 (av:List AV) (rs:List Root):Tre aA:=
 aB av fun a0_ av0=>
 aB av0 fun a1_ av1=>
 aL av1<|
 aL rs<|
 bE (.sl .il) a0_ fun z2 d1=>
 bE (.sl .il) a1_ fun z4 d3=>
 .mat (DX d1 d3) fun r=>.ret (Pb z2 z4 d1 d3 r)
def V5:Ctr:=dD [] ag7
theorem ae9:Contract Try.prog .none 139 V5:=aD (V:=V4) aT (ak avi auD aI) Try.func139 bF fun _ _ _=>aH fun _ _=>aH fun _ _=>bn<|bn<|dI fun _ _=>dI fun _ _=>fun h=>by intros;subst_vars;exact bg (ae8 _ _ _ _) h
def OY (p0:au):Tre Bool:=
 .mat (ow p0.1 p0.2.1 p0.2.2.1) fun r1=>
 .cond (decide (r1=0))
  (.mat (nE p0.1 p0.2.1 p0.2.2.1) fun r2=>
  .mat (DX r2 p0.2.2.1) fun r3=>
  .ret r3)
  (.ret false)
def uZ (p0:au):Option Bool:=(OY p0).run some
-- more
theorem ael{l:List Int}(h:l.length≤1048576):QD l l=some true:=by
 unfold QD
 rw [wQ (by simp only [Bool.and_eq_true,decide_eq_true_eq];exact ⟨h,h⟩),decide_eq_true rfl]
theorem ahf{c:TRC}{n:Nat}{p:List Nat}(h:jJ c n p):ow c.1 c.2.1 c.2.2.1=some 0:=by
 have h1:=h.h1
 have h5:=h.h5
 have h10:=h.r10
 have hc:∀r∈c.2.2.1,iW r c.2.1 c.1=some false:=by
  intro r hr
  have hg:=h.rre.gr r hr
  unfold iW nG
  rw [Tre.aF,decide_eq_true (show (r.length:Int)=c.2.1 by rw [hg.1,h.len]),Bool.not_true,cond_false,ah (Ej h.hf r (by rw [hg.1];omega)),Tre.aK,ab8 h.hf hg.2]
  rfl
 have h2:am9 c.2.2.1 c.2.1 c.1=some (-1):=by
  unfold am9 nm2
  rw [ah (show aP (UL c.2.2.1 (c.2.2.1.length:Int) c.2.1 c.1) 0=some (.inr ()) from ?_)]
  ·rfl
  refine eX (fun i=>(i:Int)) c.2.2.1.length _ (fun i hi=>?_) ?_
  ·have hx:=List.getElem?_eq_getElem hi
   unfold UL
   rw [fq hx,ah (hc _ (List.mem_of_getElem? hx)),Tre.aF,cond_false,Tre.aK,aV (by omega)]
  ·unfold UL
   exact dY
 have h4:am5 c.2.2.1 c.2.1 c.1=some false:=by
  unfold am5 nm0
  rw [ah h2,Tre.aK]
  rfl
 unfold ow zM
 rw [ah (MX c.1),h.hf,Tre.aF,Bool.not_true,cond_false,Tre.aF,sM.2 (by rw [h.len];omega),Bool.not_true,cond_false,Tre.aF,decide_eq_false (by omega),cond_false,ah h4,Tre.aF]
 rfl
theorem acT{L:List (List Int)}(hl:L.length≤1000000)(h:∀r∈L,r.length≤1000000):DX L L=some true:=by
 have h1:ane L L=some true:=by
  unfold ane nm3
  rw [Tre.aF,decide_eq_true rfl,Bool.not_true,cond_false,ah (show aP (UM L L (L.length:Int)) 0=some (.inr ()) from ?_)]
  ·rfl
  refine eX (fun i=>(i:Int)) L.length _ (fun i hi=>?_) ?_
  ·have hx:=List.getElem?_eq_getElem hi
   unfold UM
   rw [fq hx,eG hx,ah (ael (by have:=h _ (List.mem_of_getElem? hx);omega)),Tre.aF,Bool.not_true,cond_false,Tre.aK,aV (by omega)]
  ·unfold UM
   exact dY
 unfold DX Uy
 rw [ah h1,Tre.aK]
theorem SK{c:TRC}{n:Nat}{p:List Nat}(h:jJ c n p):uZ c=some true:=by
 have h5:=h.h5
 have h10:=h.r10
 have hr:nE c.1 c.2.1 c.2.2.1=some c.2.2.1:=by
  rw [h.len,ar9 h.hf (by omega) h.rre.gr (by omega),h.rre.idem h.hf]
 unfold uZ OY
 rw [ah (ahf h),Tre.aF,decide_eq_true rfl,cond_true,ah hr,ah (acT (by omega) fun r hr=>by have:=(h.rre.gr r hr).1;omega),Tre.aK]
def SE:Env:=⟨tau,[(138,Es),(140,JC),(139,V5)],[]⟩
def ae4:FnI:=fnI Try.f73 []
def MW (_:Bool) (_:au):Bool→aA:=fun r=>⟨(.imm true .bool r),[],[]⟩
theorem acw:∀(zp0:Bool)(p0:au),bI SE ae4 ⟨[(.imm zp0 aG p0)],[]⟩=(OY p0).run fun r=>some (MW zp0 p0 r):=fun _ _=>by kernel_rfl
def ae3 (av:List AV) (rs:List Root):Tre aA:=
 aB av fun a0_ av0=>
 aL av0<|
 aL rs<|
 bE aG a0_ fun z2 d1=>
 .mat (uZ d1) fun r=>.ret (MW z2 d1 r)
def I8:Ctr:=dD [] ae3
theorem OZ:Contract Try.prog .none 73 I8:=aD (V:=SE) aT (ak Rx auj (ak VL aul (ak ae9 auk aI))) Try.func73 bF fun _ _ _=>aH fun _ _=>bn<|bn<|dI fun _ _=>fun h=>by intros;subst_vars;exact bg (acw _ _) h
def qh (p0:au) (p1:List Int):Tre Int:=
 .mat (uZ p0) fun r1=>
 .cond (!r1)
  (.ret 1)
  (.cond (!decide ((p1.length:Int)=p0.2.1))
   (.ret 2)
   (.mat (pX p0.1 p1) fun r2=>
   .cond (!r2)
    (.ret 2)
    (.ret 0)))
def iq (p0:au) (p1:List Int):Option Int:=(qh p0 p1).run some
def xg:Env:=⟨tau,[(73,I8),(163,ru),(98,AA)],[]⟩
def JW:FnI:=fnI Try.f103 []
def uh (_:Bool) (_:Bool) (_:au) (_:List Int):Int→aA:=fun r=>⟨(.i r),[],[]⟩
theorem I6:∀(zp0 zp1:Bool)(p0:au)(p1:List Int),bI xg JW ⟨[(.imm zp0 aG p0),(.imm zp1 .il p1)],[]⟩=(qh p0 p1).run fun r=>some (uh zp0 zp1 p0 p1 r):=fun _ _ _ _=>by kernel_rfl
def JV (av:List AV) (rs:List Root):Tre aA:=
 aB av fun a0_ av0=>
 aB av0 fun a1_ av1=>
 aL av1<|
 aL rs<|
 bE aG a0_ fun z2 d1=>
 bE .il a1_ fun z4 d3=>
 .mat (iq d1 d3) fun r=>.ret (uh z2 z4 d1 d3 r)
def nJ:Ctr:=dD [] JV
theorem uY:Contract Try.prog .none 103 nJ:=aD (V:=xg) aT (ak OZ ath (ak vL agT (ak El ap1 aI))) Try.func103 bF fun _ _ _=>aH fun _ _=>aH fun _ _=>bn<|bn<|dI fun _ _=>dI fun _ _=>fun h=>by intros;subst_vars;exact bg (I6 _ _ _ _) h
def SI (p0:(List (List Int))):Tre Int:=
 .ret (p0.length:Int)
def aaZ (p0:(List (List Int))):Option Int:=(SI p0).run some
theorem Uz(p0:(List (List Int))):aaZ p0=some (p0.length:Int):=rfl
def M7:Env:=⟨tau,[],[]⟩
def aa1:FnI:=fnI Try.f58 []
def Hu (_:Bool) (_:(List (List Int))):Int→aA:=fun r=>⟨(.i r),[],[]⟩
theorem YC:∀(zp0:Bool)(p0:(List (List Int))),bI M7 aa1 ⟨[(.imm zp0 (.sl .il) p0)],[]⟩=(SI p0).run fun r=>some (Hu zp0 p0 r):=fun _ _=>by kernel_rfl
def aa0 (av:List AV) (rs:List Root):Tre aA:=
 aB av fun a0_ av0=>
 aL av0<|
 aL rs<|
 bE (.sl .il) a0_ fun z2 d1=>
 .ret (Hu z2 d1 (d1.length:Int))
def CG:Ctr:=dD [] aa0
theorem J8:Contract Try.prog .none 58 CG:=aD (V:=M7) aT aI Try.func58 bF fun _ _ _=>aH fun _ _=>bn<|bn<|dI fun _ _=>fun h=>by intros;subst_vars;exact xR (YC _ _) (Uz _) h
def Dk (p0:au):Tre Bool:=
 let v1:=aN .i64 (p0.1.1*(p0.2.2.1.length:Int))
 .ret (decide (v1≤12))
def ND (p0:au):Option Bool:=(Dk p0).run some
def jc(p0:au):Bool:=
 let v1:=aN .i64 (p0.1.1*(p0.2.2.1.length:Int))
 decide (v1≤12)
theorem I4(p0:au):ND p0=some (jc p0):=rfl
def zq:Env:=⟨tau,[(58,CG)],[]⟩
def NH:FnI:=fnI Try.f164 []
def wZ (_:Bool) (_:au):Bool→aA:=fun r=>⟨(.imm true .bool r),[],[]⟩
theorem Lr:∀(zp0:Bool)(p0:au),bI zq NH ⟨[(.imm zp0 aG p0)],[]⟩=(Dk p0).run fun r=>some (wZ zp0 p0 r):=fun _ _=>by kernel_rfl
def NG (av:List AV) (rs:List Root):Tre aA:=
 aB av fun a0_ av0=>
 aL av0<|
 aL rs<|
 bE aG a0_ fun z2 d1=>
 .ret (wZ z2 d1 (jc d1))
def zu:Ctr:=dD [] NG
theorem Ls:Contract Try.prog .none 164 zu:=aD (V:=zq) aT (ak J8 atg aI) Try.func164 bF fun _ _ _=>aH fun _ _=>bn<|bn<|dI fun _ _=>fun h=>by intros;subst_vars;exact xR (Lr _ _) (I4 _) h
def qj (p0:au):Tre Int:=
 .mat (uZ p0) fun r1=>
 .cond (!r1)
  (.ret 1)
  (.cond (!(jc p0))
   (.ret 3)
   (.ret 0))
def fF (p0:au):Option Int:=(qj p0).run some
def xq:Env:=⟨tau,[(73,I8),(164,zu)],[]⟩
def JY:FnI:=fnI Try.f104 []
def uj (_:Bool) (_:au):Int→aA:=fun r=>⟨(.i r),[],[]⟩
theorem I7:∀(zp0:Bool)(p0:au),bI xq JY ⟨[(.imm zp0 aG p0)],[]⟩=(qj p0).run fun r=>some (uj zp0 p0 r):=fun _ _=>by kernel_rfl
def JX (av:List AV) (rs:List Root):Tre aA:=
 aB av fun a0_ av0=>
 aL av0<|
 aL rs<|
 bE aG a0_ fun z2 d1=>
 .mat (fF d1) fun r=>.ret (uj z2 d1 r)
def jR:Ctr:=dD [] JX
theorem mO:Contract Try.prog .none 104 jR:=aD (V:=xq) aT (ak OZ ath (ak Ls aur aI)) Try.func104 bF fun _ _ _=>aH fun _ _=>bn<|bn<|dI fun _ _=>fun h=>by intros;subst_vars;exact bg (I7 _ _) h
def gD (dX:List Int) (eu:Int) (iG:List Int) (qY:Int) (mJ:au):(Int×(List Int))→Tre ((Int×(List Int)) ⊕ (List Int)):=fun s6=>
 .cond (decide (s6.1<qY))
  (.ite (0≤s6.1∧s6.1<(iG.length:Int))<|
  .mat (iG[s6.1.toNat]?) fun x2=>
  .ite (0≤s6.1∧s6.1<(s6.2.length:Int))<|
  .mat (s6.2[s6.1.toNat]?) fun x3=>
  .ite (0≤eu∧eu<(dX.length:Int))<|
  .mat (dX[eu.toNat]?) fun x4=>
  .mat (cu mJ.1 x4 x2) fun r5=>
  .ite (0≤s6.1∧s6.1<(s6.2.length:Int))<|
  .mat (s6.2[s6.1.toNat]?) fun _=>
  let v7:=s6.2.set s6.1.toNat (jD .i64 x3 r5)
  .ret (.inl (aN .i64 (s6.1+1),v7)))
  (.ret (.inr s6.2))
def gB (aQ:List Int) (bL:(List (List Int))) (bG:Int) (dR:au):(Int×(List Int))→Tre ((Int×(List Int)) ⊕ (List Int)):=fun s3=>
 .cond (decide (s3.1<bG))
  (.ite (0≤s3.1∧s3.1<(bL.length:Int))<|
  .mat (bL[s3.1.toNat]?) fun x1=>
  .mat (aP (gD aQ s3.1 x1 (x1.length:Int) dR) (0,s3.2)) fun l8=>
  .ret (.inl (aN .i64 (s3.1+1),l8)))
  (.ret (.inr s3.2))
def wm (p0:au) (p1:List Int):Tre (List Int):=
 .ite ((.n:K)=.n∧0≤p0.2.1∧p0.2.1=p0.2.1∧p0.2.1*(8:Nat)≤140737488355328∧1≤8)<|
 .mat (aP (gB p1 p0.2.2.1 (p0.2.2.1.length:Int) p0) (0,List.replicate p0.2.1.toNat (0:Int))) fun l9=>
 .ret l9
def jC (p0:au) (p1:List Int):Option (List Int):=(wm p0 p1).run some
-- more
theorem aoh{f:TF3}(hf:aO f=true){n:Nat}(hn:n≤1000){row out ms:List Int}(hr:okV f n row)(ho:okV f n out){i:Nat}{x:Int}(hi:ms[i]?=some x)(hx:inF f x){c:TRC}(hc:c.1=f) :
  aP (gD ms (i:Int) row (row.length:Int) c) (0,out)=some (lJ f out row x):=by
 have hal:=QI hf ho hr hx
 refine eX (fun k=>((k:Int),(lJ f out row x).take k++out.drop k)) row.length _ (fun k hk=>?_) ?_
 ·have hkn:k<n:=by have:=hr.1;omega
  have hrk:=List.getElem?_eq_getElem hk
  have hol:k<out.length:=by rw [ho.1];exact hkn
  have hok:=List.getElem?_eq_getElem hol
  have hak:(lJ f out row x)[k]?=some (jD .i64 out[k] (fZ f x row[k])):=by
   unfold lJ
   rw [List.getElem?_map,List.getElem?_zip_eq_some.2 (show out[k]?=some (out[k],row[k]).1∧row[k]?=some (out[k],row[k]).2 from ⟨hok,hrk⟩),Option.map_some]
   dsimp only
   rw [kP hf (hr.2 _ (List.mem_of_getElem? hrk)) hx]
  have hti:((lJ f out row x).take k).length=k:=by rw [List.length_take,hal.1];omega
  have hd:out.drop k=out[k]::out.drop (k+1):=List.drop_eq_getElem_cons _
  have h1:((lJ f out row x).take k++out.drop k)[k]?=some out[k]:=by rw [List.getElem?_append_right (by omega),hti,Nat.sub_self,hd];rfl
  have h3:((lJ f out row x).take k++out.drop k).set k (jD .i64 out[k] (fZ f x row[k]))=(lJ f out row x).take (k+1)++out.drop (k+1):=by
   rw [List.set_append_right _ _ (by omega),hti,Nat.sub_self,hd,List.set_cons_zero,List.take_add_one,hak,Option.toList_some,List.append_assoc]
   rfl
  unfold gD
  dsimp only
  rw [fq hrk,eG h1,eG hi,ah (show cu c.1 x row[k]=some (fZ f x row[k]) from by rw [hc];exact abE hf hx (hr.2 _ (List.mem_of_getElem? hrk))),eG h1,Int.toNat_natCast,h3,Tre.aK,aV (by omega)]
 ·unfold gD
  dsimp only
  rw [dY,Tre.aK,List.drop_of_length_le (by rw [ho.1,hr.1];omega),List.append_nil,List.take_of_length_le (by rw [hal.1,hr.1];omega)]
theorem ajh{c:TRC}{n:Nat}{p:List Nat}(h:jJ c n p){m:List Int}(hm:okV c.1 c.2.2.1.length m):jC c m=some (dJ c m):=by
 have h5:=h.h5
 have h10:=h.r10
 unfold jC wm
 rw [Tre.run_ite,if_pos (by rw [h.len];exact ⟨rfl,by omega,rfl,by omega,by decide⟩)]
 rw [ah (show aP (gB m c.2.2.1 (c.2.2.1.length:Int) c) (0,List.replicate c.2.1.toNat 0)=some (dJ c m) from ?_),Tre.aK]
 unfold dJ aeR
 rw [h.len,Int.toNat_natCast]
 have hwz:∀i,i≤m.length→okV c.1 n (uM c.1 (fun i=>c.2.2.1.getD i []) 0 (List.replicate n 0) (m.take i)):=fun i hi=>
  Oq h.hf _ 0 _ (KJ n) (fun x hx=>hm.2 x (List.mem_of_mem_take hx)) fun j _ hj=>rows_ok h.rre.gr (by rw [List.length_take] at hj;have:=hm.1;omega)
 refine eX (fun i=>((i:Int),uM c.1 (fun i=>c.2.2.1.getD i []) 0 (List.replicate n 0) (m.take i))) c.2.2.1.length _ (fun i hi=>?_) ?_
 ·have hx:=List.getElem?_eq_getElem hi
  have hmi:=List.getElem?_eq_getElem (show i<m.length by rw [hm.1];exact hi)
  have hrow:=h.rre.gr _ (List.mem_of_getElem? hx)
  unfold gB
  dsimp only
  rw [fq hx,ah (aoh h.hf (by omega) hrow (hwz i (by rw [hm.1];omega)) hmi (hm.2 _ (List.mem_of_getElem? hmi)) rfl),Tre.aK,aV (by omega),List.take_add_one,hmi,Option.toList_some,QJ]
  have:0+(m.take i).length=i:=by rw [List.length_take,hm.1];omega
  rw [this,nZ hx]
 ·unfold gB
  dsimp only
  rw [dY,Tre.aK,List.take_of_length_le (by rw [hm.1];omega)]
def gY:Env:=⟨tau,[(145,uP)],[(1000000,[((6,0),[],false)])]⟩
def lU:Code:=(Try.f115.body).getD .skip
def uV (yZ:Bool) (Ga:Bool) (aeC:Bool) (Vt:Bool) (dX:List Int) (eu:Int) (vX:(List (List Int))) (gM:Int) (vY:Int) (iG:List Int) (qY:Int) (mJ:au):(Int×(List Int))→St:=fun x=>bR [(1,(.imm yZ .il dX)),(2,(.ptr (4,0) [])),(5,(.ref (7,0) [])),(6,(.i eu)),(14,(.imm Ga (.sl .il) vX)),(15,(.i gM)),(16,(.i vY)),(21,(.imm aeC .il iG)),(22,(.i qY)),(23,(.i x.1))] [((4,0),some ⟨true,aG,(.imm Vt),mJ⟩),((7,0),some ⟨false,.il,.own,x.2⟩)]
def ug (yZ:Bool) (Ga:Bool) (_:Bool) (Vt:Bool) (dX:List Int) (_:Int) (vX:(List (List Int))) (gM:Int) (vY:Int) (_:List Int) (_:Int) (mJ:au):(List Int)→Ex×St:=fun x=>(.exit 2,bR [(1,(.imm yZ .il dX)),(2,(.ptr (4,0) [])),(5,(.ref (7,0) [])),(14,(.imm Ga (.sl .il) vX)),(15,(.i gM)),(16,(.i vY))] [((4,0),some ⟨true,aG,(.imm Vt),mJ⟩),((7,0),some ⟨false,.il,.own,x⟩)])
def JO (s:St):Tre (Ex×St):=
 bE .il (s.tmps 1) fun z3 d2=>
 dB (4,0) [] (s.tmps 2)<|
 fA (7,0) [] (s.tmps 5)<|
 aC true .n (s.tmps 6) fun d7=>
 bE (.sl .il) (s.tmps 14) fun z10 d9=>
 aC true .n (s.tmps 15) fun d12=>
 aC true .n (s.tmps 16) fun d14=>
 bE .il (s.tmps 21) fun z17 d16=>
 aC true .n (s.tmps 22) fun d19=>
 aC true .n (s.tmps 23) fun d21=>
 aW true aG (s.roots (4,0)) fun m23 d24=>
 jg m23 fun z25=>
 aW false .il (s.roots (7,0)) fun m27 d28=>
 asM .own m27<|
 .mat (aP (gD d2 d7 d16 d19 d24) (d21,d28)) fun x=>.ret (ug z3 z10 z17 z25 d2 d7 d9 d12 d14 d16 d19 d24 x)
def jQ:bB:=⟨([1,2,5,6,14,15,16,21,22,23],[(4,0),(7,0)]),([1,2,5,14,15,16],[(4,0),(7,0)]),JO⟩
def uU (eF:Bool) (wN:Bool) (aeB:Bool) (aQ:List Int) (bL:(List (List Int))) (bG:Int) (dR:au):(Int×(List Int))→St:=fun x=>bR [(1,(.imm eF .il aQ)),(2,(.ptr (4,0) [])),(5,(.ref (7,0) [])),(14,(.imm wN (.sl .il) bL)),(15,(.i bG)),(16,(.i x.1))] [((4,0),some ⟨true,aG,(.imm aeB),dR⟩),((7,0),some ⟨false,.il,.own,x.2⟩)]
def uf (_:Bool) (_:Bool) (_:Bool) (_:List Int) (_:(List (List Int))) (_:Int) (_:au):(List Int)→Ex×St:=fun x=>(.exit 0,bR [(5,(.ref (7,0) []))] [((7,0),some ⟨false,.il,.own,x⟩)])
def JN (s:St):Tre (Ex×St):=
 bE .il (s.tmps 1) fun z3 d2=>
 dB (4,0) [] (s.tmps 2)<|
 fA (7,0) [] (s.tmps 5)<|
 bE (.sl .il) (s.tmps 14) fun z8 d7=>
 aC true .n (s.tmps 15) fun d10=>
 aC true .n (s.tmps 16) fun d12=>
 aW true aG (s.roots (4,0)) fun m14 d15=>
 jg m14 fun z16=>
 aW false .il (s.roots (7,0)) fun m18 d19=>
 asM .own m18<|
 .mat (aP (gB d2 d7 d10 d15) (d12,d19)) fun x=>.ret (uf z3 z8 z16 d2 d7 d10 d15 x)
def jP:bB:=⟨([1,2,5,14,15,16],[(4,0),(7,0)]),([5],[(7,0)]),JN⟩
def jB:List (Nat×bB):=[(6,jQ),(3,jP)]
theorem ED:∀(yZ Ga aeC Vt:Bool)(dX:List Int)(eu:Int)(vX:(List (List Int)))(gM vY:Int)(iG:List Int)(qY:Int)(mJ:au)(x:(Int×(List Int)))(c:St→Option (Ex×St)),den gY jB (aU lU 1) (uV yZ Ga aeC Vt dX eu vX gM vY iG qY mJ x) (bY jQ.kp jQ.kx c)=(gD dX eu iG qY mJ x).run (bZ (uV yZ Ga aeC Vt dX eu vX gM vY iG qY mJ) (ug yZ Ga aeC Vt dX eu vX gM vY iG qY mJ) c):=fun _ _ _ _ _ _ _ _ _ _ _ _ _ _=>by
 kernel_rfl
theorem IZ:bP gY jB (aU lU 1) jQ:=dw fun _ _ _=>dI fun _ _=>fT<|kW<|aM fun _=>dI fun _ _=>aM fun _=>aM fun _=>dI fun _ _=>aM fun _=>aM fun _=>bN fun _ _=>rZ fun _=>bN fun _ _=>tM<|fun h _ e26 _ e22 e20 e18 e15 e13 e11 e8 e6 e5 e4 e1=>bT (ED _ _ _ _ _ _ _ _ _ _ _ _) h (by subst_vars;exact aR rfl rfl ⟨e1,e4,e5,e6,e8,e11,e13,e15,e18,e20,trivial⟩ ⟨e22,e26,trivial⟩)
theorem EC:∀(eF wN aeB:Bool)(aQ:List Int)(bL:(List (List Int)))(bG:Int)(dR:au)(x:(Int×(List Int)))(c:St→Option (Ex×St)),den gY jB (aU lU 0) (uU eF wN aeB aQ bL bG dR x) (bY jP.kp jP.kx c)=(gB aQ bL bG dR x).run (bZ (uU eF wN aeB aQ bL bG dR) (uf eF wN aeB aQ bL bG dR) c):=fun _ _ _ _ _ _ _ _ _=>by
 kernel_rfl
theorem IY:bP gY jB (aU lU 0) jP:=dw fun _ _ _=>dI fun _ _=>fT<|kW<|dI fun _ _=>aM fun _=>aM fun _=>bN fun _ _=>rZ fun _=>bN fun _ _=>tM<|fun h _ e17 _ e13 e11 e9 e6 e5 e4 e1=>bT (EC _ _ _ _ _ _ _) h (by subst_vars;exact aR rfl rfl ⟨e1,e4,e5,e6,e9,e11,trivial⟩ ⟨e13,e17,trivial⟩)
def OQ:FnI:=fnI Try.f115 jB
def yt (_:Bool) (_:Bool) (_:au) (_:List Int):(List Int)→aA:=fun r=>⟨(.imm true .il r),[],[]⟩
theorem NC:∀(zp0 zp1:Bool)(p0:au)(p1:List Int),bI gY OQ ⟨[(.imm zp0 aG p0),(.imm zp1 .il p1)],[]⟩=(wm p0 p1).run fun r=>some (yt zp0 zp1 p0 p1 r):=fun _ _ _ _=>by kernel_rfl
def OP (av:List AV) (rs:List Root):Tre aA:=
 aB av fun a0_ av0=>
 aB av0 fun a1_ av1=>
 aL av1<|
 aL rs<|
 bE aG a0_ fun z2 d1=>
 bE .il a1_ fun z4 d3=>
 .mat (jC d1 d3) fun r=>.ret (yt z2 z4 d1 d3 r)
def q9:Ctr:=dD [] OP
theorem zk:Contract Try.prog .none 115 q9:=aD (V:=gY) aT (ak xY agR aI) Try.func115 (bJ (n:=2) fun k hk=>by
 match k,hk with
 |0,_=>exact bM (id:=3) IY
 |1,_=>exact bM (id:=6) IZ) fun _ _ _=>aH fun _ _=>aH fun _ _=>bn<|bn<|dI fun _ _=>dI fun _ _=>fun h=>by intros;subst_vars;exact bg (NC _ _ _ _) h
-- shared
namespace FO
variable (F : FO)
end FO
-- shared
def ape(l:List Nat):Prop:=l≠[]→cf l (l.length-1)≠0
structure avT(F:FO)(N V A R:List Nat):Prop where
 ia:inL F A
 ir:inL F R
 ta:ape A
 tr:ape R
 eq:∀i,cf N i=F.Bd V (cf A) i^^^cf R i
theorem ar7{F:FO}{p q:List Nat}(hp:inL F p)(hq:inL F q):inL F (akR p q):=F.arp hp hq
theorem apv{F:FO}:∀{V:List Nat}{x:Nat→Nat}{i:Nat},(∀j,x j=0)→F.Bd V x i=0:=by
 intro V
 induction V with
 |nil=>intro x i _;simp [FO.Bd]
 |cons v vs ih=>
  intro x i h
  simp only [FO.Bd]
  rw [h,F.mul_zero,Nat.zero_xor]
  cases i with
  |zero=>rfl
  |succ i=>exact ih fun j=>by rw [h,F.anF]
theorem avT.uniq{F:FO}{N V A R m:List Nat}(h:avT F N V A R)(hV:inL F V)(hn:V≠[])(ht:ape V)(hR:R.length<V.length)(hm:inL F m)(he:∀i,cf N i=F.Bd V (cf m) i):A=Ns m∧R=[]:=by
 have h1:∀i,F.Bd V (cf (akR A m)) i=cf R i:=by
  intro i
  rw [show cf (akR A m)=fun j=>cf A j^^^cf m j from funext fun j=>amP A m j,F.anR,←he i,h.eq i]
  generalize F.Bd V (cf A) i=a
  rw [←Nat.xor_assoc,Nat.xor_self,Nat.zero_xor]
 have h2:=F.apw hV (ar7 h.ia hm) hn (ht hn) fun i hi=>by rw [h1];exact apq (by omega)
 have h3:∀i,cf R i=0:=fun i=>by rw [←h1,apv];exact h2
 have h4:R=[]:=by
  apply Classical.byContradiction
  intro hne
  exact h.tr hne (h3 _)
 refine ⟨ao6 h.ta (aew m) fun i=>?_,h4⟩
 have:=h2 i
 rw [amP] at this
 rw [Vz]
 calc cf A i=(cf A i^^^cf m i)^^^cf m i:=by rw [Nat.xor_assoc,Nat.xor_self,Nat.xor_zero]
  _=cf m i:=by rw [this,Nat.zero_xor]
-- shared
namespace FO
variable (F : FO)
end FO
section
variable {f : TF3} (hf : aO f = true)
end
def zR (aQ:List Int) (bL:Int):(Int×(List Int))→Tre ((Int×(List Int)) ⊕ (List Int)):=fun s3=>
 .cond (decide (s3.1<bL))
  (.ite (0≤s3.1∧s3.1<(aQ.length:Int))<|
  .mat (aQ[s3.1.toNat]?) fun x2=>
  .ite (0≤s3.1∧s3.1<(s3.2.length:Int))<|
  .mat (s3.2[s3.1.toNat]?) fun x3=>
  .ite (0≤s3.1∧s3.1<(s3.2.length:Int))<|
  .mat (s3.2[s3.1.toNat]?) fun _=>
  let v5:=s3.2.set s3.1.toNat (jD .i64 x3 x2)
  .ret (.inl (aN .i64 (s3.1+1),v5)))
  (.ret (.inr s3.2))
def agZ (p0:List Int) (p1:List Int):Tre (List Int):=
 .mat (xP p0) fun r1=>
 .mat (aP (zR p1 (p1.length:Int)) (0,r1)) fun l6=>
 .ret l6
def zQ (p0:List Int) (p1:List Int):Option (List Int):=(agZ p0 p1).run some
-- more
def QT:Env:=⟨tau,[(61,mF)],[]⟩
def afZ:Code:=(Try.f108.body).getD .skip
def SF (eF:Bool) (aQ:List Int) (bL:Int):(Int×(List Int))→St:=fun x=>bR [(5,(.ref (7,0) [])),(10,(.imm eF .il aQ)),(11,(.i bL)),(12,(.i x.1))] [((7,0),some ⟨false,.il,.own,x.2⟩)]
def O4 (_:Bool) (_:List Int) (_:Int):(List Int)→Ex×St:=fun x=>(.exit 0,bR [(5,(.ref (7,0) []))] [((7,0),some ⟨false,.il,.own,x⟩)])
def ag0 (s:St):Tre (Ex×St):=
 fA (7,0) [] (s.tmps 5)<|
 bE .il (s.tmps 10) fun z4 d3=>
 aC true .n (s.tmps 11) fun d6=>
 aC true .n (s.tmps 12) fun d8=>
 aW false .il (s.roots (7,0)) fun m10 d11=>
 asM .own m10<|
 .mat (aP (zR d3 d6) (d8,d11)) fun x=>.ret (O4 z4 d3 d6 x)
def DU:bB:=⟨([5,10,11,12],[(7,0)]),([5],[(7,0)]),ag0⟩
def Yx:List (Nat×bB):=[(3,DU)]
theorem aaU:∀(eF:Bool)(aQ:List Int)(bL:Int)(x:(Int×(List Int)))(c:St→Option (Ex×St)),den QT Yx (aU afZ 0) (SF eF aQ bL x) (bY DU.kp DU.kx c)=(zR aQ bL x).run (bZ (SF eF aQ bL) (O4 eF aQ bL) c):=fun _ _ _ _ _=>by
 kernel_rfl
theorem ae5:bP QT Yx (aU afZ 0) DU:=dw fun _ _ _=>kW<|dI fun _ _=>aM fun _=>aM fun _=>bN fun _ _=>tM<|fun h _ e9 e7 e5 e2 e1=>bT (aaU _ _ _) h (by subst_vars;exact aR rfl rfl ⟨e1,e2,e5,e7,trivial⟩ ⟨e9,trivial⟩)
def aof:FnI:=fnI Try.f108 Yx
def ZN (_:Bool) (_:Bool) (_:List Int) (_:List Int):(List Int)→aA:=fun r=>⟨(.ref (1,0) []),[],[⟨false,.il,.own,r⟩]⟩
theorem alJ:∀(zp0 zp1:Bool)(p0 p1:List Int),bI QT aof ⟨[(.imm zp0 .il p0),(.imm zp1 .il p1)],[]⟩=(agZ p0 p1).run fun r=>some (ZN zp0 zp1 p0 p1 r):=fun _ _ _ _=>by kernel_rfl
def aoe (av:List AV) (rs:List Root):Tre aA:=
 aB av fun a0_ av0=>
 aB av0 fun a1_ av1=>
 aL av1<|
 aL rs<|
 bE .il a0_ fun z2 d1=>
 bE .il a1_ fun z4 d3=>
 .mat (zQ d1 d3) fun r=>.ret (ZN z2 z4 d1 d3 r)
def QU:Ctr:=dD [] aoe
theorem Uq:Contract Try.prog .none 108 QU:=aD (V:=QT) aT (ak qm apY aI) Try.func108 (bJ (n:=1) fun k hk=>by
 match k,hk with
 |0,_=>exact bM (id:=3) ae5) fun _ _ _=>aH fun _ _=>aH fun _ _=>bn<|bn<|dI fun _ _=>dI fun _ _=>fun h=>by intros;subst_vars;exact bg (alJ _ _ _ _) h
def zS (p0:Int) (p1:Int):Tre Bool:=
 .ite (0≤p1)<|
 let v1:=LC .i64 (Pe .i64 p0 p1) 1
 .ret (decide (v1=1))
def EN (p0:Int) (p1:Int):Option Bool:=(zS p0 p1).run some
def arw(x j:Int):Option Bool:=agF (decide (0≤j)) (y7 x j)
theorem NM(p0 p1:Int)(y:Bool)(h:arw p0 p1=some y):EN p0 p1=some y:=by
 obtain ⟨hl,rfl⟩:=wP h
 unfold EN zS
 rw [Tre.run_ite,if_pos (of_decide_eq_true hl)]
 rfl
def EO:Env:=⟨tau,[],[]⟩
def Uu:FnI:=fnI Try.f202 []
def BI (_:Int) (p1:Int):Bool→aA:=fun r=>⟨(.imm true .bool r),[⟨true,.n,.own,p1⟩],[]⟩
theorem RL:∀(p0 p1:Int),bI EO Uu ⟨[(.i p0),(.ptr (0,0) [])],[⟨true,.n,.own,p1⟩]⟩=(zS p0 p1).run fun r=>some (BI p0 p1 r):=fun _ _=>by kernel_rfl
def Ut (av:List AV) (rs:List Root):Tre aA:=
 aB av fun a0_ av0=>
 aB av0 fun a1_ av1=>
 aL av1<|
 aB rs fun r0_ rs0=>
 aL rs0<|
 aC true .n a0_ fun d1=>
 dB (0,0) [] a1_<|
 gH true .n r0_ fun m2 d3=>
 asM .own m2<|
 .mat (arw d1 d3) fun r=>.ret (BI d1 d3 r)
def EP:Ctr:=dD [] Ut
theorem RN:Contract Try.prog .none 202 EP:=aD (V:=EO) aT aI Try.func202 bF fun _ _ _=>aH fun _ _=>aH fun _ _=>bn<|aH fun _ _=>bn<|aM fun _=>fT<|tRt fun _ _=>tM<|fun h=>by intros;subst_vars;exact Am (RL _ _) (NM _ _) h
def Rb (aY:List Int) (bq:Int) (bD:Int):Int→Tre (Int ⊕ (Int ⊕ Unit)):=fun s2=>
 .cond (decide (s2<bq))
  (.ite (0≤s2∧s2<(aY.length:Int))<|
  .mat (aY[s2.toNat]?) fun x1=>
  .mat (arw x1 bD) fun r2=>
  .cond r2
   (.ret (.inr (.inl s2)))
   (.ret (.inl (aN .i64 (s2+1)))))
  (.ret (.inr (.inr ())))
def au4 (p0:List Int) (p1:Int):Tre Int:=
 .mat (aP (Rb p0 (p0.length:Int) p1) 0) fun l3=>
 .alt l3
  (fun a4=>
   .ret a4)
  (fun _=>
   .ret (-1))
def aqr (p0:List Int) (p1:Int):Option Int:=(au4 p0 p1).run some
def arG(xs:List Int)(j:Int):Option Int:=agF (decide (0≤j)&&decide (xs.length≤1048576)) (lF (fun x=>y7 x j) 0 xs)
theorem aou(p0:List Int)(p1 y:Int)(h:arG p0 p1=some y):aqr p0 p1=some y:=by
 obtain ⟨hl,rfl⟩:=wP h
 rw [Bool.and_eq_true] at hl
 obtain ⟨hm,hl⟩:=hl
 have hl:=of_decide_eq_true hl
 unfold aqr au4
 rw [Tre.qE,Jz (xs:=p0) (fun i x=>cond (y7 x p1) (some (.inl (i:Int))) none) (.inr ())]
 ·rw [Option.bind_some,←Yf (p:=fun x=>y7 x p1)]
  generalize Oy _ _ _ _=r
  cases r<;>rfl
 ·intro i x hx
  have hi:i<p0.length:=(List.getElem?_eq_some_iff.1 hx).1
  unfold Rb
  rw [fq hx,ah (show arw x p1=some _ from wQ hm),Tre.aF]
  cases y7 x p1
  ·simp only [cond_false,Tre.aK,aV (show i<4611686018427387904 by omega)]
  ·rfl
 ·unfold Rb
  exact dY
def ahw:Env:=⟨tau,[(202,EP)],[]⟩
def aqs:Code:=(Try.f125.body).getD .skip
def UK (kX:Bool) (aY:List Int) (bq:Int) (bD:Int):Int→St:=fun x=>bR [(0,(.imm kX .il aY)),(1,(.fn 202 [(0,0)])),(7,(.i bq)),(8,(.i x))] [((0,0),some ⟨true,.n,.own,bD⟩)]
def H6 (_:Bool) (_:List Int) (_:Int) (bD:Int):(Int ⊕ Unit)→Ex×St
 |.inl x=>(.ret,bR [(4,(.i x))] [((0,0),some ⟨true,.n,.own,bD⟩)])
 |.inr _=>(.exit 0,bR [(4,.dead)] [((0,0),some ⟨true,.n,.own,bD⟩)])
def agc (s:St):Tre (Ex×St):=
 bE .il (s.tmps 0) fun z3 d2=>
 vW 202 [(0,0)] (s.tmps 1)<|
 aC true .n (s.tmps 7) fun d6=>
 aC true .n (s.tmps 8) fun d8=>
 aW true .n (s.roots (0,0)) fun m10 d11=>
 asM .own m10<|
 .mat (aP (Rb d2 d6 d11) d8) fun x=>.alt x (fun a0=>.ret (H6 z3 d2 d6 d11 (.inl a0))) (fun b0=>.ret (H6 z3 d2 d6 d11 (.inr b0)))
def Kc:bB:=⟨([0,1,7,8],[(0,0)]),([4],[(0,0)]),agc⟩
def ama:List (Nat×bB):=[(2,Kc)]
theorem ahx:∀(kX:Bool)(aY:List Int)(bq bD x:Int)(c:St→Option (Ex×St)),den ahw ama (aU aqs 0) (UK kX aY bq bD x) (bY Kc.kp Kc.kx c)=(Rb aY bq bD x).run (bZ (UK kX aY bq bD) (H6 kX aY bq bD) c):=fun _ _ _ _ _ _=>by
 kernel_rfl
theorem amb:bP ahw ama (aU aqs 0) Kc:=gF fun s e s' h=>by
 generalize hs:restrict Kc.kp s=s1 at h
 have h:(agc s1).run some=some (e,s'):=h
 obtain ⟨z3,d2,e1,h_0⟩:=dO h
 obtain ⟨e4,h_1⟩:=wO h_0
 obtain ⟨d6,e5,h_2⟩:=bQ h_1
 obtain ⟨d8,e7,h_3⟩:=bQ h_2
 obtain ⟨m10,d11,e9,h_4⟩:=jw h_3
 obtain ⟨rfl,h_5⟩:=uK h_4
 obtain ⟨y,hy,hz⟩:=jd h_5
 refine ⟨_,_,UK z3 d2 d6 d11,H6 z3 d2 d6 d11,Rb d2 d6 d11,d8,y,?_,hy,?_,ahx z3 d2 d6 d11⟩
 ·subst hs;exact aR (T:=[(0,(.imm z3 .il d2)),(1,(.fn 202 [(0,0)])),(7,(.i d6)),(8,(.i d8))]) (U:=[((0,0),some ⟨true,.n,.own,d11⟩)]) rfl rfl ⟨e1,e4,e5,e7,trivial⟩ ⟨e9,trivial⟩
 ·rcases y with x|x<;>exact Option.some.inj hz
def au6:FnI:=fnI Try.f125 ama
def ajI (_:Bool) (_:List Int) (p1:Int):Int→aA:=fun r=>⟨(.i r),[⟨true,.n,.own,p1⟩],[]⟩
theorem asl:∀(zp0:Bool)(p0:List Int)(p1:Int),bI ahw au6 ⟨[(.imm zp0 .il p0),(.fn 202 [(0,0)])],[⟨true,.n,.own,p1⟩]⟩=(au4 p0 p1).run fun r=>some (ajI zp0 p0 p1 r):=fun _ _ _=>by kernel_rfl
def au5 (av:List AV) (rs:List Root):Tre aA:=
 aB av fun a0_ av0=>
 aB av0 fun a1_ av1=>
 aL av1<|
 aB rs fun r0_ rs0=>
 aL rs0<|
 bE .il a0_ fun z2 d1=>
 vW 202 [(0,0)] a1_<|
 gH true .n r0_ fun m3 d4=>
 asM .own m3<|
 .mat (arG d1 d4) fun r=>.ret (ajI z2 d1 d4 r)
def aqt:Ctr:=dD [] au5
theorem asn:Contract Try.prog .none 125 aqt:=aD (V:=ahw) aT (ak RN auH aI) Try.func125 (bJ (n:=1) fun k hk=>by
 match k,hk with
 |0,_=>exact bM (id:=2) amb) fun _ _ _=>aH fun _ _=>aH fun _ _=>bn<|aH fun _ _=>bn<|dI fun _ _=>tFn<|tRt fun _ _=>tM<|fun h=>by intros;subst_vars;exact Am (asl _ _ _) (aou _ _) h
def mP (sG:Int) (GN:Int) (xS:Int):(Int×(List Int))→Tre ((Int×(List Int)) ⊕ (List Int)):=fun s10=>
 .cond (decide (s10.1<GN))
  (.cond (!decide (s10.1=sG))
   (.ite (0≤s10.1∧s10.1<(s10.2.length:Int))<|
   .mat (s10.2[s10.1.toNat]?) fun x9=>
   .ite (0≤xS)<|
   let v10:=LC .i64 (Pe .i64 x9 xS) 1
   .cond (decide (v10=1))
    (.ite (0≤s10.1∧s10.1<(s10.2.length:Int))<|
    .mat (s10.2[s10.1.toNat]?) fun x11=>
    .ite (0≤sG∧sG<(s10.2.length:Int))<|
    .mat (s10.2[sG.toNat]?) fun x12=>
    .ite (0≤s10.1∧s10.1<(s10.2.length:Int))<|
    .mat (s10.2[s10.1.toNat]?) fun _=>
    let v14:=s10.2.set s10.1.toNat (jD .i64 x11 x12)
    .ret (.inl (aN .i64 (s10.1+1),v14)))
    (.ret (.inl (aN .i64 (s10.1+1),s10.2))))
   (.ret (.inl (aN .i64 (s10.1+1),s10.2))))
  (.ret (.inr s10.2))
def iI:(Int×(List Int)×Int)→Tre ((Int×(List Int)×Int) ⊕ (Int×(List Int))):=fun s4=>
 .cond (decide (s4.2.2<62))
  (.cond (decide (s4.1<(s4.2.1.length:Int)))
   (.ite (0≤s4.1∧s4.1≤(s4.2.1.length:Int)∧(s4.2.1.length:Int)≤(s4.2.1.length:Int))<|
   .mat (arG ((s4.2.1.drop s4.1.toNat).take (((s4.2.1.length:Int)-s4.1).toNat)) s4.2.2) fun r2=>
   .cond (decide (r2<0))
    (.ret (.inl (s4.1,s4.2.1,aN .i64 (s4.2.2+1))))
    (.ite (0≤aN .i64 (s4.1+r2)∧aN .i64 (s4.1+r2)<(s4.2.1.length:Int))<|
    .mat (s4.2.1[(aN .i64 (s4.1+r2)).toNat]?) fun x3=>
    .ite (0≤s4.1∧s4.1<(s4.2.1.length:Int))<|
    .mat (s4.2.1[s4.1.toNat]?) fun x4=>
    .ite (0≤s4.1∧s4.1<(s4.2.1.length:Int))<|
    .mat (s4.2.1[s4.1.toNat]?) fun _=>
    let v6:=s4.2.1.set s4.1.toNat x3
    .ite (0≤aN .i64 (s4.1+r2)∧aN .i64 (s4.1+r2)<(v6.length:Int))<|
    .mat (v6[(aN .i64 (s4.1+r2)).toNat]?) fun _=>
    let v8:=v6.set ((aN .i64 (s4.1+r2)).toNat) x4
    .mat (aP (mP s4.1 (v8.length:Int) s4.2.2) (0,v8)) fun l15=>
    .ret (.inl (aN .i64 (s4.1+1),l15,aN .i64 (s4.2.2+1)))))
   (.ret (.inr (s4.1,s4.2.1))))
  (.ret (.inr (s4.1,s4.2.1)))
def Yz (p0:List Int):Tre (List Int):=
 .mat (xP p0) fun r1=>
 .mat (aP iI (0,r1,0)) fun l16=>
 .ite (0≤(0:Int)∧(0:Int)≤l16.1∧l16.1≤(l16.2.length:Int))<|
 .ret ((l16.2.drop 0).take ((l16.1-0).toNat))
def ZO (p0:List Int):Option (List Int):=(Yz p0).run some
def arA (xs:List Int):Option (List Int):=agF (L6 62 xs) (aiV xs)
theorem acB(k c r:Nat)(hc:c≤62)(hr:r<2 ^ 62)(A B:List Nat)(hk:A.length=k)(hb:∀n∈A++r::B,n<2 ^ 62)(hl:(A++r::B).length≤1048576) :
  aP (mP (k:Int) ((A++r::B).length:Int) (c:Int)) (0,up (A++r::B))=some (up (A.map (gK c r)++r::B.map (gK c r))):=by
 have hkr:(A++r::B)[k]?=some r:=by rw [List.getElem?_append_right (by omega),hk];simp
 generalize hL:A++r::B=l at *
 have:=agh (step:=mP (k:Int) (l.length:Int) (c:Int)) (fun i x=>if i=k then x else gK c r x) l id (by
  intro i x hx
  have hi:i<l.length:=(List.getElem?_eq_some_iff.1 hx).1
  have hx2:=XO (abG (g:=fun i x=>if i=k then x else gK c r x) (i:=i) hx)
  rw [if_neg (Nat.lt_irrefl i)] at hx2
  have hr2:=XO (abG (g:=fun i x=>if i=k then x else gK c r x) (i:=i) hkr)
  simp only [if_true,ite_self] at hr2
  have hxb:=hb x (List.mem_of_getElem? hx)
  rw [←ajZ hx]
  generalize hP:xA (fun i x=>if i=k then x else gK c r x) i l=P at *
  have hset:(up P).set i (x:Int)=up P:=List.ext_getElem? fun j=>by
   rw [List.getElem?_set]
   by_cases hj:i=j
   ·subst hj;rw [if_pos rfl,hx2,if_pos (List.getElem?_eq_some_iff.1 hx2).1]
   ·rw [if_neg hj]
  unfold mP
  rw [Tre.aF]
  show cond (decide ((i:Int)<(l.length:Int))) _ _=_
  rw [show decide ((i:Int)<(l.length:Int))=true from by simpa using hi,cond_true,Tre.aF]
  show cond (!decide ((i:Int)=(k:Int))) _ _=_
  by_cases hik:i=k
  ·rw [show decide ((i:Int)=(k:Int))=true from decide_eq_true (by omega),Bool.not_true,cond_false,Tre.aK,aV (by omega),if_pos hik,←MI,hset]
  ·rw [show decide ((i:Int)=(k:Int))=false from decide_eq_false (by omega),Bool.not_false,cond_true,eG hx2,Tre.run_ite,if_pos (by omega),Tre.aF,if_neg hik]
   show cond (y7 (x:Int) (c:Int)) _ _=_
   rw [D6 (by omega) (by omega)]
   have he:gK c r x=cond (x.testBit c) (x^^^r) x:=rfl
   rw [he]
   cases x.testBit c
   ·rw [cond_false,Tre.aK,aV (by omega),cond_false,←MI,hset]
   ·rw [cond_true,eG hx2,eG hr2,eG hx2,Tre.aK,aV (by omega),lW (by omega) (by omega),Int.toNat_natCast,cond_true,←MI])
  (by
  unfold mP
  exact dY)
 rw [this,←hL,ahm (f:=gK c r) (g:=fun i x=>if i=k then x else gK c r x) (r:=r) (B:=B) hk (fun i x h=>if_neg h) (if_pos rfl)]
 rfl
theorem acD(orig:List Nat):∀(n c:Nat)(E:List (Nat×Nat))(R:List Nat),c+n=62→Inv orig c E R→E.length+R.length≤1048576→(∀x∈R,x<2 ^ 62)→(∀a∈E,a.2<2 ^ 62) →
  ∃(E' L:List Nat),aP iI ((E.length:Int),up (E.map (·.2)++R),(c:Int))=some ((E'.length:Int),up (E'++L))∧qQ orig E':=by
 intro n
 induction n with
 |zero=>
  intro c E R hc hI _ hR _
  have:c=62:=hc
  subst this
  refine ⟨E.map (·.2),R,fC ?_,hI.done fun x hx=>MK (hR x hx) (hI.low x hx)⟩
  unfold iI
  simp [Tre.aF,Tre.aK]
 |succ n ih=>
  intro c E R hc hI hl hR hEb
  have hcm:c<62:=by omega
  have hlen:(up (E.map (·.2)++R)).length=E.length+R.length:=by rw [kJ];simp
  by_cases hR0:R=[]
  ·subst hR0
   refine ⟨E.map (·.2),[],fC ?_,hI.done fun x hx=>by cases hx⟩
   unfold iI
   simp [Tre.aF,Tre.aK]
  have hRl:0<R.length:=List.length_pos_iff.2 hR0
  have hstep:∀E2 R2,Inv orig (c+1) E2 R2→E2.length+R2.length≤1048576→(∀x∈R2,x<2 ^ 62)→(∀a∈E2,a.2<2 ^ 62)→(iI ((E.length:Int),up (E.map (·.2)++R),(c:Int))).run some=some (.inl ((E2.length:Int),up (E2.map (·.2)++R2),((c+1:Nat):Int))) →
    ∃(E' L:List Nat),aP iI ((E.length:Int),up (E.map (·.2)++R),(c:Int))=some ((E'.length:Int),up (E'++L))∧qQ orig E':=by
   intro E2 R2 h1 h2 h3 h4 h5
   rw [iJ h5]
   exact ih (c+1) E2 R2 (by omega) h1 h2 h3 h4
  have hsub:((up (E.map (·.2)++R)).drop E.length).take (((E.length+R.length:Nat):Int)-(E.length:Int)).toNat=up R:=by
   rw [show (((E.length+R.length:Nat):Int)-(E.length:Int)).toNat=R.length from by omega]
   unfold up
   rw [List.map_append,List.drop_append_of_le_length (by simp),List.drop_of_length_le (by simp),List.nil_append,List.take_of_length_le (by simp)]
  have hfind:arG (up R) (c:Int)=some _:=wQ (by rw [kJ];simp;omega)
  have hw:aN .i64 ((c:Int)+1)=((c+1:Nat):Int):=aV (by omega)
  have hdec:decide ((c:Int)<62)=true:=by simp;omega
  have hdec2:decide ((E.length:Int)<((E.length+R.length:Nat):Int))=true:=by simp;omega
  rcases wu (fun x=>y7 x (c:Int)) (up R) 0 with ⟨h1,h2⟩|⟨j,x,h1,h2,h3⟩
  ·refine hstep E R (hI.skip fun x hx=>?_) hl hR hEb ?_
   ·have:=h2 (x:Int) (List.mem_map.2 ⟨x,hx,rfl⟩)
    have hxb:=hR x hx
    rwa [D6 (by omega) (by omega)] at this
   ·unfold iI
    dsimp only
    rw [hlen,Tre.aF,hdec,cond_true,Tre.aF,hdec2,cond_true,Tre.run_ite,if_pos (by omega),Int.toNat_natCast,hsub,ah (hfind.trans (by rw [h1])),Tre.aF]
    simp only [show decide ((-1:Int)<0)=true from rfl,cond_true,Tre.aK,hw]
  ·obtain ⟨r,hr1,rfl⟩:∃r:Nat,R[j]?=some r∧(r:Int)=x:=by
    simp only [up,List.getElem?_map,Option.map_eq_some_iff] at h1
    exact h1
   have hrm:r∈R:=List.mem_of_getElem? hr1
   have hrb:=hR r hrm
   rw [D6 (by omega) (by omega)] at h2
   rw [Nat.zero_add] at h3
   have hj:j<R.length:=(List.getElem?_eq_some_iff.1 hr1).1
   obtain ⟨y,R',rfl⟩:∃y R',R=y::R':=by
    cases R with
    |nil=>exact absurd rfl hR0
    |cons y R'=>exact ⟨y,R',rfl⟩
-- the rows behind the swap
   obtain ⟨B,hB,hB1,hB2,hBl⟩:∃B,((y::R').set 0 r).set j y=r::B∧(∀x∈B,x∈y::R')∧(∀x∈y::R',x=r∨x∈B)∧B.length=R'.length:=by
    cases j with
    |zero=>
     have hyr:y=r:=by simpa using hr1
     subst hyr
     exact ⟨R',by simp,fun x hx=>.tail _ hx,fun x hx=>by
      cases hx with
      |head=>exact .inl rfl
      |tail _ hx=>exact .inr hx,rfl⟩
    |succ j=>
     have hr1:R'[j]?=some r:=by simpa using hr1
     have hj':j<R'.length:=(List.getElem?_eq_some_iff.1 hr1).1
     refine ⟨R'.set j y,by simp,fun x hx=>?_,fun x hx=>?_,by simp⟩
     ·rcases List.mem_or_eq_of_mem_set hx with hx|rfl
      ·exact .tail _ hx
      ·exact .head _
     ·cases hx with
      |head=>exact .inr (List.mem_set hj' _)
      |tail _ hx=>
       obtain ⟨i,hi⟩:=List.getElem?_of_mem hx
       by_cases hij:j=i
       ·subst hij;rw [hr1] at hi;exact .inl (Option.some.inj hi).symm
       ·exact .inr (List.mem_of_getElem? (i:=i) (by rw [List.getElem?_set,if_neg hij,hi]))
   have hE2:((E.map fun a=>(a.1,gK c r a.2))++[(c,r)]).map (·.2)=(E.map (·.2)).map (gK c r)++[r]:=by simp [List.map_map,Function.comp_def]
   have hRB:(E.map (·.2)++r::B).length=E.length+(y::R').length:=by simp [hBl]
   have hall:∀x∈E.map (·.2)++r::B,x<2 ^ 62:=by
    intro x hx
    rcases List.mem_append.1 hx with hx|hx
    ·obtain ⟨a,ha,rfl⟩:=List.mem_map.1 hx;exact hEb a ha
    ·cases hx with
     |head=>exact hrb
     |tail _ hx=>exact hR x (hB1 x hx)
   refine hstep (E.map (fun a=>(a.1,gK c r a.2))++[(c,r)]) (B.map (gK c r)) (hI.step hrm h2 ?_ ?_) (by simp [hBl] at hl ⊢;omega) ?_ ?_ ?_
   ·intro z hz
    obtain ⟨x,hx,rfl⟩:=List.mem_map.1 hz
    exact .inr ⟨x,hB1 x hx,rfl⟩
   ·intro x hx
    rcases hB2 x hx with h|h
    ·exact .inl h
    ·exact .inr (List.mem_map.2 ⟨x,h,rfl⟩)
   ·intro z hz
    obtain ⟨x,hx,rfl⟩:=List.mem_map.1 hz
    exact Ov hrb (hR x (hB1 x hx))
   ·intro a ha
    rcases List.mem_append.1 ha with ha|ha
    ·obtain ⟨b,hb,rfl⟩:=List.mem_map.1 ha
     exact Ov hrb (hEb b hb)
    ·simp only [List.mem_singleton] at ha;subst ha;exact hrb
   ·have e1:=acB E.length c r (by omega) hrb (E.map (·.2)) B (by simp) hall (by rw [hRB];exact hl)
    have hkj:aN .i64 ((E.length:Int)+(j:Int))=((E.length+j:Nat):Int):=by rw [dh (by omega) (by omega)];omega
    have hat1:(up (E.map (·.2)++y::R'))[E.length+j]?=some (r:Int):=XO (by rw [List.getElem?_append_right (by simp)];simpa using hr1)
    have hat2:(up (E.map (·.2)++y::R'))[E.length]?=some (y:Int):=XO (by rw [List.getElem?_append_right (by simp)];simp)
    have hs1:(up (E.map (·.2)++y::R')).set E.length (r:Int)=up (E.map (·.2)++(y::R').set 0 r):=by
     rw [MI,List.set_append_right _ _ (by simp)]
     simp
    have hs2:(up (E.map (·.2)++(y::R').set 0 r)).set (E.length+j) (y:Int)=up (E.map (·.2)++r::B):=by
     rw [MI,List.set_append_right _ _ (by simp),←hB]
     simp
    have hat3:∃z,(up (E.map (·.2)++(y::R').set 0 r))[E.length+j]?=some z:=⟨_,List.getElem?_eq_getElem (by rw [kJ];simp at hj ⊢;omega)⟩
    obtain ⟨z,hat3⟩:=hat3
    have hlen3:((up (E.map (·.2)++r::B)).length:Int)=((E.map (·.2)++r::B).length:Int):=by rw [kJ]
    unfold iI
    dsimp only
    rw [hlen,Tre.aF,hdec,cond_true,Tre.aF,hdec2,cond_true,Tre.run_ite,if_pos (by omega),Int.toNat_natCast,hsub,ah (hfind.trans (by rw [h3])),Tre.aF]
    rw [show decide ((j:Int)<0)=false from by simp,cond_false,hkj,←hlen,eG hat1,ahJ hat2,ahJ hat2]
    rw [Int.toNat_natCast,hs1,ahJ hat3,hs2,hlen3,ah e1,Tre.aK,aV (by omega),hw,hE2]
    simp [List.append_assoc]
theorem acE(p0 y:List Int)(h:arA p0=some y):ZO p0=some y:=by
 obtain ⟨hl,rfl⟩:=wP h
 obtain ⟨ns,rfl,hlen,hb,hn⟩:=Y1 hl
 obtain ⟨E,L,h1,h2⟩:=acD ns 62 0 [] ns (by omega) (Inv.start ns) (by simpa using hlen) hb (fun a ha=>by cases ha)
 unfold ZO Yz
 have e1:xP (up ns)=some (up ns):=ahk (by rw [kJ];exact hlen)
 have h1:aP iI (0,up ns,0)=some ((E.length:Int),up (E++L)):=h1
 rw [ah e1,ah h1,Tre.run_ite,if_pos (by rw [kJ];simp;omega),Tre.aK]
 unfold aiV
 rw [hn,agO h2]
 simp [up]
def xu:Env:=⟨tau,[(61,mF),(125,aqt)],[]⟩
def Hq:Code:=(Try.f146.body).getD .skip
def J5 (sG:Int) (GN:Int) (xS:Int):(Int×(List Int))→St:=fun x=>bR [(0,(.ref (2,0) [])),(3,(.i sG)),(4,(.ptr (6,0) [])),(45,(.i GN)),(46,(.i x.1))] [((2,0),some ⟨false,.il,.own,x.2⟩),((6,0),some ⟨true,.n,.own,xS⟩)]
def Hr (sG:Int) (_:Int) (xS:Int):(List Int)→Ex×St:=fun x=>(.exit 2,bR [(0,(.ref (2,0) [])),(3,(.i sG)),(4,(.ptr (6,0) []))] [((2,0),some ⟨false,.il,.own,x⟩),((6,0),some ⟨true,.n,.own,xS⟩)])
def aaW (s:St):Tre (Ex×St):=
 fA (2,0) [] (s.tmps 0)<|
 aC true .n (s.tmps 3) fun d3=>
 dB (6,0) [] (s.tmps 4)<|
 aC true .n (s.tmps 45) fun d6=>
 aC true .n (s.tmps 46) fun d8=>
 aW false .il (s.roots (2,0)) fun m10 d11=>
 asM .own m10<|
 aW true .n (s.roots (6,0)) fun m13 d14=>
 asM .own m13<|
 .mat (aP (mP d3 d6 d14) (d8,d11)) fun x=>.ret (Hr d3 d6 d14 x)
def vK:bB:=⟨([0,3,4,45,46],[(2,0),(6,0)]),([0,3,4],[(2,0),(6,0)]),aaW⟩
def M4:(Int×(List Int)×Int)→St:=fun x=>bR [(0,(.ref (2,0) [])),(3,(.i x.1)),(4,(.ptr (6,0) []))] [((2,0),some ⟨false,.il,.own,x.2.1⟩),((6,0),some ⟨true,.n,.own,x.2.2⟩)]
def J6:(Int×(List Int))→Ex×St:=fun x=>(.exit 0,bR [(0,(.ref (2,0) [])),(3,(.i x.1))] [((2,0),some ⟨false,.il,.own,x.2⟩)])
def acC (s:St):Tre (Ex×St):=
 fA (2,0) [] (s.tmps 0)<|
 aC true .n (s.tmps 3) fun d3=>
 dB (6,0) [] (s.tmps 4)<|
 aW false .il (s.roots (2,0)) fun m6 d7=>
 asM .own m6<|
 aW true .n (s.roots (6,0)) fun m9 d10=>
 asM .own m9<|
 .mat (aP iI (d3,d7,d10)) fun x=>.ret (J6 x)
def yx:bB:=⟨([0,3,4],[(2,0),(6,0)]),([0,3],[(2,0)]),acC⟩
def BH:List (Nat×bB):=[(10,vK),(4,yx)]
theorem Us:∀(sG GN xS:Int)(x:(Int×(List Int)))(c:St→Option (Ex×St)),den xu BH (aU Hq 1) (J5 sG GN xS x) (bY vK.kp vK.kx c)=(mP sG GN xS x).run (bZ (J5 sG GN xS) (Hr sG GN xS) c):=fun _ _ _ _ _=>by
 kernel_rfl
theorem YA:bP xu BH (aU Hq 1) vK:=dw fun _ _ _=>kW<|aM fun _=>fT<|aM fun _=>aM fun _=>bN fun _ _=>tM<|bN fun _ _=>tM<|fun h _ e12 _ e9 e7 e5 e4 e2 e1=>bT (Us _ _ _) h (by subst_vars;exact aR rfl rfl ⟨e1,e2,e4,e5,e7,trivial⟩ ⟨e9,e12,trivial⟩)
theorem VX:∀(x:(Int×(List Int)×Int))(c:St→Option (Ex×St)),den xu BH (aU Hq 0) (M4 x) (bY yx.kp yx.kx c)=(iI x).run (bZ (M4) (J6) c):=fun _ _=>by
 kernel_rfl
theorem aaX:bP xu BH (aU Hq 0) yx:=dw fun _ _ _=>kW<|aM fun _=>fT<|bN fun _ _=>tM<|bN fun _ _=>tM<|fun h _ e8 _ e5 e4 e2 e1=>bT VX h (by subst_vars;exact aR rfl rfl ⟨e1,e2,e4,trivial⟩ ⟨e5,e8,trivial⟩)
def ai8:FnI:=fnI Try.f146 BH
def SG (_:Bool) (_:List Int):(List Int)→aA:=fun r=>⟨(.ref (1,0) []),[],[⟨false,.il,.own,r⟩]⟩
theorem ag3:∀(zp0:Bool)(p0:List Int),bI xu ai8 ⟨[(.imm zp0 .il p0)],[]⟩=(Yz p0).run fun r=>some (SG zp0 p0 r):=fun _ _=>by kernel_rfl
def ai7 (av:List AV) (rs:List Root):Tre aA:=
 aB av fun a0_ av0=>
 aL av0<|
 aL rs<|
 bE .il a0_ fun z2 d1=>
 .mat (arA d1) fun r=>.ret (SG z2 d1 r)
def ZP:Ctr:=dD [] ai7
theorem ag4:Contract Try.prog .none 146 ZP:=aD (V:=xu) aT (ak qm apY (ak asn alu aI)) Try.func146 (bJ (n:=2) fun k hk=>by
 match k,hk with
 |0,_=>exact bM (id:=4) aaX
 |1,_=>exact bM (id:=10) YA) fun _ _ _=>aH fun _ _=>bn<|bn<|dI fun _ _=>fun h=>by intros;subst_vars;exact Am (ag3 _ _) (acE _) h
def acG (p0:List Int):Tre Int:=
 .mat (arA p0) fun r1=>
 .ret (r1.length:Int)
def oK (p0:List Int):Option Int:=(acG p0).run some
-- more
theorem ahe{f:TF3}(hf:aO f=true){L:List Nat}(h:inL (FOf f hf) L)(hl:L.length≤1000):oK (Wd L)=some (rkN L:Int):=by
 have h5:=(VD hf).2
 unfold oK acG
 rw [ah (show arA (Wd L)=some _ from wQ (alS hf h hl (by omega))),Tre.aK,atJ]
def acH:Env:=⟨tau,[(146,ZP),(163,ru)],[]⟩
def alL:FnI:=fnI Try.f107 []
def VZ (_:Bool) (_:List Int):Int→aA:=fun r=>⟨(.i r),[],[]⟩
theorem ajb:∀(zp0:Bool)(p0:List Int),bI acH alL ⟨[(.imm zp0 .il p0)],[]⟩=(acG p0).run fun r=>some (VZ zp0 p0 r):=fun _ _=>by kernel_rfl
def alK (av:List AV) (rs:List Root):Tre aA:=
 aB av fun a0_ av0=>
 aL av0<|
 aL rs<|
 bE .il a0_ fun z2 d1=>
 .mat (oK d1) fun r=>.ret (VZ z2 d1 r)
def LA:Ctr:=dD [] alK
theorem O7:Contract Try.prog .none 107 LA:=aD (V:=acH) aT (ak ag4 aum (ak vL agT aI)) Try.func107 bF fun _ _ _=>aH fun _ _=>bn<|bn<|dI fun _ _=>fun h=>by intros;subst_vars;exact bg (ajb _ _) h
def qg (p0:List Int) (p1:List Int) (p2:Int) (p3:(List (List Int))):Tre (Int×(List (List Int))):=
 .mat (zQ p0 p1) fun r1=>
 .mat (oK r1) fun r2=>
 .cond (decide (p2<0))
  (.cond (decide (r2=r2))
   (.ret (r2,[p0]))
   (.ret (r2,[])))
  (.cond (decide (r2<p2))
   (.cond (decide (r2=r2))
    (.ret (r2,[p0]))
    (.ret (r2,[])))
   (.cond (decide (r2=p2))
    (.ite ((p3.length+1)*24≤bS∧1≤24)<|
    .ret (p2,p3++([p0])))
    (.ret (p2,p3))))
def jO (p0:List Int) (p1:List Int) (p2:Int) (p3:(List (List Int))):Option (Int×(List (List Int))):=(qg p0 p1 p2 p3).run some
def wV:Env:=⟨tau,[(108,QU),(107,LA)],[(3,[((0,2),[],true)])]⟩
def JM:FnI:=fnI Try.f106 []
def tZ (_:List Int) (p1:List Int) (_:Int) (_:(List (List Int))):(Int×(List (List Int)))→aA:=fun r=>⟨.tnil,[⟨true,.il,(.imm true),p1⟩,⟨true,.n,.own,r.1⟩,⟨true,(.sl .il),(.sl (.imm true)),r.2⟩],[]⟩
theorem IL:∀(p0 p1:List Int)(p2:Int)(p3:(List (List Int))),bI wV JM ⟨[(.imm true .il p0),(.ptr (0,0) []),(.ptr (0,1) []),(.ptr (0,2) [])],[⟨true,.il,(.imm true),p1⟩,⟨true,.n,.own,p2⟩,⟨true,(.sl .il),(.sl (.imm true)),p3⟩]⟩=(qg p0 p1 p2 p3).run fun r=>some (tZ p0 p1 p2 p3 r):=fun _ _ _ _=>by kernel_rfl
def JL (av:List AV) (rs:List Root):Tre aA:=
 aB av fun a0_ av0=>
 aB av0 fun a1_ av1=>
 aB av1 fun a2_ av2=>
 aB av2 fun a3_ av3=>
 aL av3<|
 aB rs fun r0_ rs0=>
 aB rs0 fun r1_ rs1=>
 aB rs1 fun r2_ rs2=>
 aL rs2<|
 aC true .il a0_ fun d1=>
 dB (0,0) [] a1_<|
 dB (0,1) [] a2_<|
 dB (0,2) [] a3_<|
 gH true .il r0_ fun m2 d3=>
 asM (.imm true) m2<|
 gH true .n r1_ fun m4 d5=>
 asM .own m4<|
 gH true (.sl .il) r2_ fun m6 d7=>
 asM (.sl (.imm true)) m6<|
 .mat (jO d1 d3 d5 d7) fun r=>.ret (tZ d1 d3 d5 d7 r)
def wW:Ctr:=dD [] JL
theorem IQ:Contract Try.prog .none 106 wW:=aD (V:=wV) aT (ak Uq alq (ak O7 alp aI)) Try.func106 bF fun _ _ _=>aH fun _ _=>aH fun _ _=>aH fun _ _=>aH fun _ _=>bn<|aH fun _ _=>aH fun _ _=>aH fun _ _=>bn<|aM fun _=>fT<|fT<|fT<|tRt fun _ _=>tM<|tRt fun _ _=>tM<|tRt fun _ _=>tM<|fun h=>by intros;subst_vars;exact bg (IL _ _ _ _) h
def oD (p0:List Int) (p1:au) (p2:List Int) (p3:Int) (p4:(List (List Int))):Tre (Int×(List (List Int))):=
 .mat (jC p1 p0) fun r1=>
 .mat (jO r1 p2 p3 p4) fun r2=>
 .ret (r2.1,r2.2)
def eD (p0:List Int) (p1:au) (p2:List Int) (p3:Int) (p4:(List (List Int))):Option (Int×(List (List Int))):=(oD p0 p1 p2 p3 p4).run some
def uQ:Env:=⟨tau,[(115,q9),(106,wW)],[]⟩
def IV:FnI:=fnI Try.f165 []
def qZ (_:Bool) (_:List Int) (p1:au) (p2:List Int) (_:Int) (_:(List (List Int))):(Int×(List (List Int)))→aA:=fun r=>⟨.tnil,[⟨true,.fn,.own,(some (106,[(0,2),(0,3),(0,4)]):Option (Nat×List ay))⟩,⟨true,aG,(.imm true),p1⟩,⟨true,.il,(.imm true),p2⟩,⟨true,.n,.own,r.1⟩,⟨true,(.sl .il),(.sl (.imm true)),r.2⟩],[]⟩
theorem Gl:∀(zp0:Bool)(p0:List Int)(p1:au)(p2:List Int)(p3:Int)(p4:(List (List Int))),bI uQ IV ⟨[(.imm zp0 .il p0),(.ptr (0,0) []),(.ptr (0,1) [])],[⟨true,.fn,.own,(some (106,[(0,2),(0,3),(0,4)]):Option (Nat×List ay))⟩,⟨true,aG,(.imm true),p1⟩,⟨true,.il,(.imm true),p2⟩,⟨true,.n,.own,p3⟩,⟨true,(.sl .il),(.sl (.imm true)),p4⟩]⟩=(oD p0 p1 p2 p3 p4).run fun r=>some (qZ zp0 p0 p1 p2 p3 p4 r):=fun _ _ _ _ _ _=>by kernel_rfl
def IU (av:List AV) (rs:List Root):Tre aA:=
 aB av fun a0_ av0=>
 aB av0 fun a1_ av1=>
 aB av1 fun a2_ av2=>
 aL av2<|
 aB rs fun r0_ rs0=>
 aB rs0 fun r1_ rs1=>
 aB rs1 fun r2_ rs2=>
 aB rs2 fun r3_ rs3=>
 aB rs3 fun r4_ rs4=>
 aL rs4<|
 bE .il a0_ fun z2 d1=>
 dB (0,0) [] a1_<|
 dB (0,1) [] a2_<|
 gH true .fn r0_ fun m3 d4=>
 asM .own m3<|
 asD d4 (some (106,[(0,2),(0,3),(0,4)]):Option (Nat×List ay))<|
 gH true aG r1_ fun m5 d6=>
 asM (.imm true) m5<|
 gH true .il r2_ fun m7 d8=>
 asM (.imm true) m7<|
 gH true .n r3_ fun m9 d10=>
 asM .own m9<|
 gH true (.sl .il) r4_ fun m11 d12=>
 asM (.sl (.imm true)) m11<|
 .mat (eD d1 d6 d8 d10 d12) fun r=>.ret (qZ z2 d1 d6 d8 d10 d12 r)
def uR:Ctr:=dD [] IU
theorem Gm:Contract Try.prog .none 165 uR:=aD (V:=uQ) aT (ak zk alr (ak IQ atZ aI)) Try.func165 bF fun _ _ _=>aH fun _ _=>aH fun _ _=>aH fun _ _=>bn<|aH fun _ _=>aH fun _ _=>aH fun _ _=>aH fun _ _=>aH fun _ _=>bn<|dI fun _ _=>fT<|fT<|tRt fun _ _=>tM<|tD<|tRt fun _ _=>tM<|tRt fun _ _=>tM<|tRt fun _ _=>tM<|tRt fun _ _=>tM<|fun h=>by intros;subst_vars;exact bg (Gl _ _ _ _ _ _) h
def HY (IE:(Int×(Int×Unit))):(Int×(List Int))→Tre ((Int×(List Int)) ⊕ (Int×(List Int))):=fun s4=>
 .cond (decide (s4.1 ≥ 0))
  (.ite (0≤s4.1∧s4.1<(s4.2.length:Int))<|
  .mat (s4.2[s4.1.toNat]?) fun x2=>
  .mat (dN IE) fun r3=>
  .cond (decide (x2=aN .i64 (r3-1)))
   (.ite (0≤s4.1∧s4.1<(s4.2.length:Int))<|
   .mat (s4.2[s4.1.toNat]?) fun _=>
   let v5:=s4.2.set s4.1.toNat 0
   .ret (.inl (aN .i64 (s4.1-1),v5)))
   (.ret (.inr (s4.1,s4.2))))
  (.ret (.inr (s4.1,s4.2)))
def Wz (aY:Int) (bq:au) (dx:List Int) (uD:(Int×(Int×Unit))):(Int×(List (List Int))×(List Int))→Tre ((Int×(List (List Int))×(List Int)) ⊕ (Int×(List (List Int)))):=fun s2=>
 .mat (eD s2.2.2 bq dx s2.1 s2.2.1) fun r1=>
 .mat (aP (HY uD) (aN .i64 (aY-1),s2.2.2)) fun l6=>
 .cond (decide (l6.1<0))
  (.ret (.inr (r1.1,r1.2)))
  (.ite (0≤l6.1∧l6.1<(l6.2.length:Int))<|
  .mat (l6.2[l6.1.toNat]?) fun x7=>
  .ite (0≤l6.1∧l6.1<(l6.2.length:Int))<|
  .mat (l6.2[l6.1.toNat]?) fun _=>
  let v9:=l6.2.set l6.1.toNat (aN .i64 (x7+1))
  .ret (.inl (r1.1,r1.2,v9)))
def auY (p0:(Int×(Int×Unit))) (p1:Int) (p2:au) (p3:List Int) (p4:Int) (p5:(List (List Int))):Tre (Int×(List (List Int))):=
 .ite ((.n:K)=.n∧0≤p1∧p1=p1∧p1*(8:Nat)≤140737488355328∧1≤8)<|
 .mat (aP (Wz p1 p2 p3 p0) (p4,p5,List.replicate p1.toNat (0:Int))) fun l10=>
 .ret (l10.1,l10.2)
def aho (p0:(Int×(Int×Unit))) (p1:Int) (p2:au) (p3:List Int) (p4:Int) (p5:(List (List Int))):Option (Int×(List (List Int))):=(auY p0 p1 p2 p3 p4 p5).run some
def YO:Env:=⟨tau,[(165,uR),(142,lH)],[]⟩
def ahp:Code:=(Try.f75.body).getD .skip
def ado (aX:Int) (eO:au) (kS:List Int) (fI:Int) (p9:(List (List Int))) (IE:(Int×(Int×Unit))):(Int×(List Int))→St:=fun x=>bR [(1,(.i aX)),(2,(.fn 165 [(0,0),(0,1)])),(3,(.ptr (5,0) [])),(6,(.ref (8,0) [])),(7,(.i x.1))] [((0,0),some ⟨true,.fn,.own,(some (106,[(0,2),(0,3),(0,4)]):Option (Nat×List ay))⟩),((0,1),some ⟨true,aG,(.imm true),eO⟩),((0,2),some ⟨true,.il,(.imm true),kS⟩),((0,3),some ⟨true,.n,.own,fI⟩),((0,4),some ⟨true,(.sl .il),(.sl (.imm true)),p9⟩),((5,0),some ⟨true,aJ,.own,IE⟩),((8,0),some ⟨false,.il,.own,x.2⟩)]
def Z5 (aX:Int) (eO:au) (kS:List Int) (fI:Int) (p9:(List (List Int))) (IE:(Int×(Int×Unit))):(Int×(List Int))→Ex×St:=fun x=>(.exit 2,bR [(1,(.i aX)),(2,(.fn 165 [(0,0),(0,1)])),(3,(.ptr (5,0) [])),(6,(.ref (8,0) [])),(7,(.i x.1))] [((0,0),some ⟨true,.fn,.own,(some (106,[(0,2),(0,3),(0,4)]):Option (Nat×List ay))⟩),((0,1),some ⟨true,aG,(.imm true),eO⟩),((0,2),some ⟨true,.il,(.imm true),kS⟩),((0,3),some ⟨true,.n,.own,fI⟩),((0,4),some ⟨true,(.sl .il),(.sl (.imm true)),p9⟩),((5,0),some ⟨true,aJ,.own,IE⟩),((8,0),some ⟨false,.il,.own,x.2⟩)])
def aor (s:St):Tre (Ex×St):=
 aC true .n (s.tmps 1) fun d2=>
 vW 165 [(0,0),(0,1)] (s.tmps 2)<|
 dB (5,0) [] (s.tmps 3)<|
 fA (8,0) [] (s.tmps 6)<|
 aC true .n (s.tmps 7) fun d7=>
 aW true .fn (s.roots (0,0)) fun m9 d10=>
 asM .own m9<|
 asD d10 (some (106,[(0,2),(0,3),(0,4)]):Option (Nat×List ay))<|
 aW true aG (s.roots (0,1)) fun m12 d13=>
 asM (.imm true) m12<|
 aW true .il (s.roots (0,2)) fun m15 d16=>
 asM (.imm true) m15<|
 aW true .n (s.roots (0,3)) fun m18 d19=>
 asM .own m18<|
 aW true (.sl .il) (s.roots (0,4)) fun m21 d22=>
 asM (.sl (.imm true)) m21<|
 aW true aJ (s.roots (5,0)) fun m24 d25=>
 asM .own m24<|
 aW false .il (s.roots (8,0)) fun m27 d28=>
 asM .own m27<|
 .mat (aP (HY d25) (d7,d28)) fun x=>.ret (Z5 d2 d13 d16 d19 d22 d25 x)
def Q8:bB:=⟨([1,2,3,6,7],[(0,0),(0,1),(0,2),(0,3),(0,4),(5,0),(8,0)]),([1,2,3,6,7],[(0,0),(0,1),(0,2),(0,3),(0,4),(5,0),(8,0)]),aor⟩
def adn (aY:Int) (bq:au) (dx:List Int) (uD:(Int×(Int×Unit))):(Int×(List (List Int))×(List Int))→St:=fun x=>bR [(1,(.i aY)),(2,(.fn 165 [(0,0),(0,1)])),(3,(.ptr (5,0) [])),(6,(.ref (8,0) []))] [((0,0),some ⟨true,.fn,.own,(some (106,[(0,2),(0,3),(0,4)]):Option (Nat×List ay))⟩),((0,1),some ⟨true,aG,(.imm true),bq⟩),((0,2),some ⟨true,.il,(.imm true),dx⟩),((0,3),some ⟨true,.n,.own,x.1⟩),((0,4),some ⟨true,(.sl .il),(.sl (.imm true)),x.2.1⟩),((5,0),some ⟨true,aJ,.own,uD⟩),((8,0),some ⟨false,.il,.own,x.2.2⟩)]
def Z4 (_:Int) (bq:au) (dx:List Int) (_:(Int×(Int×Unit))):(Int×(List (List Int)))→Ex×St:=fun x=>(.ret,bR [] [((0,0),some ⟨true,.fn,.own,(some (106,[(0,2),(0,3),(0,4)]):Option (Nat×List ay))⟩),((0,1),some ⟨true,aG,(.imm true),bq⟩),((0,2),some ⟨true,.il,(.imm true),dx⟩),((0,3),some ⟨true,.n,.own,x.1⟩),((0,4),some ⟨true,(.sl .il),(.sl (.imm true)),x.2⟩)])
def aoq (s:St):Tre (Ex×St):=
 aC true .n (s.tmps 1) fun d2=>
 vW 165 [(0,0),(0,1)] (s.tmps 2)<|
 dB (5,0) [] (s.tmps 3)<|
 fA (8,0) [] (s.tmps 6)<|
 aW true .fn (s.roots (0,0)) fun m7 d8=>
 asM .own m7<|
 asD d8 (some (106,[(0,2),(0,3),(0,4)]):Option (Nat×List ay))<|
 aW true aG (s.roots (0,1)) fun m10 d11=>
 asM (.imm true) m10<|
 aW true .il (s.roots (0,2)) fun m13 d14=>
 asM (.imm true) m13<|
 aW true .n (s.roots (0,3)) fun m16 d17=>
 asM .own m16<|
 aW true (.sl .il) (s.roots (0,4)) fun m19 d20=>
 asM (.sl (.imm true)) m19<|
 aW true aJ (s.roots (5,0)) fun m22 d23=>
 asM .own m22<|
 aW false .il (s.roots (8,0)) fun m25 d26=>
 asM .own m25<|
 .mat (aP (Wz d2 d11 d14 d23) (d17,d20,d26)) fun x=>.ret (Z4 d2 d11 d14 d23 x)
def Q7:bB:=⟨([1,2,3,6],[(0,0),(0,1),(0,2),(0,3),(0,4),(5,0),(8,0)]),([],[(0,0),(0,1),(0,2),(0,3),(0,4)]),aoq⟩
def adl:List (Nat×bB):=[(4,Q8),(2,Q7)]
theorem ahr:∀(aX:Int)(eO:au)(kS:List Int)(fI:Int)(p9:(List (List Int)))(IE:(Int×(Int×Unit)))(x:(Int×(List Int)))(c:St→Option (Ex×St)),den YO adl (aU ahp 1) (ado aX eO kS fI p9 IE x) (bY Q8.kp Q8.kx c)=(HY IE x).run (bZ (ado aX eO kS fI p9 IE) (Z5 aX eO kS fI p9 IE) c):=fun _ _ _ _ _ _ _ _=>by
 kernel_rfl
theorem al7:bP YO adl (aU ahp 1) Q8:=dw fun _ _ _=>aM fun _=>tFn<|fT<|kW<|aM fun _=>bN fun _ _=>tM<|tD<|bN fun _ _=>tM<|bN fun _ _=>tM<|bN fun _ _=>tM<|bN fun _ _=>tM<|bN fun _ _=>tM<|bN fun _ _=>tM<|fun h _ e26 _ e23 _ e20 _ e17 _ e14 _ e11 _ _ e8 e6 e5 e4 e3 e1=>bT (ahr _ _ _ _ _ _) h (by subst_vars;exact aR rfl rfl ⟨e1,e3,e4,e5,e6,trivial⟩ ⟨e8,e11,e14,e17,e20,e23,e26,trivial⟩)
theorem ahq:∀(aY:Int)(bq:au)(dx:List Int)(uD:(Int×(Int×Unit)))(x:(Int×(List (List Int))×(List Int)))(c:St→Option (Ex×St)),den YO adl (aU ahp 0) (adn aY bq dx uD x) (bY Q7.kp Q7.kx c)=(Wz aY bq dx uD x).run (bZ (adn aY bq dx uD) (Z4 aY bq dx uD) c):=fun _ _ _ _ _ _=>by
 kernel_rfl
theorem al6:bP YO adl (aU ahp 0) Q7:=dw fun _ _ _=>aM fun _=>tFn<|fT<|kW<|bN fun _ _=>tM<|tD<|bN fun _ _=>tM<|bN fun _ _=>tM<|bN fun _ _=>tM<|bN fun _ _=>tM<|bN fun _ _=>tM<|bN fun _ _=>tM<|fun h _ e24 _ e21 _ e18 _ e15 _ e12 _ e9 _ _ e6 e5 e4 e3 e1=>bT (ahq _ _ _ _) h (by subst_vars;exact aR rfl rfl ⟨e1,e3,e4,e5,trivial⟩ ⟨e6,e9,e12,e15,e18,e21,e24,trivial⟩)
def au0:FnI:=fnI Try.f75 adl
def ajG (_:(Int×(Int×Unit))) (_:Int) (p2:au) (p3:List Int) (_:Int) (_:(List (List Int))):(Int×(List (List Int)))→aA:=fun r=>⟨.tnil,[⟨true,.fn,.own,(some (106,[(0,2),(0,3),(0,4)]):Option (Nat×List ay))⟩,⟨true,aG,(.imm true),p2⟩,⟨true,.il,(.imm true),p3⟩,⟨true,.n,.own,r.1⟩,⟨true,(.sl .il),(.sl (.imm true)),r.2⟩],[]⟩
theorem asg:∀(p0:(Int×(Int×Unit)))(p1:Int)(p2:au)(p3:List Int)(p4:Int)(p5:(List (List Int))),bI YO au0 ⟨[(.imm true aJ p0),(.i p1),(.fn 165 [(0,0),(0,1)])],[⟨true,.fn,.own,(some (106,[(0,2),(0,3),(0,4)]):Option (Nat×List ay))⟩,⟨true,aG,(.imm true),p2⟩,⟨true,.il,(.imm true),p3⟩,⟨true,.n,.own,p4⟩,⟨true,(.sl .il),(.sl (.imm true)),p5⟩]⟩=(auY p0 p1 p2 p3 p4 p5).run fun r=>some (ajG p0 p1 p2 p3 p4 p5 r):=fun _ _ _ _ _ _=>by kernel_rfl
def auZ (av:List AV) (rs:List Root):Tre aA:=
 aB av fun a0_ av0=>
 aB av0 fun a1_ av1=>
 aB av1 fun a2_ av2=>
 aL av2<|
 aB rs fun r0_ rs0=>
 aB rs0 fun r1_ rs1=>
 aB rs1 fun r2_ rs2=>
 aB rs2 fun r3_ rs3=>
 aB rs3 fun r4_ rs4=>
 aL rs4<|
 aC true aJ a0_ fun d1=>
 aC true .n a1_ fun d2=>
 vW 165 [(0,0),(0,1)] a2_<|
 gH true .fn r0_ fun m3 d4=>
 asM .own m3<|
 asD d4 (some (106,[(0,2),(0,3),(0,4)]):Option (Nat×List ay))<|
 gH true aG r1_ fun m5 d6=>
 asM (.imm true) m5<|
 gH true .il r2_ fun m7 d8=>
 asM (.imm true) m7<|
 gH true .n r3_ fun m9 d10=>
 asM .own m9<|
 gH true (.sl .il) r4_ fun m11 d12=>
 asM (.sl (.imm true)) m11<|
 .mat (aho d1 d2 d6 d8 d10 d12) fun r=>.ret (ajG d1 d2 d6 d8 d10 d12 r)
def aqo:Ctr:=dD [] auZ
theorem ash:Contract Try.prog .none 75 aqo:=aD (V:=YO) aT (ak Gm apQ (ak nD ab9 aI)) Try.func75 (bJ (n:=2) fun k hk=>by
 match k,hk with
 |0,_=>exact bM (id:=2) al6
 |1,_=>exact bM (id:=4) al7) fun _ _ _=>aH fun _ _=>aH fun _ _=>aH fun _ _=>bn<|aH fun _ _=>aH fun _ _=>aH fun _ _=>aH fun _ _=>aH fun _ _=>bn<|aM fun _=>aM fun _=>tFn<|tRt fun _ _=>tM<|tD<|tRt fun _ _=>tM<|tRt fun _ _=>tM<|tRt fun _ _=>tM<|tRt fun _ _=>tM<|fun h=>by intros;subst_vars;exact bg (asg _ _ _ _ _ _) h
def nm8 (p0:au) (p1:List Int) (p2:Int) (p3:(List (List Int))):Tre (Int×(List (List Int))):=
 .mat (aho p0.1 (p0.2.2.1.length:Int) p0 p1 p2 p3) fun r1=>
 .ret (r1.1,r1.2)
def ajW (p0:au) (p1:List Int) (p2:Int) (p3:(List (List Int))):Option (Int×(List (List Int))):=(nm8 p0 p1 p2 p3).run some
def atD:Env:=⟨tau,[(75,aqo)],[]⟩
def awE:FnI:=fnI Try.f105 []
def ant (_:au) (p1:List Int) (_:Int) (_:(List (List Int))):(Int×(List (List Int)))→aA:=fun r=>⟨.tnil,[⟨true,.il,(.imm true),p1⟩,⟨true,.n,.own,r.1⟩,⟨true,(.sl .il),(.sl (.imm true)),r.2⟩],[]⟩
theorem avr:∀(p0:au)(p1:List Int)(p2:Int)(p3:(List (List Int))),bI atD awE ⟨[(.imm true aG p0),(.fn 106 [(0,0),(0,1),(0,2)])],[⟨true,.il,(.imm true),p1⟩,⟨true,.n,.own,p2⟩,⟨true,(.sl .il),(.sl (.imm true)),p3⟩]⟩=(nm8 p0 p1 p2 p3).run fun r=>some (ant p0 p1 p2 p3 r):=fun _ _ _ _=>by kernel_rfl
def awD (av:List AV) (rs:List Root):Tre aA:=
 aB av fun a0_ av0=>
 aB av0 fun a1_ av1=>
 aL av1<|
 aB rs fun r0_ rs0=>
 aB rs0 fun r1_ rs1=>
 aB rs1 fun r2_ rs2=>
 aL rs2<|
 aC true aG a0_ fun d1=>
 vW 106 [(0,0),(0,1),(0,2)] a1_<|
 gH true .il r0_ fun m2 d3=>
 asM (.imm true) m2<|
 gH true .n r1_ fun m4 d5=>
 asM .own m4<|
 gH true (.sl .il) r2_ fun m6 d7=>
 asM (.sl (.imm true)) m6<|
 .mat (ajW d1 d3 d5 d7) fun r=>.ret (ant d1 d3 d5 d7 r)
def atE:Ctr:=dD [] awD
theorem avt:Contract Try.prog .none 105 atE:=aD (V:=atD) aT (ak ash ap0 aI) Try.func105 bF fun _ _ _=>aH fun _ _=>aH fun _ _=>bn<|aH fun _ _=>aH fun _ _=>aH fun _ _=>bn<|aM fun _=>tFn<|tRt fun _ _=>tM<|tRt fun _ _=>tM<|tRt fun _ _=>tM<|fun h=>by intros;subst_vars;exact bg (avr _ _ _ _) h
-- shared
def je{α:Type}(d:α→Int)(s:Int×List α)(x:α):Int×List α:=if s.1<0∨d x<s.1 then (d x,[x]) else if d x=s.1 then (s.1,s.2++[x]) else s
def BO{α:Type}(d:α→Int)(l:List α):Int×List α:=l.foldl (je d) (-1,[])
theorem aql{α:Type}{d:α→Int}(h0:∀x,0≤d x):∀(l pre:List α)(s:Int×List α),(∃x∈pre,d x=s.1)→(∀x∈pre,s.1≤d x)→s.2=pre.filter (fun x=>decide (d x=s.1)) →
  (∃x∈pre++l,d x=(l.foldl (je d) s).1)∧(∀x∈pre++l,(l.foldl (je d) s).1≤d x)∧(l.foldl (je d) s).2=(pre++l).filter (fun x=>decide (d x=(l.foldl (je d) s).1)):=by
 intro l
 induction l with
 |nil=>intro pre s h1 h2 h3;simpa using ⟨h1,h2,h3⟩
 |cons y l ih=>
  intro pre s h1 h2 h3
  have hs0:0≤s.1:=by obtain ⟨x,_,hx⟩:=h1;rw [←hx];exact h0 x
  have:=ih (pre++[y]) (je d s y)
  rw [List.append_assoc] at this
  refine this ?_ ?_ ?_
  ·unfold je
   by_cases hlt:d y<s.1
   ·rw [if_pos (.inr hlt)];exact ⟨y,by simp,rfl⟩
   ·rw [if_neg (by omega)]
    obtain ⟨x,hx,he⟩:=h1
    by_cases heq:d y=s.1
    ·rw [if_pos heq];exact ⟨x,List.mem_append_left _ hx,he⟩
    ·rw [if_neg heq];exact ⟨x,List.mem_append_left _ hx,he⟩
  ·intro x hx
   rcases List.mem_append.1 hx with hx|hx
   ·have:=h2 x hx
    unfold je
    by_cases hlt:d y<s.1
    ·rw [if_pos (.inr hlt)];show d y≤d x;omega
    ·rw [if_neg (by omega)]
     by_cases heq:d y=s.1
     ·rw [if_pos heq];exact this
     ·rw [if_neg heq];exact this
   ·rw [List.mem_singleton] at hx
    subst hx
    unfold je
    by_cases hlt:d x<s.1
    ·rw [if_pos (.inr hlt)];exact Int.le_refl _
    ·rw [if_neg (by omega)]
     by_cases heq:d x=s.1
     ·rw [if_pos heq];show s.1≤d x;omega
     ·rw [if_neg heq];show s.1≤d x;omega
  ·unfold je
   by_cases hlt:d y<s.1
   ·rw [if_pos (.inr hlt)]
    show [y]=(pre++[y]).filter fun x=>decide (d x=d y)
    rw [List.filter_append]
    have:pre.filter (fun x=>decide (d x=d y))=[]:=List.filter_eq_nil_iff.2 fun x hx=>by
     have:=h2 x hx
     rw [decide_eq_true_eq];omega
    rw [this];simp
   ·rw [if_neg (by omega)]
    by_cases heq:d y=s.1
    ·rw [if_pos heq]
     show s.2++[y]=(pre++[y]).filter fun x=>decide (d x=s.1)
     rw [List.filter_append,←h3];simp [heq]
    ·rw [if_neg heq]
     show s.2=(pre++[y]).filter fun x=>decide (d x=s.1)
     rw [List.filter_append,←h3];simp [heq]
theorem am3{α:Type}{d:α→Int}(h0:∀x,0≤d x){l:List α}(hl:l≠[]):(∃x∈l,d x=(BO d l).1)∧(∀x∈l,(BO d l).1≤d x)∧(BO d l).2=l.filter (fun x=>decide (d x=(BO d l).1)):=by
 obtain ⟨y,l,rfl⟩:=List.exists_cons_of_ne_nil hl
 have hs:je d (-1,[]) y=(d y,[y]):=by unfold je;rw [if_pos (.inl (by show (-1:Int)<0;decide))]
 have:=aql h0 l [y] (d y,[y]) ⟨y,by simp,rfl⟩ (fun x hx=>by rw [List.mem_singleton] at hx;subst hx;exact Int.le_refl _) (by simp)
 unfold BO
 rw [List.foldl_cons,hs]
 exact this
theorem aqn{α:Type}{d:α→Int}{b:Int}(_:0≤b){l:List α}(hl:l≠[])(hd:∀x∈l,d x<b):l.foldl (je d) (b,[])=BO d l:=by
 obtain ⟨y,l,rfl⟩:=List.exists_cons_of_ne_nil hl
 unfold BO
 rw [List.foldl_cons,List.foldl_cons]
 congr 1
 unfold je
 rw [if_pos (.inr (hd y (.head _))),if_pos (.inl (by show (-1:Int)<0;decide))]
def eZ (c:TRC) (w:List Nat) (m:List Int):Int:=(rkN (xK (su c m) w):Int)
theorem QK(c:TRC)(w:List Nat)(m:List Int):0≤eZ c w m:=by unfold eZ;omega
theorem filter_one{α:Type}{p:α→Bool}{a:α}:∀{l:List α},l.Nodup→a∈l→(∀x∈l,p x=true↔x=a)→l.filter p=[a]:=by
 intro l
 induction l with
 |nil=>intro _ h;cases h
 |cons x l ih=>
  intro hn ha hp
  obtain ⟨hx,hn⟩:=List.nodup_cons.1 hn
  rcases List.mem_cons.1 ha with rfl|ha
  ·have:l.filter p=[]:=List.filter_eq_nil_iff.2 fun y hy hpy=>by
    have:=(hp y (.tail _ hy)).1 hpy
    subst this;exact hx hy
   rw [List.filter_cons,if_pos ((hp a (.head _)).2 rfl),this]
  ·have hxa:¬p x=true:=fun h=>by
    have:=(hp x (.head _)).1 h
    subst this;exact hx ha
   rw [List.filter_cons,if_neg hxa]
   exact ih hn ha fun y hy=>hp y (.tail _ hy)
def Em (p0:(Int×(Int×Unit))) (p1:List Int):Tre Bool:=
 let v1:=inR (p1.length:Int) 1 5
 .cond v1
  (.mat (pX p0 p1) fun r2=>
  .ret r2)
  (.ret false)
def sJ (p0:(Int×(Int×Unit))) (p1:List Int):Option Bool:=(Em p0 p1).run some
def JA:Env:=⟨tau,[(163,ru),(57,ER),(98,AA)],[]⟩
def Yl:FnI:=fnI Try.f171 []
def En (_:Bool) (_:(Int×(Int×Unit))) (_:List Int):Bool→aA:=fun r=>⟨(.imm true .bool r),[],[]⟩
theorem VI:∀(zp0:Bool)(p0:(Int×(Int×Unit)))(p1:List Int),bI JA Yl ⟨[(.imm true aJ p0),(.imm zp0 .il p1)],[]⟩=(Em p0 p1).run fun r=>some (En zp0 p0 p1 r):=fun _ _ _=>by kernel_rfl
def Yk (av:List AV) (rs:List Root):Tre aA:=
 aB av fun a0_ av0=>
 aB av0 fun a1_ av1=>
 aL av1<|
 aL rs<|
 aC true aJ a0_ fun d1=>
 bE .il a1_ fun z3 d2=>
 .mat (sJ d1 d2) fun r=>.ret (En z3 d1 d2 r)
def JB:Ctr:=dD [] Yk
theorem VJ:Contract Try.prog .none 171 JB:=aD (V:=JA) aT (ak vL agT (ak Hw amR (ak El ap1 aI))) Try.func171 bF fun _ _ _=>aH fun _ _=>aH fun _ _=>bn<|bn<|aM fun _=>dI fun _ _=>fun h=>by intros;subst_vars;exact bg (VI _ _ _) h
def nH (p0:List Int) (p1:(Int×(Int×Unit))) (p2:(List (List Int))):Tre Bool:=
 .mat (sJ p1 p0) fun r1=>
 .cond (!r1)
  (.ret true)
  (.ite ((0:Int)≤0∧(0:Int)<(p2.length:Int))<|
  .mat (p2[0]?) fun x2=>
  .ret (!decide ((p0.length:Int)=(x2.length:Int))))
def iX (p0:List Int) (p1:(Int×(Int×Unit))) (p2:(List (List Int))):Option Bool:=(nH p0 p1 p2).run some
def tX:Env:=⟨tau,[(171,JB)],[]⟩
def Gj:FnI:=fnI Try.f170 []
def qA (_:Bool) (zp1:Bool) (_:List Int) (p1:(Int×(Int×Unit))) (p2:(List (List Int))):Bool→aA:=fun r=>⟨(.imm true .bool r),[⟨true,aJ,.own,p1⟩,⟨true,(.sl .il),(.imm zp1),p2⟩],[]⟩
theorem Ey:∀(zp0 zp1:Bool)(p0:List Int)(p1:(Int×(Int×Unit)))(p2:(List (List Int))),bI tX Gj ⟨[(.imm zp0 .il p0),(.ptr (0,0) []),(.ptr (0,1) [])],[⟨true,aJ,.own,p1⟩,⟨true,(.sl .il),(.imm zp1),p2⟩]⟩=(nH p0 p1 p2).run fun r=>some (qA zp0 zp1 p0 p1 p2 r):=fun _ _ _ _ _=>by kernel_rfl
def Gi (av:List AV) (rs:List Root):Tre aA:=
 aB av fun a0_ av0=>
 aB av0 fun a1_ av1=>
 aB av1 fun a2_ av2=>
 aL av2<|
 aB rs fun r0_ rs0=>
 aB rs0 fun r1_ rs1=>
 aL rs1<|
 bE .il a0_ fun z2 d1=>
 dB (0,0) [] a1_<|
 dB (0,1) [] a2_<|
 gH true aJ r0_ fun m3 d4=>
 asM .own m3<|
 gH true (.sl .il) r1_ fun m5 d6=>
 jg m5 fun z7=>
 .mat (iX d1 d4 d6) fun r=>.ret (qA z2 z7 d1 d4 d6 r)
def tY:Ctr:=dD [] Gi
theorem Ez:Contract Try.prog .none 170 tY:=aD (V:=tX) aT (ak VJ auw aI) Try.func170 bF fun _ _ _=>aH fun _ _=>aH fun _ _=>aH fun _ _=>bn<|aH fun _ _=>aH fun _ _=>bn<|dI fun _ _=>fT<|fT<|tRt fun _ _=>tM<|tRt fun _ _=>rZ fun _=>fun h=>by intros;subst_vars;exact bg (Ey _ _ _ _ _) h
def UN (aY:(List (List Int))) (bq:Int) (bD:(Int×(Int×Unit))) (gL:(List (List Int))):Int→Tre (Int ⊕ (Int ⊕ Unit)):=fun s2=>
 .cond (decide (s2<bq))
  (.ite (0≤s2∧s2<(aY.length:Int))<|
  .mat (aY[s2.toNat]?) fun x1=>
  .mat (iX x1 bD gL) fun r2=>
  .cond r2
   (.ret (.inr (.inl s2)))
   (.ret (.inl (aN .i64 (s2+1)))))
  (.ret (.inr (.inr ())))
def nm4 (p0:(List (List Int))) (p1:(Int×(Int×Unit))) (p2:(List (List Int))):Tre Int:=
 .mat (aP (UN p0 (p0.length:Int) p1 p2) 0) fun l3=>
 .alt l3
  (fun a4=>
   .ret a4)
  (fun _=>
   .ret (-1))
def anh (p0:(List (List Int))) (p1:(Int×(Int×Unit))) (p2:(List (List Int))):Option Int:=(nm4 p0 p1 p2).run some
def ani:Env:=⟨tau,[(170,tY)],[]⟩
def atv:Code:=(Try.f144.body).getD .skip
def YT (kX:Bool) (akO:Bool) (aY:(List (List Int))) (bq:Int) (bD:(Int×(Int×Unit))) (gL:(List (List Int))):Int→St:=fun x=>bR [(0,(.imm kX (.sl .il) aY)),(1,(.fn 170 [(0,0),(0,1)])),(7,(.i bq)),(8,(.i x))] [((0,0),some ⟨true,aJ,.own,bD⟩),((0,1),some ⟨true,(.sl .il),(.imm akO),gL⟩)]
def LW (_:Bool) (akO:Bool) (_:(List (List Int))) (_:Int) (bD:(Int×(Int×Unit))) (gL:(List (List Int))):(Int ⊕ Unit)→Ex×St
 |.inl x=>(.ret,bR [(4,(.i x))] [((0,0),some ⟨true,aJ,.own,bD⟩),((0,1),some ⟨true,(.sl .il),(.imm akO),gL⟩)])
 |.inr _=>(.exit 0,bR [(4,.dead)] [((0,0),some ⟨true,aJ,.own,bD⟩),((0,1),some ⟨true,(.sl .il),(.imm akO),gL⟩)])
def ajP (s:St):Tre (Ex×St):=
 bE (.sl .il) (s.tmps 0) fun z3 d2=>
 vW 170 [(0,0),(0,1)] (s.tmps 1)<|
 aC true .n (s.tmps 7) fun d6=>
 aC true .n (s.tmps 8) fun d8=>
 aW true aJ (s.roots (0,0)) fun m10 d11=>
 asM .own m10<|
 aW true (.sl .il) (s.roots (0,1)) fun m13 d14=>
 jg m13 fun z15=>
 .mat (aP (UN d2 d6 d11 d14) d8) fun x=>.alt x (fun a0=>.ret (LW z3 z15 d2 d6 d11 d14 (.inl a0))) (fun b0=>.ret (LW z3 z15 d2 d6 d11 d14 (.inr b0)))
def Pn:bB:=⟨([0,1,7,8],[(0,0),(0,1)]),([4],[(0,0),(0,1)]),ajP⟩
def aqz:List (Nat×bB):=[(2,Pn)]
theorem ajQ:∀(kX akO:Bool)(aY:(List (List Int)))(bq:Int)(bD:(Int×(Int×Unit)))(gL:(List (List Int)))(x:Int)(c:St→Option (Ex×St)),den ani aqz (aU atv 0) (YT kX akO aY bq bD gL x) (bY Pn.kp Pn.kx c)=(UN aY bq bD gL x).run (bZ (YT kX akO aY bq bD gL) (LW kX akO aY bq bD gL) c):=fun _ _ _ _ _ _ _ _=>by
 kernel_rfl
theorem aoz:bP ani aqz (aU atv 0) Pn:=gF fun s e s' h=>by
 generalize hs:restrict Pn.kp s=s1 at h
 have h:(ajP s1).run some=some (e,s'):=h
 obtain ⟨z3,d2,e1,h_0⟩:=dO h
 obtain ⟨e4,h_1⟩:=wO h_0
 obtain ⟨d6,e5,h_2⟩:=bQ h_1
 obtain ⟨d8,e7,h_3⟩:=bQ h_2
 obtain ⟨m10,d11,e9,h_4⟩:=jw h_3
 obtain ⟨rfl,h_5⟩:=uK h_4
 obtain ⟨m13,d14,e12,h_6⟩:=jw h_5
 obtain ⟨z15,rfl,h_7⟩:=ZC h_6
 obtain ⟨y,hy,hz⟩:=jd h_7
 refine ⟨_,_,YT z3 z15 d2 d6 d11 d14,LW z3 z15 d2 d6 d11 d14,UN d2 d6 d11 d14,d8,y,?_,hy,?_,ajQ z3 z15 d2 d6 d11 d14⟩
 ·subst hs;exact aR (T:=[(0,(.imm z3 (.sl .il) d2)),(1,(.fn 170 [(0,0),(0,1)])),(7,(.i d6)),(8,(.i d8))]) (U:=[((0,0),some ⟨true,aJ,.own,d11⟩),((0,1),some ⟨true,(.sl .il),(.imm z15),d14⟩)]) rfl rfl ⟨e1,e4,e5,e7,trivial⟩ ⟨e9,e12,trivial⟩
 ·rcases y with x|x<;>exact Option.some.inj hz
def awu:FnI:=fnI Try.f144 aqz
def anj (_:Bool) (zp1:Bool) (_:(List (List Int))) (p1:(Int×(Int×Unit))) (p2:(List (List Int))):Int→aA:=fun r=>⟨(.i r),[⟨true,aJ,.own,p1⟩,⟨true,(.sl .il),(.imm zp1),p2⟩],[]⟩
theorem avj:∀(zp0 zp1:Bool)(p0:(List (List Int)))(p1:(Int×(Int×Unit)))(p2:(List (List Int))),bI ani awu ⟨[(.imm zp0 (.sl .il) p0),(.fn 170 [(0,0),(0,1)])],[⟨true,aJ,.own,p1⟩,⟨true,(.sl .il),(.imm zp1),p2⟩]⟩=(nm4 p0 p1 p2).run fun r=>some (anj zp0 zp1 p0 p1 p2 r):=fun _ _ _ _ _=>by kernel_rfl
def awt (av:List AV) (rs:List Root):Tre aA:=
 aB av fun a0_ av0=>
 aB av0 fun a1_ av1=>
 aL av1<|
 aB rs fun r0_ rs0=>
 aB rs0 fun r1_ rs1=>
 aL rs1<|
 bE (.sl .il) a0_ fun z2 d1=>
 vW 170 [(0,0),(0,1)] a1_<|
 gH true aJ r0_ fun m3 d4=>
 asM .own m3<|
 gH true (.sl .il) r1_ fun m5 d6=>
 jg m5 fun z7=>
 .mat (anh d1 d4 d6) fun r=>.ret (anj z2 z7 d1 d4 d6 r)
def atw:Ctr:=dD [] awt
theorem avk:Contract Try.prog .none 144 atw:=aD (V:=ani) aT (ak Ez auv aI) Try.func144 (bJ (n:=1) fun k hk=>by
 match k,hk with
 |0,_=>exact bM (id:=2) aoz) fun _ _ _=>aH fun _ _=>aH fun _ _=>bn<|aH fun _ _=>aH fun _ _=>bn<|dI fun _ _=>tFn<|tRt fun _ _=>tM<|tRt fun _ _=>rZ fun _=>fun h=>by intros;subst_vars;exact bg (avj _ _ _ _ _) h
def nm1 (p0:(List (List Int))) (p1:(Int×(Int×Unit))) (p2:(List (List Int))):Tre Bool:=
 .mat (anh p0 p1 p2) fun r1=>
 .ret (decide (r1 ≥ 0))
def am7 (p0:(List (List Int))) (p1:(Int×(Int×Unit))) (p2:(List (List Int))):Option Bool:=(nm1 p0 p1 p2).run some
def ato:Env:=⟨tau,[(144,atw)],[]⟩
def awn:FnI:=fnI Try.f78 []
def am8 (_:Bool) (zp1:Bool) (_:(List (List Int))) (p1:(Int×(Int×Unit))) (p2:(List (List Int))):Bool→aA:=fun r=>⟨(.imm true .bool r),[⟨true,aJ,.own,p1⟩,⟨true,(.sl .il),(.imm zp1),p2⟩],[]⟩
theorem avd:∀(zp0 zp1:Bool)(p0:(List (List Int)))(p1:(Int×(Int×Unit)))(p2:(List (List Int))),bI ato awn ⟨[(.imm zp0 (.sl .il) p0),(.fn 170 [(0,0),(0,1)])],[⟨true,aJ,.own,p1⟩,⟨true,(.sl .il),(.imm zp1),p2⟩]⟩=(nm1 p0 p1 p2).run fun r=>some (am8 zp0 zp1 p0 p1 p2 r):=fun _ _ _ _ _=>by kernel_rfl
def awm (av:List AV) (rs:List Root):Tre aA:=
 aB av fun a0_ av0=>
 aB av0 fun a1_ av1=>
 aL av1<|
 aB rs fun r0_ rs0=>
 aB rs0 fun r1_ rs1=>
 aL rs1<|
 bE (.sl .il) a0_ fun z2 d1=>
 vW 170 [(0,0),(0,1)] a1_<|
 gH true aJ r0_ fun m3 d4=>
 asM .own m3<|
 gH true (.sl .il) r1_ fun m5 d6=>
 jg m5 fun z7=>
 .mat (am7 d1 d4 d6) fun r=>.ret (am8 z2 z7 d1 d4 d6 r)
def atp:Ctr:=dD [] awm
theorem ave:Contract Try.prog .none 78 atp:=aD (V:=ato) aT (ak avk alv aI) Try.func78 bF fun _ _ _=>aH fun _ _=>aH fun _ _=>bn<|aH fun _ _=>aH fun _ _=>bn<|dI fun _ _=>tFn<|tRt fun _ _=>tM<|tRt fun _ _=>rZ fun _=>fun h=>by intros;subst_vars;exact bg (avd _ _ _ _ _) h
def zN (p0:(Int×(Int×Unit))) (p1:(List (List Int))):Tre Int:=
 .mat (nK p0) fun r1=>
 .cond (!r1)
  (.ret 1)
  (.mat (am7 p1 p0 p1) fun r2=>
  .cond r2
   (.ret 2)
   (.ret 0))
def oz (p0:(Int×(Int×Unit))) (p1:(List (List Int))):Option Int:=(zN p0 p1).run some
-- more
theorem alR{f:TF3}(hf:aO f=true)(c:List Int):sJ f c=some (inR (c.length:Int) 1 5&&Ow f c):=by
 unfold sJ Em
 dsimp only
 rw [Tre.aF]
 cases hi:inR (c.length:Int) 1 5
 ·rfl
 ·have:=sM.1 hi
  rw [cond_true,ah (Ej hf c (by omega)),Tre.aK,Bool.true_and]
theorem afd{f:TF3}(hf:aO f=true){ws:List (List Int)}{n:Nat}(h0:ws≠[])(hl:ws.length≤100)(h:∀w∈ws,w.length=n∧Ow f w=true)(hn:1≤n∧n≤5):oz f ws=some 0:=by
 obtain ⟨w0,ws',rfl⟩:=List.exists_cons_of_ne_nil h0
 have h1:∀w∈w0::ws',iX w f (w0::ws')=some false:=by
  intro w hw
  have hwl:=h w hw
  have hw0:=h w0 (.head _)
  unfold iX nH
  rw [ah (alR hf w),hwl.2,sM.2 (by omega),Tre.aF,Bool.true_and,Bool.not_true,cond_false]
  rw [Tre.run_ite,if_pos ⟨by omega,by simp⟩,ah (show (w0::ws')[0]?=some w0 from rfl),Tre.aK,decide_eq_true (by omega)]
  rfl
 have h2:anh (w0::ws') f (w0::ws')=some (-1):=by
  unfold anh nm4
  rw [ah (show aP (UN (w0::ws') ((w0::ws').length:Int) f (w0::ws')) 0=some (.inr ()) from ?_)]
  ·rfl
  refine eX (fun i=>(i:Int)) (w0::ws').length _ (fun i hi=>?_) ?_
  ·have hx:=List.getElem?_eq_getElem hi
   unfold UN
   rw [fq hx,ah (h1 _ (List.mem_of_getElem? hx)),Tre.aF,cond_false,Tre.aK,aV (by omega)]
  ·unfold UN
   exact dY
 have h4:am7 (w0::ws') f (w0::ws')=some false:=by
  unfold am7 nm1
  rw [ah h2,Tre.aK]
  rfl
 unfold oz zN
 rw [ah (MX f),hf,Tre.aF,Bool.not_true,cond_false,ah h4,Tre.aF]
 rfl
def Ev:Env:=⟨tau,[(150,EI),(78,atp)],[]⟩
def Ui:FnI:=fnI Try.f116 []
def Bv (_:Bool) (_:(Int×(Int×Unit))) (_:(List (List Int))):Int→aA:=fun r=>⟨(.i r),[],[]⟩
theorem Ry:∀(zp0:Bool)(p0:(Int×(Int×Unit)))(p1:(List (List Int))),bI Ev Ui ⟨[(.imm true aJ p0),(.imm zp0 (.sl .il) p1)],[]⟩=(zN p0 p1).run fun r=>some (Bv zp0 p0 p1 r):=fun _ _ _=>by kernel_rfl
def Uh (av:List AV) (rs:List Root):Tre aA:=
 aB av fun a0_ av0=>
 aB av0 fun a1_ av1=>
 aL av1<|
 aL rs<|
 aC true aJ a0_ fun d1=>
 bE (.sl .il) a1_ fun z3 d2=>
 .mat (oz d1 d2) fun r=>.ret (Bv z3 d1 d2 r)
def Ew:Ctr:=dD [] Uh
theorem Rz:Contract Try.prog .none 116 Ew:=aD (V:=Ev) aT (ak MZ apP (ak ave ati aI)) Try.func116 bF fun _ _ _=>aH fun _ _=>aH fun _ _=>bn<|bn<|aM fun _=>dI fun _ _=>fun h=>by intros;subst_vars;exact bg (Ry _ _ _) h
-- more
-- more
theorem apH{f:TF3}(hf:aO f=true){w:List Nat}(hw:inL (FOf f hf) w):Ow f (up w)=true:=by
 have h0:=aij hf
 unfold Ow
 rw [List.all_eq_true]
 intro x hx
 obtain ⟨y,hy,rfl⟩:=List.mem_map.1 hx
 have:=hw y hy
 rw [GD] at this
 rw [sM]
 refine ⟨by omega,?_⟩
 unfold D5
 have h2:((2:Int) ^ f.1.toNat)=((2 ^ f.1.toNat:Nat):Int):=by push_cast;rfl
 rw [h2];omega
def EJ (p0:(Int×(Int×Unit))) (p1:List Int) (p2:List Int):Tre (Int×Int):=
 .mat (oz p0 ([p1,p2])) fun r1=>
 .cond (!decide (r1=0))
  (.ret (0,r1))
  (.mat (zQ p1 p2) fun r2=>
  .mat (oK r2) fun r3=>
  .ret (r3,0))
def jk (p0:(Int×(Int×Unit))) (p1:List Int) (p2:List Int):Option (Int×Int):=(EJ p0 p1 p2).run some
-- more
theorem UA{f:TF3}(hf:aO f=true){u w:List Nat}(hu:inL (FOf f hf) u)(hw:inL (FOf f hf) w)(hl:u.length=w.length)(h5:w.length≤1000):zQ (up u) (up w)=some (up (xK u w)):=by
 have hxl:=sw hl
 unfold zQ agZ
 rw [ah (show xP (up u)=some (up u) from ahk (by rw [kJ];omega))]
 rw [ah (show aP (zR (up w) ((up w).length:Int)) (0,up u)=some (up (xK u w)) from ?_),Tre.aK]
 refine eX (fun i=>((i:Int),up ((xK u w).take i++u.drop i))) w.length _ (fun i hi=>?_) ?_
 ·have hwi:=apr hi
  have hui:=apr (show i<u.length by omega)
  have hxi:=aez hui hwi
  have hti:((xK u w).take i).length=i:=by rw [List.length_take];omega
  have hd:u.drop i=cf u i::u.drop (i+1):=by
   obtain ⟨h1,h2⟩:=List.getElem?_eq_some_iff.1 hui
   rw [List.drop_eq_getElem_cons h1,h2]
  have h1:((xK u w).take i++u.drop i)[i]?=some (cf u i):=by rw [List.getElem?_append_right (by omega),hti,Nat.sub_self,hd];rfl
  have h3:((xK u w).take i++u.drop i).set i (cf u i^^^cf w i)=(xK u w).take (i+1)++u.drop (i+1):=by
   rw [List.set_append_right _ _ (by omega),hti,Nat.sub_self,hd,List.set_cons_zero,List.take_add_one,hxi,Option.toList_some,List.append_assoc]
   rfl
  unfold zR
  dsimp only
  rw [fq (XO hwi),eG (XO h1),eG (XO h1),arn hf (ate hu i) (ate hw i),Int.toNat_natCast,MI,h3,Tre.aK,aV (by omega)]
 ·unfold zR
  dsimp only
  rw [kJ,dY,Tre.aK,List.drop_of_length_le (by omega),List.append_nil,List.take_of_length_le (by omega)]
theorem ahg{f:TF3}(hf:aO f=true){u w:List Nat}(hu:inL (FOf f hf) u)(hw:inL (FOf f hf) w)(hl:u.length=w.length)(h1:1≤w.length)(h5:w.length≤5):jk f (up u) (up w)=some ((rkN (xK u w):Int),0):=by
 unfold jk EJ
 rw [ah (afd hf (n:=w.length) (by simp) (by simp) (fun x hx=>by
  rcases List.mem_cons.1 hx with rfl|hx
  ·exact ⟨by rw [kJ,hl],apH hf hu⟩
  ·rw [List.mem_singleton] at hx;subst hx;exact ⟨kJ w,apH hf hw⟩) ⟨h1,h5⟩),Tre.aF,decide_eq_true rfl,Bool.not_true,cond_false]
 rw [ah (UA hf hu hw hl (by omega)),ah (show oK (up (xK u w))=some _ from ahe hf (Iz (GD hf) hu hw) (by rw [sw hl];omega)),Tre.aK]
def J2:Env:=⟨tau,[(116,Ew),(108,QU),(107,LA)],[]⟩
def Yv:FnI:=fnI Try.f42 []
def EK (_:Bool) (_:Bool) (_:(Int×(Int×Unit))) (_:List Int) (_:List Int):(Int×Int)→aA:=fun r=>⟨(.tcons (.i r.1) (.tcons (.i r.2) .tnil)),[],[]⟩
theorem VT:∀(zp0 zp1:Bool)(p0:(Int×(Int×Unit)))(p1 p2:List Int),bI J2 Yv ⟨[(.imm true aJ p0),(.imm zp0 .il p1),(.imm zp1 .il p2)],[]⟩=(EJ p0 p1 p2).run fun r=>some (EK zp0 zp1 p0 p1 p2 r):=fun _ _ _ _ _=>by kernel_rfl
def Yu (av:List AV) (rs:List Root):Tre aA:=
 aB av fun a0_ av0=>
 aB av0 fun a1_ av1=>
 aB av1 fun a2_ av2=>
 aL av2<|
 aL rs<|
 aC true aJ a0_ fun d1=>
 bE .il a1_ fun z3 d2=>
 bE .il a2_ fun z5 d4=>
 .mat (jk d1 d2 d4) fun r=>.ret (EK z3 z5 d1 d2 d4 r)
def J3:Ctr:=dD [] Yu
theorem VU:Contract Try.prog .none 42 J3:=aD (V:=J2) aT (ak Rz aub (ak Uq alq (ak O7 alp aI))) Try.func42 bF fun _ _ _=>aH fun _ _=>aH fun _ _=>aH fun _ _=>bn<|bn<|aM fun _=>dI fun _ _=>dI fun _ _=>fun h=>by intros;subst_vars;exact bg (VT _ _ _ _ _) h
def EB (p0:au) (p1:List Int):Tre ((Int×Int×(List (List Int))) ⊕ (Int×(List (List Int))×Int)):=
 .mat (iq p0 p1) fun r1=>
 .cond (decide (r1=0))
  (.mat (fF p0) fun r2=>
  .cond (!decide (r2=0))
   (.ret (.inl (0,r2,[])))
   (.mat (ajW p0 p1 (-1) []) fun r3=>
   .ret (.inr (r3.1,r3.2,0))))
  (.cond (!decide (r1=0))
   (.ret (.inl (0,r1,[])))
   (.mat (ajW p0 p1 (-1) []) fun r4=>
   .ret (.inr (r4.1,r4.2,0))))
def ji (p0:au) (p1:List Int):Option ((Int×Int×(List (List Int))) ⊕ (Int×(List (List Int))×Int)):=(EB p0 p1).run some
-- more
theorem acQ{c:TRC}{n:Nat}{p:List Nat}(h:jJ c n p){w:List Int}(hw:okV c.1 n w):iq c w=some 0:=by
 have h5:=h.h5
 unfold iq qh
 rw [ah (SK h),Tre.aF,Bool.not_true,cond_false,Tre.aF,decide_eq_true (by rw [hw.1,h.len]),Bool.not_true,cond_false,ah (Ej h.hf w (by rw [hw.1];omega)),ab8 h.hf hw.2,Tre.aF]
 rfl
theorem LD{c:TRC}{n:Nat}{p:List Nat}(h:jJ c n p)(hs:c.1.1*(c.2.2.1.length:Int)≤12):fF c=some 0:=by
 have hd:=dW h.hf
 have hw:aN .i64 (c.1.1*(c.2.2.1.length:Int))=c.1.1*(c.2.2.1.length:Int):=dh (by have:0≤c.1.1*(c.2.2.1.length:Int):=Int.mul_nonneg (by omega) (by omega);omega) (by omega)
 have hl:jc c=true:=by
  unfold jc
  rw [hw,decide_eq_true hs]
 unfold fF qj
 rw [ah (SK h),Tre.aF,Bool.not_true,cond_false,hl,Tre.aF]
 rfl
def adk(c:TRC)(s:Int×List (List Int)):Int×List (List Int):=(s.1,s.2.map (dJ c))
theorem ame{c:TRC}{n:Nat}{p:List Nat}(h:jJ c n p){m:List Int}(hm:okV c.1 c.2.2.1.length m){w:List Nat}(hw:inL (FOf c.1 h.hf) w)(hl:w.length=n){s:Int×List (List Int)}(hg:s.2.length≤100000) :
  eD m c (up w) s.1 (s.2.map (dJ c))=some (adk c (je (eZ c w) s m)):=by
 obtain ⟨h1,h2,h3⟩:=mH h hm
 have h5:=h.h5
 have ha:zQ (dJ c m) (up w)=some (up (xK (su c m) w)):=by rw [←h1];exact UA h.hf h2 hw (by omega) (by omega)
 have hr:oK (up (xK (su c m) w))=some (eZ c w m):=ahe h.hf (Iz (GD h.hf) h2 hw) (by rw [sw (by omega)];omega)
 have hc:jO (dJ c m) (up w) s.1 (s.2.map (dJ c))=some (adk c (je (eZ c w) s m)):=by
  unfold jO qg je
  rw [ah ha,ah hr,Tre.aF]
  by_cases h1:s.1<0
  ·rw [decide_eq_true h1,cond_true,Tre.aF,decide_eq_true rfl,cond_true,if_pos (.inl h1)]
   rfl
  rw [decide_eq_false h1,cond_false,Tre.aF]
  by_cases h2:eZ c w m<s.1
  ·rw [decide_eq_true h2,cond_true,Tre.aF,decide_eq_true rfl,cond_true,if_pos (.inr h2)]
   rfl
  rw [decide_eq_false h2,cond_false,Tre.aF,if_neg (by omega)]
  by_cases h3:eZ c w m=s.1
  ·rw [decide_eq_true h3,cond_true,if_pos h3,Tre.run_ite,if_pos (by unfold bS;rw [List.length_map];omega),Tre.aK]
   unfold adk
   rw [List.map_append];rfl
  ·rw [decide_eq_false h3,cond_false,if_neg h3]
   rfl
 unfold eD oD
 rw [ah (ajh h hm),ah hc,Tre.aK]
theorem avx{f:TF3}(hf:aO f=true)(i:Nat)(l:List Int)(x:Int)(hx:l[i]?=some x)(hl:l.length≤1000):(HY f ((i:Int),l)).run some=some (cond (decide (x=(qF f:Int)-1)) (.inl ((i:Int)-1,l.set i 0)) (.inr ((i:Int),l))):=by
 have hq:=Aa f
 have hil:=(List.getElem?_eq_some_iff.1 hx).1
 have hd:=dW hf
 have hc:dN f=some (qF f:Int):=by
  unfold dN pW
  rw [Tre.run_ite,if_pos (by omega),Tre.aK,show f.1=((f.1.toNat:Nat):Int) by omega,acU (by omega)]
  rfl
 have hqi:qF f≤32:=L9 (b:=f.1.toNat) (c:=5) (by omega)
 unfold HY
 dsimp only
 rw [Tre.aF,decide_eq_true (by omega),cond_true,eG hx,ah hc,dh (by omega) (by omega),Tre.aF]
 cases decide (x=(qF f:Int)-1)
 ·rfl
 ·rw [cond_true,cond_true,eG hx,Tre.aK,Int.toNat_natCast,dh (by omega) (by omega)]
theorem avw{f:TF3}(l:List Int):(HY f (-1,l)).run some=some (.inr (-1,l)):=rfl
theorem aqH{c:TRC}{n:Nat}{p:List Nat}(h:jJ c n p){K:Nat}(h10:K≤10){w:List Int}(I:List (List Int)→Int×List (List Int)→Prop)(F:Int×List (List Int)→List Int→Int×List (List Int))
  (hs:∀(pre:List (List Int))(m:List Int)(g:Int×List (List Int)),m∈qO (qF c.1) K→pre.length<(qO (qF c.1) K).length→I pre g→eD m c w g.1 g.2=some (F g m)∧I (pre++[m]) (F g m)) (g0:Int×List (List Int)) (h0:I [] g0) :
  ∃g,aho c.1 (K:Int) c w g0.1 g0.2=some g∧I (qO (qF c.1) K) g:=by
 have hq:=Aa c.1
 obtain ⟨st,hl,hI⟩:=adw (nx:=vk (qF c.1:Int)) (step:=Wz (K:Int) c w c.1) (fun (g:Int×List (List Int)) (d:List Int)=>(g.1,g.2,d)) (fun g=>g) F I (all:=qO (qF c.1) K) (by
  intro pre d g hd hn hlt hI
  obtain ⟨hdl,hdv⟩:=(Hy _ _ _).1 hd
  obtain ⟨hcl,hI2⟩:=hs pre d g hd hlt hI
  refine ⟨?_,hI2⟩
  unfold Wz
  dsimp only
  rw [ah hcl,dh (n:=(K:Int)-1) (by omega) (by omega)]
  have st4:=avx h.hf
  rcases Ph (qF c.1:Int) d with hd2|⟨zs,cc,k,hcc,hd2⟩
  ·rw [hdl] at hd2
   have h4:=X5 (step:=HY c.1) (M:=(qF c.1:Int)) (N:=1000) avw st4 K 0 (by omega)
   rw [List.replicate_zero,List.append_nil,←hd2] at h4
   rw [ah h4,Tre.aF,decide_eq_true (show (-1:Int)<0 by decide),cond_true,Tre.aK]
   have:vk (qF c.1:Int) d=none:=by rw [hd2];exact Q6 _ _
   rw [this]
  ·have hlz:zs.length+k+1=K:=by rw [←hdl,hd2];simp;omega
   have h4:=X4 (step:=HY c.1) (M:=(qF c.1:Int)) (N:=1000) (zs:=zs) st4 hcc k 0 (by omega)
   rw [List.replicate_zero,List.append_nil,←hd2,Nat.add_zero,show ((zs.length+k:Nat):Int)=(K:Int)-1 by omega] at h4
   have hqi:qF c.1≤32:=by have:=dW h.hf;exact L9 (b:=c.1.1.toNat) (c:=5) (by omega)
   obtain ⟨kk,hkk,hkl⟩:=hdv cc (by rw [hd2];simp)
   have hnx:vk (qF c.1:Int) d=some (zs++(cc+1)::List.replicate k 0):=by rw [hd2];exact YN _ _ hcc _ _
   have hat:(zs++cc::List.replicate k 0)[zs.length]?=some cc:=by simp
   have hset:(zs++cc::List.replicate k 0).set zs.length (cc+1)=zs++(cc+1)::List.replicate k 0:=by simp
   rw [ah h4]
   dsimp only
   rw [Tre.aF,decide_eq_false (by omega),cond_false,eG hat,eG hat,Tre.aK,Int.toNat_natCast,dh (n:=cc+1) (by omega) (by omega),hset,hnx]) (ahL hq K) [] g0 rfl (QZ _ _) h0
 refine ⟨st,?_,hI⟩
 unfold aho auY
 rw [Tre.run_ite,if_pos ⟨rfl,by omega,rfl,by omega,by decide⟩,Int.toNat_natCast,ah hl,Tre.aK]
theorem aqm{α:Type}{d:α→Int}(s:Int×List α)(x:α):(je d s x).2.length≤s.2.length+1:=by
 unfold je
 split
 ·simp
 ·split
  ·simp
  ·omega
theorem ZW{c:TRC}{n:Nat}{p:List Nat}(h:jJ c n p)(hs:c.1.1*(c.2.2.1.length:Int)≤12)(hml:(dG c).length≤10000){w:List Nat}(hw:inL (FOf c.1 h.hf) w)(hl:w.length=n) :
  ji c (up w)=some (.inr ((BO (eZ c w) (dG c)).1,(BO (eZ c w) (dG c)).2.map (dJ c),0)):=by
 have hok:okV c.1 n (up w):=⟨by rw [kJ,hl],fun x hx=>ahb h.hf hw x hx⟩
 obtain ⟨g,hg,s,hsg,hss,_⟩:=aqH h (K:=c.2.2.1.length) h.r10 (w:=up w) (fun pre g=>∃s:Int×List (List Int),g=adk c s∧s=pre.foldl (je (eZ c w)) (-1,[])∧s.2.length≤pre.length) (fun g m=>(eD m c (up w) g.1 g.2).getD (0,[])) (fun pre m g hm hlt hI=>by
  obtain ⟨s,rfl,hsf,hsl⟩:=hI
  have hmm:(qO (qF c.1) c.2.2.1.length).length=(dG c).length:=rfl
  have:=ame h (wB hm) hw hl (s:=s) (by omega)
  have this:eD m c (up w) (adk c s).1 (adk c s).2=_:=this
  rw [this]
  refine ⟨rfl,je (eZ c w) s m,rfl,by rw [List.foldl_append,←hsf];rfl,?_⟩
  have:=aqm (d:=eZ c w) s m
  simp only [List.length_append,List.length_cons,List.length_nil]
  omega) (-1,[]) ⟨(-1,[]),rfl,rfl,Nat.le_refl _⟩
 have he:ajW c (up w) (-1) []=some (adk c (BO (eZ c w) (dG c))):=by
  unfold ajW nm8
  rw [ah hg,Tre.aK,hsg,hss]
  rfl
 unfold ji EB
 rw [ah (acQ h hok),Tre.aF,decide_eq_true rfl,cond_true,ah (LD h hs),Tre.aF,decide_eq_true rfl,Bool.not_true,cond_false,ah he,Tre.aK]
 rfl
def JJ:Env:=⟨tau,[(103,nJ),(104,jR),(105,atE)],[(7,[((11,0),[],true)]),(8,[((11,0),[],false)])]⟩
def Yt:FnI:=fnI Try.f38 []
def wh (_:au) (_:List Int):((Int×Int×(List (List Int))) ⊕ (Int×(List (List Int))×Int))→aA
 |.inl r=>⟨(.tcons (.i r.1) (.tcons (.ref (1,0) []) (.tcons (.i r.2.1) .tnil))),[],[⟨false,(.sl .il),.own,r.2.2⟩]⟩
 |.inr r=>⟨(.tcons (.i r.1) (.tcons (.imm true (.sl .il) r.2.1) (.tcons (.i r.2.2) .tnil))),[],[]⟩
theorem VQ:∀(p0:au)(p1:List Int),bI JJ Yt ⟨[(.imm true aG p0),(.imm true .il p1)],[]⟩=(EB p0 p1).run fun r=>some (wh p0 p1 r):=fun _ _=>by kernel_rfl
def Yr (av:List AV) (rs:List Root):Tre aA:=
 aB av fun a0_ av0=>
 aB av0 fun a1_ av1=>
 aL av1<|
 aL rs<|
 aC true aG a0_ fun d1=>
 aC true .il a1_ fun d2=>
 .mat (ji d1 d2) fun r=>.alt r (fun a0=>.ret (wh d1 d2 (.inl a0))) (fun b0=>.ret (wh d1 d2 (.inr b0)))
def JK:Ctr:=dD [] Yr
theorem VR:Contract Try.prog .none 38 JK:=aD (V:=JJ) aT (ak uY apK (ak mO alo (ak avt apL aI))) Try.func38 bF fun _ _ _=>aH fun _ _=>aH fun _ _=>bn<|bn<|aM fun _=>aM fun _=>fun h=>by intros;subst_vars;exact aiY (VQ _ _) h (by rintro (x|x)<;>rfl)
def ahR (p0:Int) (p1:Int) (p2:Int):Tre Bool:=
 .cond (decide (p0 ≥ p1))
  (.ret (decide (p0≤p2)))
  (.ret false)
def agl (p0:Int) (p1:Int) (p2:Int):Option Bool:=(ahR p0 p1 p2).run some
theorem ahS(n a b:Int):agl n a b=some (inR n a b):=by
 unfold agl ahR inR
 by_cases h:a≤n
 ·simp [Tre.aF,Tre.aK,h]
 ·simp [Tre.aF,Tre.aK,h]
def agm:Env:=⟨tau,[],[]⟩
def aoS:FnI:=fnI Try.f48 []
def aal (_:Int) (_:Int) (_:Int):Bool→aA:=fun r=>⟨(.imm true .bool r),[],[]⟩
theorem amj:∀(p0 p1 p2:Int),bI agm aoS ⟨[(.i p0),(.i p1),(.i p2)],[]⟩=(ahR p0 p1 p2).run fun r=>some (aal p0 p1 p2 r):=fun _ _ _=>by kernel_rfl
def aoR (av:List AV) (rs:List Root):Tre aA:=
 aB av fun a0_ av0=>
 aB av0 fun a1_ av1=>
 aB av1 fun a2_ av2=>
 aL av2<|
 aL rs<|
 aC true .n a0_ fun d1=>
 aC true .n a1_ fun d2=>
 aC true .n a2_ fun d3=>
 .ret (aal d1 d2 d3 (inR d1 d2 d3))
def Rm:Ctr:=dD [] aoR
theorem U0:Contract Try.prog .none 48 Rm:=aD (V:=agm) aT aI Try.func48 bF fun _ _ _=>aH fun _ _=>aH fun _ _=>aH fun _ _=>bn<|bn<|aM fun _=>aM fun _=>aM fun _=>fun h=>by intros;subst_vars;exact xR (amj _ _ _) (ahS _ _ _) h
def CS (p0:Int):Tre Bool:=
 .cond (decide (p0>0))
  (.cond (decide (p0<64))
   (.mat (wF p0) fun r1=>
   .ret r1)
   (.ret false))
  (.ret false)
def qG (p0:Int):Option Bool:=(CS p0).run some
def Ia:Env:=⟨tau,[(203,wG)],[]⟩
def WV:FnI:=fnI Try.f192 []
def Dl (_:Int):Bool→aA:=fun r=>⟨(.imm true .bool r),[],[]⟩
theorem UU:∀(p0:Int),bI Ia WV ⟨[(.i p0)],[]⟩=(CS p0).run fun r=>some (Dl p0 r):=fun _=>by kernel_rfl
def WU (av:List AV) (rs:List Root):Tre aA:=
 aB av fun a0_ av0=>
 aL av0<|
 aL rs<|
 aC true .n a0_ fun d1=>
 .mat (qG d1) fun r=>.ret (Dl d1 r)
def Ib:Ctr:=dD [] WU
theorem UW:Contract Try.prog .none 192 Ib:=aD (V:=Ia) aT (ak Dq apU aI) Try.func192 bF fun _ _ _=>aH fun _ _=>bn<|bn<|aM fun _=>fun h=>by intros;subst_vars;exact bg (UU _) h
def abK (p0:(Int×(Int×Unit))):Tre Bool:=
 .cond (inR p0.1 1 5)
  (.mat (qG p0.2.1) fun r1=>
  .cond r1
   (.mat (mR p0.2.1) fun r2=>
   .ret (decide (r2=p0.1)))
   (.ret false))
  (.ret false)
def Kn (p0:(Int×(Int×Unit))):Option Bool:=(abK p0).run some
-- more
theorem amt(f:Int×Int×Unit):Kn f=some (aO f):=by
 refine aiX ?_ ?_ (by kernel_rfl) f
 ·intro f h
  unfold Kn abK
  rw [Tre.aF,h];rfl
 ·intro f h
  unfold Kn abK
  rw [Tre.aF]
  have:qG f.2.1=some false:=by
   unfold qG CS
   rw [Tre.aF]
   by_cases h1:f.2.1>0
   ·rw [decide_eq_true h1,cond_true,Tre.aF,decide_eq_false (by omega)];rfl
   ·rw [decide_eq_false h1];rfl
  rw [ah this]
  cases inR f.1 1 5<;>rfl
def agn:Env:=⟨tau,[(48,Rm),(192,Ib),(193,AU)],[]⟩
def aoU:FnI:=fnI Try.f135 []
def aau (_:(Int×(Int×Unit))):Bool→aA:=fun r=>⟨(.imm true .bool r),[],[]⟩
theorem ams:∀(p0:(Int×(Int×Unit))),bI agn aoU ⟨[(.imm true aJ p0)],[]⟩=(abK p0).run fun r=>some (aau p0 r):=fun _=>by kernel_rfl
def aoT (av:List AV) (rs:List Root):Tre aA:=
 aB av fun a0_ av0=>
 aL av0<|
 aL rs<|
 aC true aJ a0_ fun d1=>
 .mat (Kn d1) fun r=>.ret (aau d1 r)
def agp:Ctr:=dD [] aoT
theorem amu:Contract Try.prog .none 135 agp:=aD (V:=agn) aT (ak U0 apX (ak UW auA (ak E8 aly aI))) Try.func135 bF fun _ _ _=>aH fun _ _=>bn<|bn<|aM fun _=>fun h=>by intros;subst_vars;exact bg (ams _) h
def kQ (aY:List Int) (dx:(Int×(Int×Unit))):Int→Tre (Int ⊕ (Bool ⊕ Unit)):=fun s2=>
 .cond (decide (s2<(aY.length:Int)))
  (.ite (0≤s2∧s2<(aY.length:Int))<|
  .mat (aY[s2.toNat]?) fun x1=>
  .mat (gy dx) fun r2=>
  let v3:=inR x1 0 (aN .i64 (r2-1))
  .cond (!v3)
   (.ret (.inr (.inl false)))
   (.ret (.inl (aN .i64 (s2+1)))))
  (.ret (.inr (.inr ())))
def Jm (p0:(Int×(Int×Unit))) (p1:List Int):Tre Bool:=
 .mat (aP (kQ p1 p0) 0) fun l4=>
 .alt l4
  (fun a5=>
   .ret a5)
  (fun _=>
   .ret true)
def lI (p0:(Int×(Int×Unit))) (p1:List Int):Option Bool:=(Jm p0 p1).run some
-- more
theorem ah1{f:TF3}(hf:aO f=true):gy f=some (Gs .i64 1 (aN .u64 f.1)):=by
 have:=dW hf
 unfold gy Rn
 rw [Tre.run_ite,if_pos (Ka _)]
 rfl
theorem Ab{f:TF3}(hf:aO f=true)(c:List Int)(hc:c.length<4611686018427387904):lI f c=some (Ow f c):=by
 unfold lI Jm Ow
 rw [Tre.qE,XV (xs:=c) (fun x=>inR x 0 (D5 f)) (.inl false) (.inr ())]
 ·generalize List.all _ _=z
  cases z<;>rfl
 ·intro i x hx
  have hi:i<c.length:=(List.getElem?_eq_some_iff.1 hx).1
  unfold kQ
  rw [fq hx,ah (ah1 hf),aii hf]
  dsimp only
  rw [Tre.aF]
  cases inR x 0 (D5 f)
  ·rfl
  ·simp only [Bool.not_true,cond_false,cond_true,Tre.aK,aV (show i<4611686018427387904 by omega)]
 ·unfold kQ
  exact dY
def vP:Env:=⟨tau,[(157,rP),(48,Rm)],[]⟩
def Nl:Code:=(Try.f117.body).getD .skip
def uH (kX:Bool) (aY:List Int) (dx:(Int×(Int×Unit))):Int→St:=fun x=>bR [(1,(.imm kX .il aY)),(2,(.ptr (4,0) [])),(5,(.i x))] [((4,0),some ⟨true,aJ,.own,dx⟩)]
def mo (_:Bool) (_:List Int) (_:(Int×(Int×Unit))):(Bool ⊕ Unit)→Ex×St
 |.inl x=>(.ret,bR [(4,(.imm true .bool x))] [])
 |.inr _=>(.exit 0,bR [(4,.dead)] [])
def Fx (s:St):Tre (Ex×St):=
 bE .il (s.tmps 1) fun z3 d2=>
 dB (4,0) [] (s.tmps 2)<|
 aC true .n (s.tmps 5) fun d6=>
 aW true aJ (s.roots (4,0)) fun m8 d9=>
 asM .own m8<|
 .mat (aP (kQ d2 d9) d6) fun x=>.alt x (fun a0=>.ret (mo z3 d2 d9 (.inl a0))) (fun b0=>.ret (mo z3 d2 d9 (.inr b0)))
def kU:bB:=⟨([1,2,5],[(4,0)]),([4],[]),Fx⟩
def CW:List (Nat×bB):=[(2,kU)]
theorem N9:∀(kX:Bool)(aY:List Int)(dx:(Int×(Int×Unit)))(x:Int)(c:St→Option (Ex×St)),den vP CW (aU Nl 0) (uH kX aY dx x) (bY kU.kp kU.kx c)=(kQ aY dx x).run (bZ (uH kX aY dx) (mo kX aY dx) c):=fun _ _ _ _ _=>by
 kernel_rfl
theorem R6:bP vP CW (aU Nl 0) kU:=gF fun s e s' h=>by
 generalize hs:restrict kU.kp s=s1 at h
 have h:(Fx s1).run some=some (e,s'):=h
 obtain ⟨z3,d2,e1,h_0⟩:=dO h
 obtain ⟨e4,h_1⟩:=KP h_0
 obtain ⟨d6,e5,h_2⟩:=bQ h_1
 obtain ⟨m8,d9,e7,h_3⟩:=jw h_2
 obtain ⟨rfl,h_4⟩:=uK h_3
 obtain ⟨y,hy,hz⟩:=jd h_4
 refine ⟨_,_,uH z3 d2 d9,mo z3 d2 d9,kQ d2 d9,d6,y,?_,hy,?_,N9 z3 d2 d9⟩
 ·subst hs;exact aR (T:=[(1,(.imm z3 .il d2)),(2,(.ptr (4,0) [])),(5,(.i d6))]) (U:=[((4,0),some ⟨true,aJ,.own,d9⟩)]) rfl rfl ⟨e1,e4,e5,trivial⟩ ⟨e7,trivial⟩
 ·rcases y with x|x<;>exact Option.some.inj hz
def abo:FnI:=fnI Try.f117 CW
def Iq (_:Bool) (_:(Int×(Int×Unit))) (_:List Int):Bool→aA:=fun r=>⟨(.imm true .bool r),[],[]⟩
theorem Zh:∀(zp0:Bool)(p0:(Int×(Int×Unit)))(p1:List Int),bI vP abo ⟨[(.imm true aJ p0),(.imm zp0 .il p1)],[]⟩=(Jm p0 p1).run fun r=>some (Iq zp0 p0 p1 r):=fun _ _ _=>by kernel_rfl
def abn (av:List AV) (rs:List Root):Tre aA:=
 aB av fun a0_ av0=>
 aB av0 fun a1_ av1=>
 aL av1<|
 aL rs<|
 aC true aJ a0_ fun d1=>
 bE .il a1_ fun z3 d2=>
 .mat (lI d1 d2) fun r=>.ret (Iq z3 d1 d2 r)
def vQ:Ctr:=dD [] abn
theorem Ac:Contract Try.prog .none 117 vQ:=aD (V:=vP) aT (ak tu Yd (ak U0 apX aI)) Try.func117 (bJ (n:=1) fun k hk=>by
 match k,hk with
 |0,_=>exact bM (id:=2) R6) fun _ _ _=>aH fun _ _=>aH fun _ _=>bn<|bn<|aM fun _=>dI fun _ _=>fun h=>by intros;subst_vars;exact bg (Zh _ _ _) h
def pz (dX:Int) (eu:(List (List Int))) (gM:(Int×(Int×Unit))):Int→Tre (Int ⊕ (Int ⊕ Unit)):=fun s6=>
 .cond (decide (s6<(eu.length:Int)))
  (.ite (0≤s6∧s6<(eu.length:Int))<|
  .mat (eu[s6.toNat]?) fun x2=>
  .cond (!decide ((x2.length:Int)=dX))
   (.ret (.inr (.inl 2)))
   (.ite (0≤s6∧s6<(eu.length:Int))<|
   .mat (eu[s6.toNat]?) fun x3=>
   .mat (lI gM x3) fun r4=>
   .cond (!r4)
    (.ret (.inr (.inl 2)))
    (.ret (.inl (aN .i64 (s6+1))))))
  (.ret (.inr (.inr ())))
def Zm (p0:(Int×(Int×Unit))) (p1:Int) (p2:(List (List Int))):Tre Int:=
 .mat (Kn p0) fun r1=>
 .cond (!r1)
  (.ret 1)
  (.cond (!(inR p1 1 5))
   (.ret 2)
   (.cond (decide ((p2.length:Int)>10))
    (.ret 2)
    (.mat (aP (pz p1 p2 p0) 0) fun l5=>
    .alt l5
     (fun a6=>
      .ret a6)
     (fun _=>
      .ret 0))))
def Iu (p0:(Int×(Int×Unit))) (p1:Int) (p2:(List (List Int))):Option Int:=(Zm p0 p1 p2).run some
def Iw:Env:=⟨tau,[(135,agp),(48,Rm),(117,vQ)],[]⟩
def aaC:Code:=(Try.f128.body).getD .skip
def CZ (yZ:Bool) (dX:Int) (eu:(List (List Int))) (gM:(Int×(Int×Unit))):Int→St:=fun x=>bR [(1,(.i dX)),(2,(.imm yZ (.sl .il) eu)),(3,(.ptr (5,0) [])),(7,(.i x))] [((5,0),some ⟨true,aJ,.own,gM⟩)]
def tF (_:Bool) (_:Int) (_:(List (List Int))) (_:(Int×(Int×Unit))):(Int ⊕ Unit)→Ex×St
 |.inl x=>(.ret,bR [(6,(.i x))] [])
 |.inr _=>(.exit 0,bR [(6,.dead)] [])
def QA (s:St):Tre (Ex×St):=
 aC true .n (s.tmps 1) fun d2=>
 bE (.sl .il) (s.tmps 2) fun z5 d4=>
 dB (5,0) [] (s.tmps 3)<|
 aC true .n (s.tmps 7) fun d8=>
 aW true aJ (s.roots (5,0)) fun m10 d11=>
 asM .own m10<|
 .mat (aP (pz d2 d4 d11) d8) fun x=>.alt x (fun a0=>.ret (tF z5 d2 d4 d11 (.inl a0))) (fun b0=>.ret (tF z5 d2 d4 d11 (.inr b0)))
def rW:bB:=⟨([1,2,3,7],[(5,0)]),([6],[]),QA⟩
def Qz:List (Nat×bB):=[(6,rW)]
theorem XB:∀(yZ:Bool)(dX:Int)(eu:(List (List Int)))(gM:(Int×(Int×Unit)))(x:Int)(c:St→Option (Ex×St)),den Iw Qz (aU aaC 0) (CZ yZ dX eu gM x) (bY rW.kp rW.kx c)=(pz dX eu gM x).run (bZ (CZ yZ dX eu gM) (tF yZ dX eu gM) c):=fun _ _ _ _ _ _=>by
 kernel_rfl
theorem abv:bP Iw Qz (aU aaC 0) rW:=gF fun s e s' h=>by
 generalize hs:restrict rW.kp s=s1 at h
 have h:(QA s1).run some=some (e,s'):=h
 obtain ⟨d2,e1,h_0⟩:=bQ h
 obtain ⟨z5,d4,e3,h_1⟩:=dO h_0
 obtain ⟨e6,h_2⟩:=KP h_1
 obtain ⟨d8,e7,h_3⟩:=bQ h_2
 obtain ⟨m10,d11,e9,h_4⟩:=jw h_3
 obtain ⟨rfl,h_5⟩:=uK h_4
 obtain ⟨y,hy,hz⟩:=jd h_5
 refine ⟨_,_,CZ z5 d2 d4 d11,tF z5 d2 d4 d11,pz d2 d4 d11,d8,y,?_,hy,?_,XB z5 d2 d4 d11⟩
 ·subst hs;exact aR (T:=[(1,(.i d2)),(2,(.imm z5 (.sl .il) d4)),(3,(.ptr (5,0) [])),(7,(.i d8))]) (U:=[((5,0),some ⟨true,aJ,.own,d11⟩)]) rfl rfl ⟨e1,e3,e6,e7,trivial⟩ ⟨e9,trivial⟩
 ·rcases y with x|x<;>exact Option.some.inj hz
def akB:FnI:=fnI Try.f128 Qz
def Tq (_:Bool) (_:(Int×(Int×Unit))) (_:Int) (_:(List (List Int))):Int→aA:=fun r=>⟨(.i r),[],[]⟩
theorem ah8:∀(zp0:Bool)(p0:(Int×(Int×Unit)))(p1:Int)(p2:(List (List Int))),bI Iw akB ⟨[(.imm true aJ p0),(.i p1),(.imm zp0 (.sl .il) p2)],[]⟩=(Zm p0 p1 p2).run fun r=>some (Tq zp0 p0 p1 p2 r):=fun _ _ _ _=>by kernel_rfl
def akA (av:List AV) (rs:List Root):Tre aA:=
 aB av fun a0_ av0=>
 aB av0 fun a1_ av1=>
 aB av1 fun a2_ av2=>
 aL av2<|
 aL rs<|
 aC true aJ a0_ fun d1=>
 aC true .n a1_ fun d2=>
 bE (.sl .il) a2_ fun z4 d3=>
 .mat (Iu d1 d2 d3) fun r=>.ret (Tq z4 d1 d2 d3 r)
def aaD:Ctr:=dD [] akA
theorem ah9:Contract Try.prog .none 128 aaD:=aD (V:=Iw) aT (ak amu auh (ak U0 apX (ak Ac als aI))) Try.func128 (bJ (n:=1) fun k hk=>by
 match k,hk with
 |0,_=>exact bM (id:=6) abv) fun _ _ _=>aH fun _ _=>aH fun _ _=>aH fun _ _=>bn<|bn<|aM fun _=>aM fun _=>dI fun _ _=>fun h=>by intros;subst_vars;exact bg (ah8 _ _ _ _) h
def jo (aX:(List (List Int))) (cB:(List (List Int))):Int→Tre (Int ⊕ (Bool ⊕ Unit)):=fun s4=>
 .cond (decide (s4<(aX.length:Int)))
  (.ite (0≤s4∧s4<(aX.length:Int))<|
  .mat (aX[s4.toNat]?) fun x1=>
  .ite (0≤s4∧s4<(cB.length:Int))<|
  .mat (cB[s4.toNat]?) fun x2=>
  .mat (QD x1 x2) fun r3=>
  .cond (!r3)
   (.ret (.inr (.inl false)))
   (.ret (.inl (aN .i64 (s4+1)))))
  (.ret (.inr (.inr ())))
def Jr (p0:(List (List Int))) (p1:(List (List Int))):Tre Bool:=
 .cond (!decide ((p0.length:Int)=(p1.length:Int)))
  (.ret false)
  (.mat (aP (jo p0 p1) 0) fun l4=>
  .alt l4
   (fun a5=>
    .ret a5)
   (fun _=>
    .ret true))
def vT (p0:(List (List Int))) (p1:(List (List Int))):Option Bool:=(Jr p0 p1).run some
def vU:Env:=⟨tau,[(100,aar)],[]⟩
def Nq:Code:=(Try.f129.body).getD .skip
def uI (nS:Bool) (sD:Bool) (aX:(List (List Int))) (cB:(List (List Int))):Int→St:=fun x=>bR [(0,(.imm nS (.sl .il) aX)),(1,(.imm sD (.sl .il) cB)),(5,(.i x))] []
def mq (_:Bool) (_:Bool) (_:(List (List Int))) (_:(List (List Int))):(Bool ⊕ Unit)→Ex×St
 |.inl x=>(.ret,bR [(4,(.imm true .bool x))] [])
 |.inr _=>(.exit 0,bR [(4,.dead)] [])
def FM (s:St):Tre (Ex×St):=
 bE (.sl .il) (s.tmps 0) fun z3 d2=>
 bE (.sl .il) (s.tmps 1) fun z6 d5=>
 aC true .n (s.tmps 5) fun d8=>
 .mat (aP (jo d2 d5) d8) fun x=>.alt x (fun a0=>.ret (mq z3 z6 d2 d5 (.inl a0))) (fun b0=>.ret (mq z3 z6 d2 d5 (.inr b0)))
def kV:bB:=⟨([0,1,5],[]),([4],[]),FM⟩
def C8:List (Nat×bB):=[(4,kV)]
theorem Od:∀(nS sD:Bool)(aX cB:(List (List Int)))(x:Int)(c:St→Option (Ex×St)),den vU C8 (aU Nq 0) (uI nS sD aX cB x) (bY kV.kp kV.kx c)=(jo aX cB x).run (bZ (uI nS sD aX cB) (mq nS sD aX cB) c):=fun _ _ _ _ _ _=>by
 kernel_rfl
theorem Si:bP vU C8 (aU Nq 0) kV:=gF fun s e s' h=>by
 generalize hs:restrict kV.kp s=s1 at h
 have h:(FM s1).run some=some (e,s'):=h
 obtain ⟨z3,d2,e1,h_0⟩:=dO h
 obtain ⟨z6,d5,e4,h_1⟩:=dO h_0
 obtain ⟨d8,e7,h_2⟩:=bQ h_1
 obtain ⟨y,hy,hz⟩:=jd h_2
 refine ⟨_,_,uI z3 z6 d2 d5,mq z3 z6 d2 d5,jo d2 d5,d8,y,?_,hy,?_,Od z3 z6 d2 d5⟩
 ·subst hs;exact aR (T:=[(0,(.imm z3 (.sl .il) d2)),(1,(.imm z6 (.sl .il) d5)),(5,(.i d8))]) (U:=[]) rfl rfl ⟨e1,e4,e7,trivial⟩ trivial
 ·rcases y with x|x<;>exact Option.some.inj hz
def abx:FnI:=fnI Try.f129 C8
def Iy (_:Bool) (_:Bool) (_:(List (List Int))) (_:(List (List Int))):Bool→aA:=fun r=>⟨(.imm true .bool r),[],[]⟩
theorem Zn:∀(zp0 zp1:Bool)(p0 p1:(List (List Int))),bI vU abx ⟨[(.imm zp0 (.sl .il) p0),(.imm zp1 (.sl .il) p1)],[]⟩=(Jr p0 p1).run fun r=>some (Iy zp0 zp1 p0 p1 r):=fun _ _ _ _=>by kernel_rfl
def abw (av:List AV) (rs:List Root):Tre aA:=
 aB av fun a0_ av0=>
 aB av0 fun a1_ av1=>
 aL av1<|
 aL rs<|
 bE (.sl .il) a0_ fun z2 d1=>
 bE (.sl .il) a1_ fun z4 d3=>
 .mat (vT d1 d3) fun r=>.ret (Iy z2 z4 d1 d3 r)
def Nr:Ctr:=dD [] abw
theorem Zo:Contract Try.prog .none 129 Nr:=aD (V:=vU) aT (ak ahW atX aI) Try.func129 (bJ (n:=1) fun k hk=>by
 match k,hk with
 |0,_=>exact bM (id:=4) Si) fun _ _ _=>aH fun _ _=>aH fun _ _=>bn<|bn<|dI fun _ _=>dI fun _ _=>fun h=>by intros;subst_vars;exact bg (Zn _ _ _ _) h
def Mt (p0:au):Tre Bool:=
 .mat (Iu p0.1 p0.2.1 p0.2.2.1) fun r1=>
 .cond (decide (r1=0))
  (.mat (nP p0.1 p0.2.1 p0.2.2.1) fun r2=>
  .mat (vT r2 p0.2.2.1) fun r3=>
  .ret r3)
  (.ret false)
def nQ (p0:au):Option Bool:=(Mt p0).run some
-- more
theorem aq5{c:TRC}{n:Nat}{p:List Nat}(h:jJ c n p):Iu c.1 c.2.1 c.2.2.1=some 0:=by
 have h1:=h.h1
 have h5:=h.h5
 have h10:=h.r10
 unfold Iu Zm
 rw [ah (amt c.1),h.hf,Tre.aF,Bool.not_true,cond_false,Tre.aF,sM.2 (by rw [h.len];omega),Bool.not_true,cond_false,Tre.aF,decide_eq_false (by omega),cond_false]
 rw [ah (show aP (pz c.2.1 c.2.2.1 c.1) 0=some (.inr ()) from ?_)]
 ·rfl
 refine eX (fun i=>(i:Int)) c.2.2.1.length _ (fun i hi=>?_) ?_
 ·have hx:=List.getElem?_eq_getElem hi
  have hg:=h.rre.gr _ (List.mem_of_getElem? hx)
  unfold pz
  rw [fq hx,Tre.aF,decide_eq_true (by rw [hg.1,h.len]),Bool.not_true,cond_false,eG hx,ah (Ab h.hf _ (by rw [hg.1];omega)),ab8 h.hf hg.2,Tre.aF,Bool.not_true,cond_false,Tre.aK,aV (by omega)]
 ·unfold pz
  exact dY
theorem akF{l:List Int}(h:l.length≤1048576):QD l l=some true:=by
 unfold QD
 rw [wQ (by simp only [Bool.and_eq_true,decide_eq_true_eq];exact ⟨h,h⟩),decide_eq_true rfl]
theorem aer{L:List (List Int)}(hl:L.length≤1000000)(h:∀r∈L,r.length≤1000000):vT L L=some true:=by
 unfold vT Jr
 rw [Tre.aF,decide_eq_true rfl,Bool.not_true,cond_false,ah (show aP (jo L L) 0=some (.inr ()) from ?_)]
 ·rfl
 refine eX (fun i=>(i:Int)) L.length _ (fun i hi=>?_) ?_
 ·have hx:=List.getElem?_eq_getElem hi
  unfold jo
  rw [fq hx,eG hx,ah (akF (by have:=h _ (List.mem_of_getElem? hx);omega)),Tre.aF,Bool.not_true,cond_false,Tre.aK,aV (by omega)]
 ·unfold jo
  exact dY
theorem Zv{c:TRC}{n:Nat}{p:List Nat}(h:jJ c n p):nQ c=some true:=by
 have h5:=h.h5
 have h10:=h.r10
 have hr:nP c.1 c.2.1 c.2.2.1=some c.2.2.1:=by
  rw [h.len,anC h.hf (by omega) h.rre.gr (by omega),h.rre.idem h.hf]
 unfold nQ Mt
 rw [ah (aq5 h),Tre.aF,decide_eq_true rfl,cond_true,ah hr,ah (aer (by omega) fun r hr=>by have:=(h.rre.gr r hr).1;omega),Tre.aK]
def Qy:Env:=⟨tau,[(128,aaD),(130,Fu),(129,Nr)],[]⟩
def aek:FnI:=fnI Try.f64 []
def KC (zp0:Bool) (p0:au):Bool→aA:=fun r=>⟨(.imm true .bool r),[⟨true,aG,(.imm zp0),p0⟩],[]⟩
theorem abu:∀(zp0:Bool)(p0:au),bI Qy aek ⟨[(.ptr (0,0) [])],[⟨true,aG,(.imm zp0),p0⟩]⟩=(Mt p0).run fun r=>some (KC zp0 p0 r):=fun _ _=>by kernel_rfl
def aej (av:List AV) (rs:List Root):Tre aA:=
 aB av fun a0_ av0=>
 aL av0<|
 aB rs fun r0_ rs0=>
 aL rs0<|
 dB (0,0) [] a0_<|
 gH true aG r0_ fun m1 d2=>
 jg m1 fun z3=>
 .mat (nQ d2) fun r=>.ret (KC z3 d2 r)
def yU:Ctr:=dD [] aej
theorem CY:Contract Try.prog .none 64 yU:=aD (V:=Qy) aT (ak ah9 aue (ak Nk apO (ak Zo auf aI))) Try.func64 bF fun _ _ _=>aH fun _ _=>bn<|aH fun _ _=>bn<|fT<|tRt fun _ _=>rZ fun _=>fun h=>by intros;subst_vars;exact bg (abu _ _) h
def FE (p0:List Int) (p1:au):Tre Int:=
 .mat (nQ p1) fun r1=>
 .cond (!r1)
  (.ret 1)
  (.cond (!decide ((p0.length:Int)=p1.2.1))
   (.ret 2)
   (.mat (lI p1.1 p0) fun r2=>
   .cond (!r2)
    (.ret 2)
    (.ret 0)))
def tC (p0:List Int) (p1:au):Option Int:=(FE p0 p1).run some
def Ky:Env:=⟨tau,[(64,yU),(117,vQ)],[]⟩
def Zj:FnI:=fnI Try.f109 []
def FH (_:Bool) (zp1:Bool) (_:List Int) (p1:au):Int→aA:=fun r=>⟨(.i r),[⟨true,aG,(.imm zp1),p1⟩],[]⟩
theorem Xy:∀(zp0 zp1:Bool)(p0:List Int)(p1:au),bI Ky Zj ⟨[(.ptr (0,0) []),(.imm zp0 .il p0)],[⟨true,aG,(.imm zp1),p1⟩]⟩=(FE p0 p1).run fun r=>some (FH zp0 zp1 p0 p1 r):=fun _ _ _ _=>by kernel_rfl
def Zi (av:List AV) (rs:List Root):Tre aA:=
 aB av fun a0_ av0=>
 aB av0 fun a1_ av1=>
 aL av1<|
 aB rs fun r0_ rs0=>
 aL rs0<|
 dB (0,0) [] a0_<|
 bE .il a1_ fun z2 d1=>
 gH true aG r0_ fun m3 d4=>
 jg m3 fun z5=>
 .mat (tC d1 d4) fun r=>.ret (FH z2 z5 d1 d4 r)
def Kz:Ctr:=dD [] Zi
theorem Xz:Contract Try.prog .none 109 Kz:=aD (V:=Ky) aT (ak CY apZ (ak Ac als aI)) Try.func109 bF fun _ _ _=>aH fun _ _=>aH fun _ _=>bn<|aH fun _ _=>bn<|fT<|dI fun _ _=>tRt fun _ _=>rZ fun _=>fun h=>by intros;subst_vars;exact bg (Xy _ _ _ _) h
def akf (p0:Int) (p1:Int):Tre Int:=
 .cond (decide (p0<p1))
  (.ret p0)
  (.ret p1)
def amk (p0:Int) (p1:Int):Option Int:=(akf p0 p1).run some
def rM(p0 p1:Int):Int:=
 cond (decide (p0<p1))
  (p0)
  (p1)
theorem afo(p0 p1:Int):amk p0 p1=some (rM p0 p1):=(afm rfl rfl)
def adO:Env:=⟨tau,[],[]⟩
def amm:FnI:=fnI Try.f212 []
def WZ (_:Int) (_:Int):Int→aA:=fun r=>⟨(.i r),[],[]⟩
theorem akg:∀(p0 p1:Int),bI adO amm ⟨[(.i p0),(.i p1)],[]⟩=(akf p0 p1).run fun r=>some (WZ p0 p1 r):=fun _ _=>by kernel_rfl
def aml (av:List AV) (rs:List Root):Tre aA:=
 aB av fun a0_ av0=>
 aB av0 fun a1_ av1=>
 aL av1<|
 aL rs<|
 aC true .n a0_ fun d1=>
 aC true .n a1_ fun d2=>
 .ret (WZ d1 d2 (rM d1 d2))
def U1:Ctr:=dD [] aml
theorem aam:Contract Try.prog .none 212 U1:=aD (V:=adO) aT aI Try.func212 bF fun _ _ _=>aH fun _ _=>aH fun _ _=>bn<|bn<|aM fun _=>aM fun _=>fun h=>by intros;subst_vars;exact xR (akg _ _) (afo _ _) h
def kr (bG:(Int×(Int×Unit))):(Int×Int×(List Int))→Tre ((Int×Int×(List Int)) ⊕ (List Int)):=fun s3=>
 .cond (decide (s3.2.1 ≥ 0))
  (.mat (gy bG) fun r1=>
  .ifn (r1=0)<|
  .ite (0≤s3.2.1∧s3.2.1<(s3.2.2.length:Int))<|
  .mat (s3.2.2[s3.2.1.toNat]?) fun _=>
  let v3:=s3.2.2.set s3.2.1.toNat (Int.tmod s3.1 r1)
  .mat (gy bG) fun r4=>
  .ifn (r4=0)<|
  let v5:=aN .i64 (Int.tdiv s3.1 r4)
  .ret (.inl (v5,aN .i64 (s3.2.1-1),v3)))
  (.ret (.inr s3.2.2))
def Ms (p0:(Int×(Int×Unit))) (p1:Int) (p2:Int):Tre (List Int):=
 .ite ((.n:K)=.n∧0≤p1∧p1=p1∧p1*(8:Nat)≤140737488355328∧1≤8)<|
 .mat (aP (kr p0) (p2,aN .i64 (p1-1),List.replicate p1.toNat (0:Int))) fun l6=>
 .ret l6
def yS (p0:(Int×(Int×Unit))) (p1:Int) (p2:Int):Option (List Int):=(Ms p0 p1 p2).run some
-- more
theorem as7{f:TF3}:D5 f+1=(qF f:Int):=by
 unfold D5 qF
 have h2:((2:Int) ^ f.1.toNat)=((2 ^ f.1.toNat:Nat):Int):=by push_cast;rfl
 rw [h2];omega
theorem abL{f:TF3}(hf:aO f=true):gy f=some (qF f:Int):=by rw [anD hf,as7]
theorem awI{f:TF3}(hf:aO f=true):qF f≤32:=by
 have:=dW hf
 exact L9 (b:=f.1.toNat) (c:=5) (by omega)
theorem asQ{f:TF3}(hf:aO f=true){k:Nat}(hk:k≤1000){n:Nat}(hn:n≤1000000):yS f (k:Int) (n:Int)=some (Gt (qF f) k n):=by
 have hq:=Aa f
 have hq2:=awI hf
 unfold yS Ms
 rw [Tre.run_ite,if_pos ⟨rfl,by omega,rfl,by omega,by decide⟩,Int.toNat_natCast,dh (by omega) (by omega)]
 rw [ah (show aP (kr f) ((n:Int),(k:Int)-1,List.replicate k 0)=some (Gt (qF f) k n) from ?_),Tre.aK]
 have:=eX (step:=kr f) (fun t=>(((n/qF f ^ t:Nat):Int),(k:Int)-1-(t:Int),List.replicate (k-t) (0:Int)++Gt (qF f) t n)) k (Gt (qF f) k n) (fun t ht=>?_) ?_
 ·rw [Nat.pow_zero,Nat.div_one] at this
  simpa [Gt] using this
 ·have hml:=ase (qF f) t n
  have e1:(k:Int)-1-(t:Int)=((k-1-t:Nat):Int):=by omega
  have hget:(List.replicate (k-t) (0:Int)++Gt (qF f) t n)[k-1-t]?=some 0:=by
   rw [List.getElem?_append_left (by simp;omega),List.getElem?_replicate,if_pos (by omega)]
  have hset:∀y:Int,(List.replicate (k-t) (0:Int)++Gt (qF f) t n).set (k-1-t) y=List.replicate (k-(t+1)) 0++y::Gt (qF f) t n:=by
   intro y
   rw [show k-t=(k-(t+1))+1 by omega,List.replicate_succ',List.append_assoc,List.set_append_right _ _ (by simp;omega)]
   simp only [List.length_replicate]
   rw [show k-1-t-(k-(t+1))=0 by omega]
   rfl
  unfold kr
  dsimp only
  rw [e1,Tre.aF,decide_eq_true (by omega),cond_true,ah (abL hf),Tre.WS,if_neg (by omega),eG hget,ah (abL hf),Tre.WS,if_neg (by omega),Tre.aK,Int.toNat_natCast,hset]
  have hz:∀z:Nat,z≤1000000→aN .i64 (z:Int)=z:=fun z hz=>YE (by omega)
  have hdiv:n/qF f ^ t≤n:=Nat.div_le_self _ _
  have hdiv2:n/qF f ^ t/qF f≤n/qF f ^ t:=Nat.div_le_self _ _
  rw [show Int.tmod ((n/qF f ^ t:Nat):Int) (qF f:Int)=((n/qF f ^ t%qF f:Nat):Int) from rfl,show Int.tdiv ((n/qF f ^ t:Nat):Int) (qF f:Int)=((n/qF f ^ t/qF f:Nat):Int) from rfl,hz _ (Nat.le_trans hdiv2 (Nat.le_trans hdiv hn)),dh (by omega) (by omega),Nat.div_div_eq_div_mul,←Nat.pow_succ,show ((k-1-t:Nat):Int)-1=(k:Int)-1-((t+1:Nat):Int) by omega]
  rfl
 ·unfold kr
  dsimp only
  rw [Tre.aF,decide_eq_false (by omega),cond_false,Tre.aK,Nat.sub_self]
  rfl
def yT:Env:=⟨tau,[(157,rP)],[]⟩
def Qv:Code:=(Try.f168.body).getD .skip
def FL (bG:(Int×(Int×Unit))):(Int×Int×(List Int))→St:=fun x=>bR [(2,(.i x.1)),(3,(.ptr (5,0) [])),(7,(.ref (9,0) [])),(8,(.i x.2.1))] [((5,0),some ⟨true,aJ,.own,bG⟩),((9,0),some ⟨false,.il,.own,x.2.2⟩)]
def DC (_:(Int×(Int×Unit))):(List Int)→Ex×St:=fun x=>(.exit 0,bR [(7,(.ref (9,0) []))] [((9,0),some ⟨false,.il,.own,x⟩)])
def XA (s:St):Tre (Ex×St):=
 aC true .n (s.tmps 2) fun d2=>
 dB (5,0) [] (s.tmps 3)<|
 fA (9,0) [] (s.tmps 7)<|
 aC true .n (s.tmps 8) fun d6=>
 aW true aJ (s.roots (5,0)) fun m8 d9=>
 asM .own m8<|
 aW false .il (s.roots (9,0)) fun m11 d12=>
 asM .own m11<|
 .mat (aP (kr d9) (d2,d6,d12)) fun x=>.ret (DC d9 x)
def qL:bB:=⟨([2,3,7,8],[(5,0),(9,0)]),([7],[(9,0)]),XA⟩
def FK:List (Nat×bB):=[(3,qL)]
theorem Qx:∀(bG:(Int×(Int×Unit)))(x:(Int×Int×(List Int)))(c:St→Option (Ex×St)),den yT FK (aU Qv 0) (FL bG x) (bY qL.kp qL.kx c)=(kr bG x).run (bZ (FL bG) (DC bG) c):=fun _ _ _=>by
 kernel_rfl
theorem Vn:bP yT FK (aU Qv 0) qL:=dw fun _ _ _=>aM fun _=>fT<|kW<|aM fun _=>bN fun _ _=>tM<|bN fun _ _=>tM<|fun h _ e10 _ e7 e5 e4 e3 e1=>bT (Qx _) h (by subst_vars;exact aR rfl rfl ⟨e1,e3,e4,e5,trivial⟩ ⟨e7,e10,trivial⟩)
def aei:FnI:=fnI Try.f168 FK
def KA (_:(Int×(Int×Unit))) (_:Int) (_:Int):(List Int)→aA:=fun r=>⟨(.ref (1,0) []),[],[⟨false,.il,.own,r⟩]⟩
theorem abp:∀(p0:(Int×(Int×Unit)))(p1 p2:Int),bI yT aei ⟨[(.imm true aJ p0),(.i p1),(.i p2)],[]⟩=(Ms p0 p1 p2).run fun r=>some (KA p0 p1 p2 r):=fun _ _ _=>by kernel_rfl
def aeh (av:List AV) (rs:List Root):Tre aA:=
 aB av fun a0_ av0=>
 aB av0 fun a1_ av1=>
 aB av1 fun a2_ av2=>
 aL av2<|
 aL rs<|
 aC true aJ a0_ fun d1=>
 aC true .n a1_ fun d2=>
 aC true .n a2_ fun d3=>
 .mat (yS d1 d2 d3) fun r=>.ret (KA d1 d2 d3 r)
def Qw:Ctr:=dD [] aeh
theorem abq:Contract Try.prog .none 168 Qw:=aD (V:=yT) aT (ak tu Yd aI) Try.func168 (bJ (n:=1) fun k hk=>by
 match k,hk with
 |0,_=>exact bM (id:=3) Vn) fun _ _ _=>aH fun _ _=>aH fun _ _=>aH fun _ _=>bn<|bn<|aM fun _=>aM fun _=>aM fun _=>fun h=>by intros;subst_vars;exact bg (abp _ _ _) h
def jX (bG:au):(Int×Int)→Tre ((Int×Int) ⊕ Int):=fun s3=>
 .cond (decide (s3.2<(bG.2.2.1.length:Int)))
  (.mat (gy bG.1) fun r1=>
  let v2:=rM 4097 (aN .i64 (s3.1*r1))
  .ret (.inl (v2,aN .i64 (s3.2+1))))
  (.ret (.inr s3.1))
def FN (p0:au):Tre Int:=
 .mat (aP (jX p0) (1,0)) fun l3=>
 .ret l3
def tH (p0:au):Option Int:=(FN p0).run some
-- more
theorem avM{c:TRC}{n:Nat}{p:List Nat}(h:jJ c n p)(hs:qF c.1 ^ c.2.2.1.length≤4096):tH c=some ((qF c.1 ^ c.2.2.1.length:Nat):Int):=by
 have hq:=Aa c.1
 have h10:=h.r10
 unfold tH FN
 rw [ah (show aP (jX c) (1,0)=some ((qF c.1 ^ c.2.2.1.length:Nat):Int) from ?_),Tre.aK]
 refine eX (fun i=>(((qF c.1 ^ i:Nat):Int),(i:Int))) c.2.2.1.length _ (fun i hi=>?_) ?_
 ·have hp:qF c.1 ^ (i+1)≤4096:=Nat.le_trans (Nat.pow_le_pow_right hq hi) hs
  have e:((qF c.1 ^ i:Nat):Int)*(qF c.1:Int)=((qF c.1 ^ (i+1):Nat):Int):=by rw [Nat.pow_succ];push_cast;rfl
  unfold jX
  dsimp only
  rw [Tre.aF,decide_eq_true (by omega),cond_true,ah (abL h.hf),e,dh (by omega) (by omega),Tre.aK,aV (by omega)]
  have:rM 4097 ((qF c.1 ^ (i+1):Nat):Int)=((qF c.1 ^ (i+1):Nat):Int):=by
   unfold rM
   rw [decide_eq_false (by omega)];rfl
  rw [this]
 ·unfold jX
  exact dY
def tJ:Env:=⟨tau,[(157,rP),(212,U1)],[]⟩
def KD:Code:=(Try.f166.body).getD .skip
def Cq (eF:Bool) (bG:au):(Int×Int)→St:=fun x=>bR [(0,(.ptr (0,0) [])),(3,(.i x.1)),(4,(.i x.2))] [((0,0),some ⟨true,aG,(.imm eF),bG⟩)]
def zC (eF:Bool) (bG:au):Int→Ex×St:=fun x=>(.exit 0,bR [(3,(.i x))] [((0,0),some ⟨true,aG,(.imm eF),bG⟩)])
def Sj (s:St):Tre (Ex×St):=
 dB (0,0) [] (s.tmps 0)<|
 aC true .n (s.tmps 3) fun d3=>
 aC true .n (s.tmps 4) fun d5=>
 aW true aG (s.roots (0,0)) fun m7 d8=>
 jg m7 fun z9=>
 .mat (aP (jX d8) (d3,d5)) fun x=>.ret (zC z9 d8 x)
def nu:bB:=⟨([0,3,4],[(0,0)]),([3],[(0,0)]),Sj⟩
def Ag:List (Nat×bB):=[(3,nu)]
theorem Mv:∀(eF:Bool)(bG:au)(x:(Int×Int))(c:St→Option (Ex×St)),den tJ Ag (aU KD 0) (Cq eF bG x) (bY nu.kp nu.kx c)=(jX bG x).run (bZ (Cq eF bG) (zC eF bG) c):=fun _ _ _ _=>by
 kernel_rfl
theorem QB:bP tJ Ag (aU KD 0) nu:=dw fun _ _ _=>fT<|aM fun _=>aM fun _=>bN fun _ _=>rZ fun _=>fun h _ e6 e4 e2 e1=>bT (Mv _ _) h (by subst_vars;exact aR rfl rfl ⟨e1,e2,e4,trivial⟩ ⟨e6,trivial⟩)
def Zq:FnI:=fnI Try.f166 Ag
def FP (zp0:Bool) (p0:au):Int→aA:=fun r=>⟨(.i r),[⟨true,aG,(.imm zp0),p0⟩],[]⟩
theorem XC:∀(zp0:Bool)(p0:au),bI tJ Zq ⟨[(.ptr (0,0) [])],[⟨true,aG,(.imm zp0),p0⟩]⟩=(FN p0).run fun r=>some (FP zp0 p0 r):=fun _ _=>by kernel_rfl
def Zp (av:List AV) (rs:List Root):Tre aA:=
 aB av fun a0_ av0=>
 aL av0<|
 aB rs fun r0_ rs0=>
 aL rs0<|
 dB (0,0) [] a0_<|
 gH true aG r0_ fun m1 d2=>
 jg m1 fun z3=>
 .mat (tH d2) fun r=>.ret (FP z3 d2 r)
def KE:Ctr:=dD [] Zp
theorem XD:Contract Try.prog .none 166 KE:=aD (V:=tJ) aT (ak tu Yd (ak aam apV aI)) Try.func166 (bJ (n:=1) fun k hk=>by
 match k,hk with
 |0,_=>exact bM (id:=3) QB) fun _ _ _=>aH fun _ _=>bn<|aH fun _ _=>bn<|fT<|tRt fun _ _=>rZ fun _=>fun h=>by intros;subst_vars;exact bg (XC _ _) h
def Af (p0:au):Tre Int:=
 .mat (nQ p0) fun r1=>
 .cond (!r1)
  (.ret 1)
  (.mat (tH p0) fun r2=>
  .cond (decide (r2>4096))
   (.ret 3)
   (.ret 0))
def o9 (p0:au):Option Int:=(Af p0).run some
def FI:Env:=⟨tau,[(64,yU),(166,KE)],[]⟩
def Vm:FnI:=fnI Try.f110 []
def Cn (zp0:Bool) (p0:au):Int→aA:=fun r=>⟨(.i r),[⟨true,aG,(.imm zp0),p0⟩],[]⟩
theorem Sc:∀(zp0:Bool)(p0:au),bI FI Vm ⟨[(.ptr (0,0) [])],[⟨true,aG,(.imm zp0),p0⟩]⟩=(Af p0).run fun r=>some (Cn zp0 p0 r):=fun _ _=>by kernel_rfl
def Vl (av:List AV) (rs:List Root):Tre aA:=
 aB av fun a0_ av0=>
 aL av0<|
 aB rs fun r0_ rs0=>
 aL rs0<|
 dB (0,0) [] a0_<|
 gH true aG r0_ fun m1 d2=>
 jg m1 fun z3=>
 .mat (o9 d2) fun r=>.ret (Cn z3 d2 r)
def FJ:Ctr:=dD [] Vl
theorem Sd:Contract Try.prog .none 110 FJ:=aD (V:=FI) aT (ak CY apZ (ak XD apR aI)) Try.func110 bF fun _ _ _=>aH fun _ _=>bn<|aH fun _ _=>bn<|fT<|tRt fun _ _=>rZ fun _=>fun h=>by intros;subst_vars;exact bg (Sc _ _) h
def jY (aQ:au):(Int×Int)→Tre ((Int×Int) ⊕ Int):=fun s3=>
 .cond (decide (s3.2<(aQ.2.2.1.length:Int)))
  (.mat (gy aQ.1) fun r1=>
  let v2:=rM 4097 (aN .i64 (s3.1*r1))
  .ret (.inl (v2,aN .i64 (s3.2+1))))
  (.ret (.inr s3.1))
def FQ (p0:au):Tre Int:=
 .mat (aP (jY p0) (1,0)) fun l3=>
 .ret l3
def tK (p0:au):Option Int:=(FQ p0).run some
-- more
theorem anG{c:TRC}{n:Nat}{p:List Nat}(h:jJ c n p)(hs:qF c.1 ^ c.2.2.1.length≤4096):tK c=some ((qF c.1 ^ c.2.2.1.length:Nat):Int):=by
 have hq:=Aa c.1
 have h10:=h.r10
 unfold tK FQ
 rw [ah (show aP (jY c) (1,0)=some ((qF c.1 ^ c.2.2.1.length:Nat):Int) from ?_),Tre.aK]
 refine eX (fun i=>(((qF c.1 ^ i:Nat):Int),(i:Int))) c.2.2.1.length _ (fun i hi=>?_) ?_
 ·have hp:qF c.1 ^ (i+1)≤4096:=Nat.le_trans (Nat.pow_le_pow_right hq hi) hs
  have e:((qF c.1 ^ i:Nat):Int)*(qF c.1:Int)=((qF c.1 ^ (i+1):Nat):Int):=by rw [Nat.pow_succ];push_cast;rfl
  unfold jY
  dsimp only
  rw [Tre.aF,decide_eq_true (by omega),cond_true,ah (abL h.hf),e,dh (by omega) (by omega),Tre.aK,aV (by omega)]
  have:rM 4097 ((qF c.1 ^ (i+1):Nat):Int)=((qF c.1 ^ (i+1):Nat):Int):=by
   unfold rM
   rw [decide_eq_false (by omega)];rfl
  rw [this]
 ·unfold jY
  exact dY
def tL:Env:=⟨tau,[(157,rP),(212,U1)],[]⟩
def KF:Code:=(Try.f166.body).getD .skip
def Cr (eF:Bool) (aQ:au):(Int×Int)→St:=fun x=>bR [(0,(.iptr eF (.sl aG) ([aQ]) [.idx 0])),(3,(.i x.1)),(4,(.i x.2))] []
def zD (_:Bool) (_:au):Int→Ex×St:=fun x=>(.exit 0,bR [(3,(.i x))] [])
def Sk (s:St):Tre (Ex×St):=
 KO aG (s.tmps 0) fun z2 d3=>
 aC true .n (s.tmps 3) fun d5=>
 aC true .n (s.tmps 4) fun d7=>
 .mat (aP (jY d3) (d5,d7)) fun x=>.ret (zD z2 d3 x)
def ny:bB:=⟨([0,3,4],[]),([3],[]),Sk⟩
def Ah:List (Nat×bB):=[(3,ny)]
theorem Mw:∀(eF:Bool)(aQ:au)(x:(Int×Int))(c:St→Option (Ex×St)),den tL Ah (aU KF 0) (Cr eF aQ x) (bY ny.kp ny.kx c)=(jY aQ x).run (bZ (Cr eF aQ) (zD eF aQ) c):=fun _ _ _ _=>by
 kernel_rfl
theorem QC:bP tL Ah (aU KF 0) ny:=dw fun _ _ _=>agw fun _ _=>aM fun _=>aM fun _=>fun h e6 e4 e1=>bT (Mw _ _) h (by subst_vars;exact aR rfl rfl ⟨e1,e4,e6,trivial⟩ trivial)
def Zt:FnI:=fnI Try.f166 Ah
def FR (_:Bool) (_:au):Int→aA:=fun r=>⟨(.i r),[],[]⟩
theorem XE:∀(zp0:Bool)(p0:au),bI tL Zt ⟨[(.iptr zp0 (.sl aG) ([p0]) [.idx 0])],[]⟩=(FQ p0).run fun r=>some (FR zp0 p0 r):=fun _ _=>by kernel_rfl
def Zr (av:List AV) (rs:List Root):Tre aA:=
 aB av fun a0_ av0=>
 aL av0<|
 aL rs<|
 KO aG a0_ fun z1 d2=>
 .mat (tK d2) fun r=>.ret (FR z1 d2 r)
def KG:Ctr:=dD [] Zr
theorem XF:Contract Try.prog .none 166 KG:=aD (V:=tL) aT (ak tu Yd (ak aam apV aI)) Try.func166 (bJ (n:=1) fun k hk=>by
 match k,hk with
 |0,_=>exact bM (id:=3) QC) fun _ _ _=>aH fun _ _=>bn<|bn<|agw fun _ _=>fun h=>by intros;subst_vars;exact bg (XE _ _) h
def rQ (aQ:List Int) (bL:List Int) (bG:Int) (dR:(Int×(Int×Unit))):(Int×(List Int))→Tre ((Int×(List Int)) ⊕ (List Int)):=fun s3=>
 .cond (decide (s3.1<(aQ.length:Int)))
  (.ite (0≤s3.1∧s3.1<(aQ.length:Int))<|
  .mat (aQ[s3.1.toNat]?) fun x1=>
  .ite (0≤s3.1∧s3.1<(bL.length:Int))<|
  .mat (bL[s3.1.toNat]?) fun x2=>
  .mat (eY dR x2 bG) fun r3=>
  .ite ((s3.2.length+1)*8≤bS∧1≤8)<|
  let v4:=s3.2++([jD .i64 x1 r3])
  .ret (.inl (aN .i64 (s3.1+1),v4)))
  (.ret (.inr s3.2))
def aeb (p0:(Int×(Int×Unit))) (p1:List Int) (p2:List Int) (p3:Int):Tre (List Int):=
 .mat (aP (rQ p1 p2 p3 p0) (0,[])) fun l5=>
 .ret l5
def wH (p0:(Int×(Int×Unit))) (p1:List Int) (p2:List Int) (p3:Int):Option (List Int):=(aeb p0 p1 p2 p3).run some
-- more
theorem Ql{f:TF3}(hf:aO f=true){u w:List Int}(hl:u.length=w.length)(hs:u.length≤1000000)(hw:∀y∈w,inF f y){x:Int}(hx:inF f x):wH f u w x=some (lJ f u w x):=by
 have key:=pR (xs:=u.zip w) (step:=rQ u w x f) (fun (i:Nat) (acc:List Int)=>((i:Int),acc)) (fun _ acc p=>.inl (acc++[jD .i64 p.1 (fZ f p.2 x)])) id (fun i acc=>acc.length=i) (by
  intro i acc p hp hi
  have hlt:=(List.getElem?_eq_some_iff.1 hp).1
  rw [List.length_zip] at hlt
  obtain ⟨p1,p2⟩:=p
  rw [List.getElem?_zip_eq_some] at hp
  obtain ⟨h1,h2⟩:=hp
  refine ⟨?_,fun a ha=>?_⟩
  ·unfold rQ
   dsimp only
   rw [Tre.aF,decide_eq_true (by omega),cond_true,Tre.run_ite,if_pos (by omega),Int.toNat_natCast,ah h1,Tre.run_ite,if_pos (by omega),ah h2,ah (anE hf (hw _ (List.mem_of_getElem? h2)) hx),Tre.run_ite,if_pos (by unfold bS;omega),Tre.aK,aV (by omega)]
  ·cases ha;simp [hi]) (by
  intro acc _
  unfold rQ
  dsimp only
  rw [Tre.aF,decide_eq_false (by rw [List.length_zip];omega),cond_false]
  rfl) (u.zip w) 0 [] rfl (Nat.zero_le _) rfl
 rw [QN] at key
 have key:aP (rQ u w x f) (0,[])=some (lJ f u w x):=key
 unfold wH aeb
 rw [ah key]
 rfl
def Mh:Env:=⟨tau,[(190,Md)],[]⟩
def aed:Code:=(Try.f132.body).getD .skip
def Qm (eF:Bool) (wN:Bool) (aQ:List Int) (bL:List Int) (bG:Int) (dR:(Int×(Int×Unit))):(Int×(List Int))→St:=fun x=>bR [(1,(.imm eF .il aQ)),(2,(.imm wN .il bL)),(3,(.i bG)),(4,(.ptr (6,0) [])),(9,(.ref (11,0) [])),(10,(.i x.1))] [((6,0),some ⟨true,aJ,.own,dR⟩),((11,0),some ⟨false,.il,.own,x.2⟩)]
def Nj (_:Bool) (_:Bool) (_:List Int) (_:List Int) (_:Int) (_:(Int×(Int×Unit))):(List Int)→Ex×St:=fun x=>(.exit 0,bR [(9,(.ref (11,0) []))] [((11,0),some ⟨false,.il,.own,x⟩)])
def afy (s:St):Tre (Ex×St):=
 bE .il (s.tmps 1) fun z3 d2=>
 bE .il (s.tmps 2) fun z6 d5=>
 aC true .n (s.tmps 3) fun d8=>
 dB (6,0) [] (s.tmps 4)<|
 fA (11,0) [] (s.tmps 9)<|
 aC true .n (s.tmps 10) fun d12=>
 aW true aJ (s.roots (6,0)) fun m14 d15=>
 asM .own m14<|
 aW false .il (s.roots (11,0)) fun m17 d18=>
 asM .own m17<|
 .mat (aP (rQ d2 d5 d8 d15) (d12,d18)) fun x=>.ret (Nj z3 z6 d2 d5 d8 d15 x)
def A8:bB:=⟨([1,2,3,4,9,10],[(6,0),(11,0)]),([9],[(11,0)]),afy⟩
def Va:List (Nat×bB):=[(3,A8)]
theorem Zg:∀(eF wN:Bool)(aQ bL:List Int)(bG:Int)(dR:(Int×(Int×Unit)))(x:(Int×(List Int)))(c:St→Option (Ex×St)),den Mh Va (aU aed 0) (Qm eF wN aQ bL bG dR x) (bY A8.kp A8.kx c)=(rQ aQ bL bG dR x).run (bZ (Qm eF wN aQ bL bG dR) (Nj eF wN aQ bL bG dR) c):=fun _ _ _ _ _ _ _ _=>by
 kernel_rfl
theorem aee:bP Mh Va (aU aed 0) A8:=dw fun _ _ _=>dI fun _ _=>dI fun _ _=>aM fun _=>fT<|kW<|aM fun _=>bN fun _ _=>tM<|bN fun _ _=>tM<|fun h _ e16 _ e13 e11 e10 e9 e7 e4 e1=>bT (Zg _ _ _ _ _ _) h (by subst_vars;exact aR rfl rfl ⟨e1,e4,e7,e9,e10,e11,trivial⟩ ⟨e13,e16,trivial⟩)
def amy:FnI:=fnI Try.f132 Va
def Xt (_:Bool) (_:Bool) (_:(Int×(Int×Unit))) (_:List Int) (_:List Int) (_:Int):(List Int)→aA:=fun r=>⟨(.ref (1,0) []),[],[⟨false,.il,.own,r⟩]⟩
theorem akz:∀(zp0 zp1:Bool)(p0:(Int×(Int×Unit)))(p1 p2:List Int)(p3:Int),bI Mh amy ⟨[(.imm true aJ p0),(.imm zp0 .il p1),(.imm zp1 .il p2),(.i p3)],[]⟩=(aeb p0 p1 p2 p3).run fun r=>some (Xt zp0 zp1 p0 p1 p2 p3 r):=fun _ _ _ _ _ _=>by kernel_rfl
def amx (av:List AV) (rs:List Root):Tre aA:=
 aB av fun a0_ av0=>
 aB av0 fun a1_ av1=>
 aB av1 fun a2_ av2=>
 aB av2 fun a3_ av3=>
 aL av3<|
 aL rs<|
 aC true aJ a0_ fun d1=>
 bE .il a1_ fun z3 d2=>
 bE .il a2_ fun z5 d4=>
 aC true .n a3_ fun d6=>
 .mat (wH d1 d2 d4 d6) fun r=>.ret (Xt z3 z5 d1 d2 d4 d6 r)
def Mi:Ctr:=dD [] amx
theorem Qn:Contract Try.prog .none 132 Mi:=aD (V:=Mh) aT (ak Qb alx aI) Try.func132 (bJ (n:=1) fun k hk=>by
 match k,hk with
 |0,_=>exact bM (id:=3) aee) fun _ _ _=>aH fun _ _=>aH fun _ _=>aH fun _ _=>aH fun _ _=>bn<|bn<|aM fun _=>dI fun _ _=>dI fun _ _=>aM fun _=>fun h=>by intros;subst_vars;exact bg (akz _ _ _ _ _ _) h
def iP (aQ:au) (bG:List Int):(Int×(List Int))→Tre ((Int×(List Int)) ⊕ (List Int)):=fun s3=>
 .cond (decide (s3.1<(aQ.2.2.1.length:Int)))
  (.ite (0≤s3.1∧s3.1<(aQ.2.2.1.length:Int))<|
  .mat (aQ.2.2.1[s3.1.toNat]?) fun x1=>
  .ite (0≤s3.1∧s3.1<(bG.length:Int))<|
  .mat (bG[s3.1.toNat]?) fun x2=>
  .mat (wH aQ.1 s3.2 x1 x2) fun r3=>
  .ret (.inl (aN .i64 (s3.1+1),r3)))
  (.ret (.inr s3.2))
def Ae (p0:au) (p1:List Int):Tre (List Int):=
 .ite ((.n:K)=.n∧0≤p0.2.1∧p0.2.1=p0.2.1∧p0.2.1*(8:Nat)≤140737488355328∧1≤8)<|
 .mat (aP (iP p0 p1) (0,List.replicate p0.2.1.toNat (0:Int))) fun l4=>
 .ret l4
def o7 (p0:au) (p1:List Int):Option (List Int):=(Ae p0 p1).run some
-- more
theorem aq0{c:TRC}{n:Nat}{p:List Nat}(h:jJ c n p){m:List Int}(hm:okV c.1 c.2.2.1.length m):o7 c m=some (dJ c m):=by
 have h5:=h.h5
 have h10:=h.r10
 unfold o7 Ae
 rw [Tre.run_ite,if_pos (by rw [h.len];exact ⟨rfl,by omega,rfl,by omega,by decide⟩)]
 rw [ah (show aP (iP c m) (0,List.replicate c.2.1.toNat 0)=some (dJ c m) from ?_),Tre.aK]
 unfold dJ aeR
 rw [h.len,Int.toNat_natCast]
 have hwz:∀i,i≤m.length→okV c.1 n (uM c.1 (fun i=>c.2.2.1.getD i []) 0 (List.replicate n 0) (m.take i)):=fun i hi=>
  Oq h.hf _ 0 _ (KJ n) (fun x hx=>hm.2 x (List.mem_of_mem_take hx)) fun j _ hj=>rows_ok h.rre.gr (by rw [List.length_take] at hj;have:=hm.1;omega)
 refine eX (fun i=>((i:Int),uM c.1 (fun i=>c.2.2.1.getD i []) 0 (List.replicate n 0) (m.take i))) c.2.2.1.length _ (fun i hi=>?_) ?_
 ·have hx:=List.getElem?_eq_getElem hi
  have hmi:=List.getElem?_eq_getElem (show i<m.length by rw [hm.1];exact hi)
  have hrow:=h.rre.gr _ (List.mem_of_getElem? hx)
  have hw:=hwz i (by rw [hm.1];omega)
  unfold iP
  dsimp only
  rw [fq hx,eG hmi,ah (Ql h.hf (by rw [hw.1,hrow.1]) (by rw [hw.1];omega) hrow.2 (hm.2 _ (List.mem_of_getElem? hmi))),Tre.aK,aV (by omega),List.take_add_one,hmi,Option.toList_some,QJ]
  have:0+(m.take i).length=i:=by rw [List.length_take,hm.1];omega
  rw [this,nZ hx]
 ·unfold iP
  dsimp only
  rw [dY,Tre.aK,List.take_of_length_le (by rw [hm.1];omega)]
def o8:Env:=⟨tau,[(132,Mi)],[]⟩
def FC:Code:=(Try.f118.body).getD .skip
def yR (eF:Bool) (aQ:au) (bG:List Int):(Int×(List Int))→St:=fun x=>bR [(0,(.iptr eF (.sl aG) ([aQ]) [.idx 0])),(1,(.ref (0,0) [])),(5,(.ref (7,0) [])),(6,(.i x.1))] [((0,0),some ⟨false,.il,.own,bG⟩),((7,0),some ⟨false,.il,.own,x.2⟩)]
def xE (_:Bool) (_:au) (bG:List Int):(List Int)→Ex×St:=fun x=>(.exit 0,bR [(5,(.ref (7,0) []))] [((0,0),some ⟨false,.il,.own,bG⟩),((7,0),some ⟨false,.il,.own,x⟩)])
def Ob (s:St):Tre (Ex×St):=
 KO aG (s.tmps 0) fun z2 d3=>
 fA (0,0) [] (s.tmps 1)<|
 fA (7,0) [] (s.tmps 5)<|
 aC true .n (s.tmps 6) fun d7=>
 aW false .il (s.roots (0,0)) fun m9 d10=>
 asM .own m9<|
 aW false .il (s.roots (7,0)) fun m12 d13=>
 asM .own m12<|
 .mat (aP (iP d3 d10) (d7,d13)) fun x=>.ret (xE z2 d3 d10 x)
def lu:bB:=⟨([0,1,5,6],[(0,0),(7,0)]),([5],[(0,0),(7,0)]),Ob⟩
def wK:List (Nat×bB):=[(3,lu)]
theorem Jp:∀(eF:Bool)(aQ:au)(bG:List Int)(x:(Int×(List Int)))(c:St→Option (Ex×St)),den o8 wK (aU FC 0) (yR eF aQ bG x) (bY lu.kp lu.kx c)=(iP aQ bG x).run (bZ (yR eF aQ bG) (xE eF aQ bG) c):=fun _ _ _ _ _=>by
 kernel_rfl
theorem Mr:bP o8 wK (aU FC 0) lu:=dw fun _ _ _=>agw fun _ _=>kW<|kW<|aM fun _=>bN fun _ _=>tM<|bN fun _ _=>tM<|fun h _ e11 _ e8 e6 e5 e4 e1=>bT (Jp _ _ _) h (by subst_vars;exact aR rfl rfl ⟨e1,e4,e5,e6,trivial⟩ ⟨e8,e11,trivial⟩)
def Vk:FnI:=fnI Try.f118 wK
def Cm (_:Bool) (_:au) (p1:List Int):(List Int)→aA:=fun r=>⟨(.ref (1,0) []),[⟨false,.il,.own,p1⟩],[⟨false,.il,.own,r⟩]⟩
theorem R9:∀(zp0:Bool)(p0:au)(p1:List Int),bI o8 Vk ⟨[(.iptr zp0 (.sl aG) ([p0]) [.idx 0]),(.ref (0,0) [])],[⟨false,.il,.own,p1⟩]⟩=(Ae p0 p1).run fun r=>some (Cm zp0 p0 p1 r):=fun _ _ _=>by kernel_rfl
def Vj (av:List AV) (rs:List Root):Tre aA:=
 aB av fun a0_ av0=>
 aB av0 fun a1_ av1=>
 aL av1<|
 aB rs fun r0_ rs0=>
 aL rs0<|
 KO aG a0_ fun z1 d2=>
 fA (0,0) [] a1_<|
 gH false .il r0_ fun m3 d4=>
 asM .own m3<|
 .mat (o7 d2 d4) fun r=>.ret (Cm z1 d2 d4 r)
def FD:Ctr:=dD [1] Vj
theorem Sb:Contract Try.prog .none 118 FD:=aD (V:=o8) aT (ak Qn agQ aI) Try.func118 (bJ (n:=1) fun k hk=>by
 match k,hk with
 |0,_=>exact bM (id:=3) Mr) fun _ _ _=>aH fun _ _=>aH fun _ _=>bn<|aH fun _ _=>bn<|agw fun _ _=>kW<|tRt fun _ _=>tM<|fun h=>by intros;subst_vars;exact bg (R9 _ _ _) h
def iQ (aQ:au):(Int×(List (List Int)))→Tre ((Int×(List (List Int))) ⊕ (List (List Int))):=fun s3=>
 .mat (tK aQ) fun r1=>
 .cond (decide (s3.1<r1))
  (.mat (yS aQ.1 (aQ.2.2.1.length:Int) s3.1) fun r2=>
  .mat (o7 aQ r2) fun r3=>
  .ite ((s3.2.length+1)*24≤bS∧1≤24)<|
  .ret (.inl (aN .i64 (s3.1+1),s3.2++([r3]))))
  (.ret (.inr s3.2))
def Ai (p0:au):Tre (List (List Int)):=
 .mat (aP (iQ p0) (0,[])) fun l4=>
 .ret l4
def pE (p0:au):Option (List (List Int)):=(Ai p0).run some
-- more
theorem amG{c:TRC}{n:Nat}{p:List Nat}(h:jJ c n p)(hs:qF c.1 ^ c.2.2.1.length≤4096):pE c=some ((dG c).map (dJ c)):=by
 have h10:=h.r10
 have hmsgs:dG c=(List.range (qF c.1 ^ c.2.2.1.length)).map (Gt (qF c.1) c.2.2.1.length):=asb (Aa c.1) _
 have hml:(dG c).length=qF c.1 ^ c.2.2.1.length:=by rw [hmsgs];simp
 unfold pE Ai
 rw [ah (show aP (iQ c) (0,[])=some ((dG c).map (dJ c)) from ?_),Tre.aK]
 refine eX (fun i=>((i:Int),((dG c).map (dJ c)).take i)) (qF c.1 ^ c.2.2.1.length) _ (fun i hi=>?_) ?_
 ·have hx:(dG c)[i]?=some (Gt (qF c.1) c.2.2.1.length i):=by rw [hmsgs,List.getElem?_map,List.getElem?_range hi];rfl
  unfold iQ
  dsimp only
  rw [ah (anG h hs),Tre.aF,decide_eq_true (by omega),cond_true,ah (asQ h.hf (by omega) (by omega)),ah (aq0 h (wB (List.mem_of_getElem? hx))),Tre.run_ite,if_pos (by unfold bS;rw [List.length_take,List.length_map,hml];omega),Tre.aK,aV (by omega),List.take_add_one,List.getElem?_map,hx]
  rfl
 ·unfold iQ
  dsimp only
  rw [ah (anG h hs),dY,Tre.aK,List.take_of_length_le (by rw [List.length_map,hml];omega)]
def pF:Env:=⟨tau,[(166,KG),(168,Qw),(118,FD)],[(1000000,[((4,0),[],false)])]⟩
def FT:Code:=(Try.f112.body).getD .skip
def yV (eF:Bool) (aQ:au):(Int×(List (List Int)))→St:=fun x=>bR [(0,(.iptr eF (.sl aG) ([aQ]) [.idx 0])),(3,(.ref (5,0) [])),(4,(.i x.1))] [((5,0),some ⟨false,(.sl .il),.own,x.2⟩)]
def xG (_:Bool) (_:au):(List (List Int))→Ex×St:=fun x=>(.exit 0,bR [(3,(.ref (5,0) []))] [((5,0),some ⟨false,(.sl .il),.own,x⟩)])
def Oe (s:St):Tre (Ex×St):=
 KO aG (s.tmps 0) fun z2 d3=>
 fA (5,0) [] (s.tmps 3)<|
 aC true .n (s.tmps 4) fun d6=>
 aW false (.sl .il) (s.roots (5,0)) fun m8 d9=>
 asM .own m8<|
 .mat (aP (iQ d3) (d6,d9)) fun x=>.ret (xG z2 d3 x)
def lC:bB:=⟨([0,3,4],[(5,0)]),([3],[(5,0)]),Oe⟩
def wL:List (Nat×bB):=[(3,lC)]
theorem Js:∀(eF:Bool)(aQ:au)(x:(Int×(List (List Int))))(c:St→Option (Ex×St)),den pF wL (aU FT 0) (yV eF aQ x) (bY lC.kp lC.kx c)=(iQ aQ x).run (bZ (yV eF aQ) (xG eF aQ) c):=fun _ _ _ _=>by
 kernel_rfl
theorem Mx:bP pF wL (aU FT 0) lC:=dw fun _ _ _=>agw fun _ _=>kW<|aM fun _=>bN fun _ _=>tM<|fun h _ e7 e5 e4 e1=>bT (Js _ _) h (by subst_vars;exact aR rfl rfl ⟨e1,e4,e5,trivial⟩ ⟨e7,trivial⟩)
def Vq:FnI:=fnI Try.f112 wL
def Ct (_:Bool) (_:au):(List (List Int))→aA:=fun r=>⟨(.imm true (.sl .il) r),[],[]⟩
theorem Sl:∀(zp0:Bool)(p0:au),bI pF Vq ⟨[(.iptr zp0 (.sl aG) ([p0]) [.idx 0])],[]⟩=(Ai p0).run fun r=>some (Ct zp0 p0 r):=fun _ _=>by kernel_rfl
def Vp (av:List AV) (rs:List Root):Tre aA:=
 aB av fun a0_ av0=>
 aL av0<|
 aL rs<|
 KO aG a0_ fun z1 d2=>
 .mat (pE d2) fun r=>.ret (Ct z1 d2 r)
def FV:Ctr:=dD [0] Vp
theorem Sm:Contract Try.prog .none 112 FV:=aD (V:=pF) aT (ak XF apR (ak abq aut (ak Sb apN aI))) Try.func112 (bJ (n:=1) fun k hk=>by
 match k,hk with
 |0,_=>exact bM (id:=3) Mx) fun _ _ _=>aH fun _ _=>bn<|bn<|agw fun _ _=>fun h=>by intros;subst_vars;exact bg (Sl _ _) h
def Ze (p0:Int) (p1:List Int):Tre Int:=
 .mat (arB p0 p1) fun r1=>
 .ret (r1.length:Int)
def aax (p0:Int) (p1:List Int):Option Int:=(Ze p0 p1).run some
def aj0 (m:Int) (xs:List Int):Option Int:=agF (inR m 0 62&&L6 m.toNat xs) ((aiV xs).length:Int)
theorem aea(p0:Int)(p1:List Int)(y:Int)(h:aj0 p0 p1=some y):aax p0 p1=some y:=by
 obtain ⟨hl,rfl⟩:=wP h
 unfold aax Ze
 rw [ah (show arB p0 p1=some _ from wQ hl)]
 rfl
def aay:Env:=⟨tau,[(194,Qh)],[]⟩
def akw:FnI:=fnI Try.f137 []
def Tn (_:Bool) (_:Int) (_:List Int):Int→aA:=fun r=>⟨(.i r),[],[]⟩
theorem ah2:∀(zp0:Bool)(p0:Int)(p1:List Int),bI aay akw ⟨[(.i p0),(.imm zp0 .il p1)],[]⟩=(Ze p0 p1).run fun r=>some (Tn zp0 p0 p1 r):=fun _ _ _=>by kernel_rfl
def akv (av:List AV) (rs:List Root):Tre aA:=
 aB av fun a0_ av0=>
 aB av0 fun a1_ av1=>
 aL av1<|
 aL rs<|
 aC true .n a0_ fun d1=>
 bE .il a1_ fun z3 d2=>
 .mat (aj0 d1 d2) fun r=>.ret (Tn z3 d1 d2 r)
def aaz:Ctr:=dD [] akv
theorem ah3:Contract Try.prog .none 137 aaz:=aD (V:=aay) aT (ak abk auB aI) Try.func137 bF fun _ _ _=>aH fun _ _=>aH fun _ _=>bn<|bn<|aM fun _=>dI fun _ _=>fun h=>by intros;subst_vars;exact Am (ah2 _ _ _) (aea _ _) h
-- more
-- more
def Vb (p0:(Int×(Int×Unit))) (p1:List Int) (p2:List Int):Tre Int:=
 .mat (wH p0 p1 p2 1) fun r1=>
 .mat (aj0 p0.1 r1) fun r2=>
 .ret r2
def yN (p0:(Int×(Int×Unit))) (p1:List Int) (p2:List Int):Option Int:=(Vb p0 p1 p2).run some
-- more
def Xu:Env:=⟨tau,[(132,Mi),(137,aaz)],[]⟩
def ah7:FnI:=fnI Try.f167 []
def Qo (_:Bool) (_:Bool) (_:(Int×(Int×Unit))) (_:List Int) (_:List Int):Int→aA:=fun r=>⟨(.i r),[],[]⟩
theorem afz:∀(zp0 zp1:Bool)(p0:(Int×(Int×Unit)))(p1 p2:List Int),bI Xu ah7 ⟨[(.imm true aJ p0),(.imm zp0 .il p1),(.imm zp1 .il p2)],[]⟩=(Vb p0 p1 p2).run fun r=>some (Qo zp0 zp1 p0 p1 p2 r):=fun _ _ _ _ _=>by kernel_rfl
def ah6 (av:List AV) (rs:List Root):Tre aA:=
 aB av fun a0_ av0=>
 aB av0 fun a1_ av1=>
 aB av1 fun a2_ av2=>
 aL av2<|
 aL rs<|
 aC true aJ a0_ fun d1=>
 bE .il a1_ fun z3 d2=>
 bE .il a2_ fun z5 d4=>
 .mat (yN d1 d2 d4) fun r=>.ret (Qo z3 z5 d1 d2 d4 r)
def Xv:Ctr:=dD [] ah6
theorem afA:Contract Try.prog .none 167 Xv:=aD (V:=Xu) aT (ak Qn agQ (ak ah3 aui aI)) Try.func167 bF fun _ _ _=>aH fun _ _=>aH fun _ _=>aH fun _ _=>bn<|bn<|aM fun _=>dI fun _ _=>dI fun _ _=>fun h=>by intros;subst_vars;exact bg (afz _ _ _ _ _) h
def kR (aX:(List (List Int))) (cB:List Int) (fI:(Int×(Int×Unit))):(Int×Int×(List (List Int)))→Tre ((Int×Int×(List (List Int))) ⊕ (Int×(List (List Int)))):=fun s4=>
 .cond (decide (s4.2.1<(aX.length:Int)))
  (.ite (0≤s4.2.1∧s4.2.1<(aX.length:Int))<|
  .mat (aX[s4.2.1.toNat]?) fun x1=>
  .mat (yN fI x1 cB) fun r2=>
  .cond (decide (r2<s4.1))
   (.cond (decide (r2=r2))
    (.ite (0≤s4.2.1∧s4.2.1<(aX.length:Int))<|
    .mat (aX[s4.2.1.toNat]?) fun x3=>
    .ret (.inl (r2,aN .i64 (s4.2.1+1),[x3])))
    (.ret (.inl (r2,aN .i64 (s4.2.1+1),[]))))
   (.cond (decide (r2=s4.1))
    (.ite (0≤s4.2.1∧s4.2.1<(aX.length:Int))<|
    .mat (aX[s4.2.1.toNat]?) fun x4=>
    .ite ((s4.2.2.length+1)*24≤bS∧1≤24)<|
    .ret (.inl (s4.1,aN .i64 (s4.2.1+1),s4.2.2++([x4]))))
    (.ret (.inl (s4.1,aN .i64 (s4.2.1+1),s4.2.2)))))
  (.ret (.inr (s4.1,s4.2.2)))
def Jq (p0:(Int×(Int×Unit))) (p1:(List (List Int))) (p2:List Int):Tre (Int×(List (List Int))):=
 .mat (aP (kR p1 p2 p0) (6,0,[])) fun l5=>
 .ret (l5.1,l5.2)
def vR (p0:(Int×(Int×Unit))) (p1:(List (List Int))) (p2:List Int):Option (Int×(List (List Int))):=(Jq p0 p1 p2).run some
-- more
theorem apg{f:TF3}(hf:aO f=true):∀{u w:List Nat},inL (FOf f hf) u→inL (FOf f hf) w→lJ f (up u) (up w) 1=up (xK u w):=by
 intro u
 induction u with
 |nil=>intro w _ _;simp [lJ,xK,up]
 |cons x u ih=>
  intro w hu hw
  cases w with
  |nil=>simp [lJ,xK,up]
  |cons y w=>
   have:=ih (w:=w) (fun z hz=>hu z (.tail _ hz)) (fun z hz=>hw z (.tail _ hz))
   unfold lJ xK at this ⊢
   unfold up at this ⊢
   simp only [List.map_cons,List.zip_cons_cons]
   rw [this]
   have hy:inF f (y:Int):=(ajj hf).2 ⟨y,rfl,hw y (.head _)⟩
   rw [Wv hf hy,arn hf (hu x (.head _)) (hw y (.head _))]
theorem amA{f:TF3}(hf:aO f=true){u w:List Nat}(hu:inL (FOf f hf) u)(hw:inL (FOf f hf) w)(hl:u.length=w.length)(h5:w.length≤1000):yN f (up u) (up w)=some (rkN (xK u w):Int):=by
 have hd:=dW hf
 have hx:=Iz (GD hf) hu hw
 have hxl:=sw hl
 have ha:wH f (up u) (up w) 1=some (up (xK u w)):=by
  rw [Ql (u:=up u) (w:=up w) hf (by rw [kJ,kJ,hl]) (by rw [kJ];omega) (fun y hy=>ahb hf hw y hy) (aha hf),apg hf hu hw]
 have hr:aj0 f.1 (up (xK u w))=some (rkN (xK u w):Int):=by
  unfold aj0
  rw [wQ (by rw [Bool.and_eq_true];exact ⟨sM.2 (by omega),alS hf hx (by omega) (Nat.le_refl _)⟩)]
  congr 1
  exact congrArg _ (atJ (xK u w))
 unfold yN Vb
 rw [ah ha,ah hr,Tre.aK]
theorem afC{c:TRC}{n:Nat}{p:List Nat}(h:jJ c n p)(hml:(dG c).length≤10000){w:List Nat}(hw:inL (FOf c.1 h.hf) w)(hl:w.length=n) :
  vR c.1 ((dG c).map (dJ c)) (up w)=some ((BO (eZ c w) (dG c)).1,(BO (eZ c w) (dG c)).2.map (dJ c)):=by
 have h5:=h.h5
 have hne:dG c≠[]:=fun he=>by
  have:=ahj (qF c.1) c.2.2.1.length
  have h2:(qO (qF c.1) c.2.2.1.length).length=0:=by show (dG c).length=0;rw [he];rfl
  rw [h2] at this
  have:=Nat.pow_pos (n:=c.2.2.1.length) (Aa c.1)
  omega
 have hd5:∀m∈dG c,eZ c w m<6:=fun m hm=>by
  obtain ⟨h1,h2,h3⟩:=mH h (wB hm)
  have hx:=Iz (GD h.hf) h2 hw
  have hxl:=sw (show (su c m).length=w.length by omega)
  have:=(adH h.hf hx (by omega)).le
  unfold eZ rkN
  omega
 rw [←aqn (b:=6) (by decide) hne hd5]
 have hsl:∀(l:List (List Int))(s:Int×List (List Int)),(l.foldl (je (eZ c w)) s).2.length≤s.2.length+l.length:=by
  intro l
  induction l with
  |nil=>intro s;exact Nat.le_refl _
  |cons x l ih=>
   intro s
   have h1:=ih (je (eZ c w) s x)
   have h2:(je (eZ c w) s x).2.length≤s.2.length+1:=by
    unfold je
    split
    ·simp
    ·split
     ·simp
     ·omega
   simp only [List.foldl_cons,List.length_cons]
   omega
 unfold vR Jq
 rw [ah (show aP (kR ((dG c).map (dJ c)) (up w) c.1) (6,0,[])=some (((dG c).foldl (je (eZ c w)) (6,[])).1,((dG c).foldl (je (eZ c w)) (6,[])).2.map (dJ c)) from ?_),Tre.aK]
 refine eX (fun i=>((((dG c).take i).foldl (je (eZ c w)) (6,[])).1,(i:Int),(((dG c).take i).foldl (je (eZ c w)) (6,[])).2.map (dJ c))) (dG c).length _ (fun i hi=>?_) ?_
 ·have hm:=List.getElem?_eq_getElem hi
  have hmem:=List.mem_of_getElem? hm
  obtain ⟨h1,h2,h3⟩:=mH h (wB hmem)
  have hx:((dG c).map (dJ c))[i]?=some (dJ c (dG c)[i]):=by rw [List.getElem?_map,hm];rfl
  have ha:yN c.1 (dJ c (dG c)[i]) (up w)=some (eZ c w (dG c)[i]):=by
   rw [←h1];exact amA h.hf h2 hw (by omega) (by omega)
  have hlen:=hsl ((dG c).take i) (6,[])
  rw [List.length_take] at hlen
  have hlen:(((dG c).take i).foldl (je (eZ c w)) (6,[])).2.length≤10000:=Nat.le_trans hlen (by show 0+_≤_;omega)
  have hst:((dG c).take (i+1)).foldl (je (eZ c w)) (6,[])=je (eZ c w) (((dG c).take i).foldl (je (eZ c w)) (6,[])) (dG c)[i]:=by
   rw [List.take_add_one,hm,Option.toList_some,List.foldl_append];rfl
  have hs0:∀(l:List (List Int))(s:Int×List (List Int)),0≤s.1→0≤(l.foldl (je (eZ c w)) s).1:=by
   intro l
   induction l with
   |nil=>intro s hs;exact hs
   |cons x l ih=>
    intro s hs
    refine ih _ ?_
    unfold je
    split
    ·exact QK c w x
    ·split
     ·exact hs
     ·exact hs
  have hb:=hs0 ((dG c).take i) (6,[]) (by show (0:Int)≤6;decide)
  rw [hst]
  generalize ((dG c).take i).foldl (je (eZ c w)) (6,[])=s at hlen hb ⊢
  unfold kR
  dsimp only
  rw [fq hx,ah ha,Tre.aF]
  unfold je
  by_cases hlt:eZ c w (dG c)[i]<s.1
  ·rw [decide_eq_true hlt,cond_true,Tre.aF,decide_eq_true rfl,cond_true,eG hx,Tre.aK,aV (by omega),if_pos (.inr hlt)]
   rfl
  ·rw [decide_eq_false hlt,cond_false,Tre.aF,if_neg (by omega)]
   by_cases heq:eZ c w (dG c)[i]=s.1
   ·rw [decide_eq_true heq,cond_true,eG hx,Tre.run_ite,if_pos (by unfold bS;rw [List.length_map];omega),Tre.aK,aV (by omega),if_pos heq,List.map_append]
    rfl
   ·rw [decide_eq_false heq,cond_false,Tre.aK,aV (by omega),if_neg heq]
 ·unfold kR
  dsimp only
  have hl:((dG c).map (dJ c)).length=(dG c).length:=by simp
  rw [←hl,dY,Tre.aK,List.take_of_length_le (by omega)]
def vS:Env:=⟨tau,[(167,Xv)],[(3,[((11,0),[],true)]),(10,[((11,0),[],true)]),(1000000,[((9,0),[],false)])]⟩
def Nn:Code:=(Try.f111.body).getD .skip
def DF (nS:Bool) (aX:(List (List Int))) (cB:List Int) (fI:(Int×(Int×Unit))):(Int×Int×(List (List Int)))→St:=fun x=>bR [(1,(.imm true (.sl .il) aX)),(2,(.imm nS .il cB)),(3,(.ptr (5,0) [])),(8,(.i x.1)),(9,(.ref (11,0) [])),(10,(.i x.2.1))] [((5,0),some ⟨true,aJ,.own,fI⟩),((11,0),some ⟨false,(.sl .il),(.sl (.imm true)),x.2.2⟩)]
def Co (_:Bool) (_:(List (List Int))) (_:List Int) (_:(Int×(Int×Unit))):(Int×(List (List Int)))→Ex×St:=fun x=>(.exit 0,bR [(8,(.i x.1)),(9,(.ref (11,0) []))] [((11,0),some ⟨false,(.sl .il),(.sl (.imm true)),x.2⟩)])
def Vo (s:St):Tre (Ex×St):=
 aC true (.sl .il) (s.tmps 1) fun d2=>
 bE .il (s.tmps 2) fun z5 d4=>
 dB (5,0) [] (s.tmps 3)<|
 aC true .n (s.tmps 8) fun d8=>
 fA (11,0) [] (s.tmps 9)<|
 aC true .n (s.tmps 10) fun d11=>
 aW true aJ (s.roots (5,0)) fun m13 d14=>
 asM .own m13<|
 aW false (.sl .il) (s.roots (11,0)) fun m16 d17=>
 asM (.sl (.imm true)) m16<|
 .mat (aP (kR d2 d4 d14) (d8,d11,d17)) fun x=>.ret (Co z5 d2 d4 d14 x)
def pq:bB:=⟨([1,2,3,8,9,10],[(5,0),(11,0)]),([8,9],[(11,0)]),Vo⟩
def CX:List (Nat×bB):=[(4,pq)]
theorem Oc:∀(nS:Bool)(aX:(List (List Int)))(cB:List Int)(fI:(Int×(Int×Unit)))(x:(Int×Int×(List (List Int))))(c:St→Option (Ex×St)),den vS CX (aU Nn 0) (DF nS aX cB fI x) (bY pq.kp pq.kx c)=(kR aX cB fI x).run (bZ (DF nS aX cB fI) (Co nS aX cB fI) c):=fun _ _ _ _ _ _=>by
 kernel_rfl
theorem Sg:bP vS CX (aU Nn 0) pq:=dw fun _ _ _=>aM fun _=>dI fun _ _=>fT<|aM fun _=>kW<|aM fun _=>bN fun _ _=>tM<|bN fun _ _=>tM<|fun h _ e15 _ e12 e10 e9 e7 e6 e3 e1=>bT (Oc _ _ _ _) h (by subst_vars;exact aR rfl rfl ⟨e1,e3,e6,e7,e9,e10,trivial⟩ ⟨e12,e15,trivial⟩)
def abt:FnI:=fnI Try.f111 CX
def Ir (_:Bool) (_:(Int×(Int×Unit))) (_:(List (List Int))) (_:List Int):(Int×(List (List Int)))→aA:=fun r=>⟨(.tcons (.i r.1) (.tcons (.imm true (.sl .il) r.2) .tnil)),[],[]⟩
theorem Zk:∀(zp0:Bool)(p0:(Int×(Int×Unit)))(p1:(List (List Int)))(p2:List Int),bI vS abt ⟨[(.imm true aJ p0),(.imm true (.sl .il) p1),(.imm zp0 .il p2)],[]⟩=(Jq p0 p1 p2).run fun r=>some (Ir zp0 p0 p1 p2 r):=fun _ _ _ _=>by kernel_rfl
def abr (av:List AV) (rs:List Root):Tre aA:=
 aB av fun a0_ av0=>
 aB av0 fun a1_ av1=>
 aB av1 fun a2_ av2=>
 aL av2<|
 aL rs<|
 aC true aJ a0_ fun d1=>
 aC true (.sl .il) a1_ fun d2=>
 bE .il a2_ fun z4 d3=>
 .mat (vR d1 d2 d3) fun r=>.ret (Ir z4 d1 d2 d3 r)
def Np:Ctr:=dD [] abr
theorem Zl:Contract Try.prog .none 111 Np:=aD (V:=vS) aT (ak afA aus aI) Try.func111 (bJ (n:=1) fun k hk=>by
 match k,hk with
 |0,_=>exact bM (id:=4) Sg) fun _ _ _=>aH fun _ _=>aH fun _ _=>aH fun _ _=>bn<|bn<|aM fun _=>aM fun _=>dI fun _ _=>fun h=>by intros;subst_vars;exact bg (Zk _ _ _ _) h
def CU (p0:au) (p1:List Int):Tre (Int×(List (List Int))×Int):=
 .mat (tC p1 p0) fun r1=>
 .cond (!decide (r1=0))
  (.ret (0,[],r1))
  (.mat (o9 p0) fun r2=>
  .cond (!decide (r2=0))
   (.ret (0,[],r2))
   (.mat (pE p0) fun r3=>
   .mat (vR p0.1 r3 p1) fun r4=>
   .ret (r4.1,r4.2,0)))
def jT (p0:au) (p1:List Int):Option (Int×(List (List Int))×Int):=(CU p0 p1).run some
-- more
theorem aq2{c:TRC}{n:Nat}{p:List Nat}(h:jJ c n p){w:List Int}(hw:okV c.1 n w):tC w c=some 0:=by
 have h5:=h.h5
 unfold tC FE
 rw [ah (Zv h),Tre.aF,Bool.not_true,cond_false,Tre.aF,decide_eq_true (by rw [hw.1,h.len]),Bool.not_true,cond_false,ah (Ab h.hf w (by rw [hw.1];omega)),ab8 h.hf hw.2,Tre.aF]
 rfl
theorem amD{c:TRC}{n:Nat}{p:List Nat}(h:jJ c n p)(hs:qF c.1 ^ c.2.2.1.length≤4096):o9 c=some 0:=by
 unfold o9 Af
 rw [ah (Zv h),Tre.aF,Bool.not_true,cond_false,ah (avM h hs),Tre.aF,decide_eq_false (by omega)]
 rfl
theorem akE{c:TRC}{n:Nat}{p:List Nat}(h:jJ c n p)(hs:qF c.1 ^ c.2.2.1.length≤4096){w:List Nat}(hw:inL (FOf c.1 h.hf) w)(hl:w.length=n) :
  jT c (up w)=some ((BO (eZ c w) (dG c)).1,(BO (eZ c w) (dG c)).2.map (dJ c),0):=by
 have hok:okV c.1 n (up w):=⟨by rw [kJ,hl],fun x hx=>ahb h.hf hw x hx⟩
 have hml:(dG c).length=qF c.1 ^ c.2.2.1.length:=ahj _ _
 unfold jT CU
 rw [ah (aq2 h hok),Tre.aF,decide_eq_true rfl,Bool.not_true,cond_false,ah (amD h hs),Tre.aF,decide_eq_true rfl,Bool.not_true,cond_false,ah (amG h hs),ah (afC h (by omega) hw hl),Tre.aK]
def Ic:Env:=⟨tau,[(109,Kz),(110,FJ),(112,FV),(111,Np)],[(1000000,[((7,0),[],false)])]⟩
def WX:FnI:=fnI Try.f39 []
def Dm (_:Bool) (_:Bool) (_:au) (_:List Int):(Int×(List (List Int))×Int)→aA:=fun r=>⟨(.tcons (.i r.1) (.tcons (.imm true (.sl .il) r.2.1) (.tcons (.i r.2.2) .tnil))),[],[]⟩
theorem UY:∀(zp0 zp1:Bool)(p0:au)(p1:List Int),bI Ic WX ⟨[(.imm zp0 aG p0),(.imm zp1 .il p1)],[]⟩=(CU p0 p1).run fun r=>some (Dm zp0 zp1 p0 p1 r):=fun _ _ _ _=>by kernel_rfl
def WW (av:List AV) (rs:List Root):Tre aA:=
 aB av fun a0_ av0=>
 aB av0 fun a1_ av1=>
 aL av1<|
 aL rs<|
 bE aG a0_ fun z2 d1=>
 bE .il a1_ fun z4 d3=>
 .mat (jT d1 d3) fun r=>.ret (Dm z2 z4 d1 d3 r)
def Ie:Ctr:=dD [] WW
theorem UZ:Contract Try.prog .none 39 Ie:=aD (V:=Ic) aT (ak Xz at1 (ak Sd at5 (ak Sm at7 (ak Zl at6 aI)))) Try.func39 bF fun _ _ _=>aH fun _ _=>aH fun _ _=>bn<|bn<|dI fun _ _=>dI fun _ _=>fun h=>by intros;subst_vars;exact bg (UY _ _ _ _) h
def rE (aX:List Int) (cB:List Int):Int→Tre (Int ⊕ (Bool ⊕ Unit)):=fun s4=>
 .cond (decide (s4<(aX.length:Int)))
  (.ite (0≤s4∧s4<(aX.length:Int))<|
  .mat (aX[s4.toNat]?) fun x1=>
  .ite (0≤s4∧s4<(cB.length:Int))<|
  .mat (cB[s4.toNat]?) fun x2=>
  .cond (!decide (x1=x2))
   (.ret (.inr (.inl false)))
   (.ret (.inl (aN .i64 (s4+1)))))
  (.ret (.inr (.inr ())))
def ac0 (p0:List Int) (p1:List Int):Tre Bool:=
 .cond (!decide ((p0.length:Int)=(p1.length:Int)))
  (.ret false)
  (.mat (aP (rE p0 p1) 0) fun l3=>
  .alt l3
   (fun a4=>
    .ret a4)
   (fun _=>
    .ret true))
def rD (p0:List Int) (p1:List Int):Option Bool:=(ac0 p0 p1).run some
-- more
theorem afX{u:List Int}(hs:u.length≤1000000):rD u u=some true:=by
 have key:=XV (xs:=u) (step:=rE u u) (β:=Bool ⊕ Unit) (fun _=>true) (.inl false) (.inr ()) (by
  intro i x hx
  have hi:=(List.getElem?_eq_some_iff.1 hx).1
  unfold rE
  rw [fq hx,Tre.run_ite,if_pos (by omega),Int.toNat_natCast,ah hx,Tre.aF,decide_eq_true rfl,Bool.not_true,cond_false,Tre.aK,aV (by omega)]
  rfl) (by
  unfold rE
  exact dY)
 unfold rD ac0
 rw [Tre.aF,decide_eq_true rfl,Bool.not_true,cond_false,ah key]
 have:u.all (fun _=>true)=true:=by simp
 rw [this]
 rfl
def LJ:Env:=⟨tau,[],[]⟩
def ac1:Code:=(Try.f45.body).getD .skip
def ET (nS:Bool) (sD:Bool) (aX:List Int) (cB:List Int):Int→St:=fun x=>bR [(0,(.imm nS .il aX)),(1,(.imm sD .il cB)),(5,(.i x))] []
def vM (_:Bool) (_:Bool) (_:List Int) (_:List Int):(Bool ⊕ Unit)→Ex×St
 |.inl x=>(.ret,bR [(4,(.imm true .bool x))] [])
 |.inr _=>(.exit 0,bR [(4,.dead)] [])
def SN (s:St):Tre (Ex×St):=
 bE .il (s.tmps 0) fun z3 d2=>
 bE .il (s.tmps 1) fun z6 d5=>
 aC true .n (s.tmps 5) fun d8=>
 .mat (aP (rE d2 d5) d8) fun x=>.alt x (fun a0=>.ret (vM z3 z6 d2 d5 (.inl a0))) (fun b0=>.ret (vM z3 z6 d2 d5 (.inr b0)))
def u6:bB:=⟨([0,1,5],[]),([4],[]),SN⟩
def UE:List (Nat×bB):=[(4,u6)]
theorem YG:∀(nS sD:Bool)(aX cB:List Int)(x:Int)(c:St→Option (Ex×St)),den LJ UE (aU ac1 0) (ET nS sD aX cB x) (bY u6.kp u6.kx c)=(rE aX cB x).run (bZ (ET nS sD aX cB) (vM nS sD aX cB) c):=fun _ _ _ _ _ _=>by
 kernel_rfl
theorem ac2:bP LJ UE (aU ac1 0) u6:=gF fun s e s' h=>by
 generalize hs:restrict u6.kp s=s1 at h
 have h:(SN s1).run some=some (e,s'):=h
 obtain ⟨z3,d2,e1,h_0⟩:=dO h
 obtain ⟨z6,d5,e4,h_1⟩:=dO h_0
 obtain ⟨d8,e7,h_2⟩:=bQ h_1
 obtain ⟨y,hy,hz⟩:=jd h_2
 refine ⟨_,_,ET z3 z6 d2 d5,vM z3 z6 d2 d5,rE d2 d5,d8,y,?_,hy,?_,YG z3 z6 d2 d5⟩
 ·subst hs;exact aR (T:=[(0,(.imm z3 .il d2)),(1,(.imm z6 .il d5)),(5,(.i d8))]) (U:=[]) rfl rfl ⟨e1,e4,e7,trivial⟩ trivial
 ·rcases y with x|x<;>exact Option.some.inj hz
def al1:FnI:=fnI Try.f45 UE
def Wn (_:Bool) (_:Bool) (_:List Int) (_:List Int):Bool→aA:=fun r=>⟨(.imm true .bool r),[],[]⟩
theorem ajr:∀(zp0 zp1:Bool)(p0 p1:List Int),bI LJ al1 ⟨[(.imm zp0 .il p0),(.imm zp1 .il p1)],[]⟩=(ac0 p0 p1).run fun r=>some (Wn zp0 zp1 p0 p1 r):=fun _ _ _ _=>by kernel_rfl
def al0 (av:List AV) (rs:List Root):Tre aA:=
 aB av fun a0_ av0=>
 aB av0 fun a1_ av1=>
 aL av1<|
 aL rs<|
 bE .il a0_ fun z2 d1=>
 bE .il a1_ fun z4 d3=>
 .mat (rD d1 d3) fun r=>.ret (Wn z2 z4 d1 d3 r)
def UF:Ctr:=dD [] al0
theorem Z0:Contract Try.prog .none 45 UF:=aD (V:=LJ) aT aI Try.func45 (bJ (n:=1) fun k hk=>by
 match k,hk with
 |0,_=>exact bM (id:=4) ac2) fun _ _ _=>aH fun _ _=>aH fun _ _=>bn<|bn<|dI fun _ _=>dI fun _ _=>fun h=>by intros;subst_vars;exact bg (ajr _ _ _ _) h
def rF (aX:(List (List Int))) (cB:(List (List Int))):Int→Tre (Int ⊕ (Bool ⊕ Unit)):=fun s4=>
 .cond (decide (s4<(aX.length:Int)))
  (.ite (0≤s4∧s4<(aX.length:Int))<|
  .mat (aX[s4.toNat]?) fun x1=>
  .ite (0≤s4∧s4<(cB.length:Int))<|
  .mat (cB[s4.toNat]?) fun x2=>
  .mat (rD x1 x2) fun r3=>
  .cond (!r3)
   (.ret (.inr (.inl false)))
   (.ret (.inl (aN .i64 (s4+1)))))
  (.ret (.inr (.inr ())))
def ac3 (p0:(List (List Int))) (p1:(List (List Int))):Tre Bool:=
 .cond (!decide ((p0.length:Int)=(p1.length:Int)))
  (.ret false)
  (.mat (aP (rF p0 p1) 0) fun l4=>
  .alt l4
   (fun a5=>
    .ret a5)
   (fun _=>
    .ret true))
def EU (p0:(List (List Int))) (p1:(List (List Int))):Option Bool:=(ac3 p0 p1).run some
-- more
theorem an8{u:List (List Int)}(hs:u.length≤1000000)(h:∀r∈u,r.length≤1000000):EU u u=some true:=by
 have key:=XV (xs:=u) (step:=rF u u) (β:=Bool ⊕ Unit) (fun _=>true) (.inl false) (.inr ()) (by
  intro i x hx
  have hi:=(List.getElem?_eq_some_iff.1 hx).1
  unfold rF
  rw [fq hx,Tre.run_ite,if_pos (by omega),Int.toNat_natCast,ah hx,ah (afX (h x (List.mem_of_getElem? hx))),Tre.aF,Bool.not_true,cond_false,Tre.aK,aV (by omega)]
  rfl) (by
  unfold rF
  exact dY)
 unfold EU ac3
 rw [Tre.aF,decide_eq_true rfl,Bool.not_true,cond_false,ah key]
 have:u.all (fun _=>true)=true:=by simp
 rw [this]
 rfl
def LK:Env:=⟨tau,[(45,UF)],[]⟩
def ac4:Code:=(Try.f40.body).getD .skip
def EW (nS:Bool) (sD:Bool) (aX:(List (List Int))) (cB:(List (List Int))):Int→St:=fun x=>bR [(0,(.imm nS (.sl .il) aX)),(1,(.imm sD (.sl .il) cB)),(5,(.i x))] []
def vN (_:Bool) (_:Bool) (_:(List (List Int))) (_:(List (List Int))):(Bool ⊕ Unit)→Ex×St
 |.inl x=>(.ret,bR [(4,(.imm true .bool x))] [])
 |.inr _=>(.exit 0,bR [(4,.dead)] [])
def SQ (s:St):Tre (Ex×St):=
 bE (.sl .il) (s.tmps 0) fun z3 d2=>
 bE (.sl .il) (s.tmps 1) fun z6 d5=>
 aC true .n (s.tmps 5) fun d8=>
 .mat (aP (rF d2 d5) d8) fun x=>.alt x (fun a0=>.ret (vN z3 z6 d2 d5 (.inl a0))) (fun b0=>.ret (vN z3 z6 d2 d5 (.inr b0)))
def u7:bB:=⟨([0,1,5],[]),([4],[]),SQ⟩
def UG:List (Nat×bB):=[(4,u7)]
theorem YH:∀(nS sD:Bool)(aX cB:(List (List Int)))(x:Int)(c:St→Option (Ex×St)),den LK UG (aU ac4 0) (EW nS sD aX cB x) (bY u7.kp u7.kx c)=(rF aX cB x).run (bZ (EW nS sD aX cB) (vN nS sD aX cB) c):=fun _ _ _ _ _ _=>by
 kernel_rfl
theorem ac6:bP LK UG (aU ac4 0) u7:=gF fun s e s' h=>by
 generalize hs:restrict u7.kp s=s1 at h
 have h:(SQ s1).run some=some (e,s'):=h
 obtain ⟨z3,d2,e1,h_0⟩:=dO h
 obtain ⟨z6,d5,e4,h_1⟩:=dO h_0
 obtain ⟨d8,e7,h_2⟩:=bQ h_1
 obtain ⟨y,hy,hz⟩:=jd h_2
 refine ⟨_,_,EW z3 z6 d2 d5,vN z3 z6 d2 d5,rF d2 d5,d8,y,?_,hy,?_,YH z3 z6 d2 d5⟩
 ·subst hs;exact aR (T:=[(0,(.imm z3 (.sl .il) d2)),(1,(.imm z6 (.sl .il) d5)),(5,(.i d8))]) (U:=[]) rfl rfl ⟨e1,e4,e7,trivial⟩ trivial
 ·rcases y with x|x<;>exact Option.some.inj hz
def al3:FnI:=fnI Try.f40 UG
def Wo (_:Bool) (_:Bool) (_:(List (List Int))) (_:(List (List Int))):Bool→aA:=fun r=>⟨(.imm true .bool r),[],[]⟩
theorem ajs:∀(zp0 zp1:Bool)(p0 p1:(List (List Int))),bI LK al3 ⟨[(.imm zp0 (.sl .il) p0),(.imm zp1 (.sl .il) p1)],[]⟩=(ac3 p0 p1).run fun r=>some (Wo zp0 zp1 p0 p1 r):=fun _ _ _ _=>by kernel_rfl
def al2 (av:List AV) (rs:List Root):Tre aA:=
 aB av fun a0_ av0=>
 aB av0 fun a1_ av1=>
 aL av1<|
 aL rs<|
 bE (.sl .il) a0_ fun z2 d1=>
 bE (.sl .il) a1_ fun z4 d3=>
 .mat (EU d1 d3) fun r=>.ret (Wo z2 z4 d1 d3 r)
def ac5:Ctr:=dD [] al2
theorem ajt:Contract Try.prog .none 40 ac5:=aD (V:=LK) aT (ak Z0 atf aI) Try.func40 (bJ (n:=1) fun k hk=>by
 match k,hk with
 |0,_=>exact bM (id:=4) ac6) fun _ _ _=>aH fun _ _=>aH fun _ _=>bn<|bn<|dI fun _ _=>dI fun _ _=>fun h=>by intros;subst_vars;exact bg (ajs _ _ _ _) h
def EH (p0:Int):Tre Bool:=
 .ret (!decide (p0=0))
def OV (p0:Int):Option Bool:=(EH p0).run some
theorem JU(p0:Int):OV p0=some (!decide (p0=0)):=rfl
def BA:Env:=⟨tau,[],[]⟩
def OX:FnI:=fnI Try.f169 []
def yw (_:Int):Bool→aA:=fun r=>⟨(.imm true .bool r),[],[]⟩
theorem NJ:∀(p0:Int),bI BA OX ⟨[(.i p0)],[]⟩=(EH p0).run fun r=>some (yw p0 r):=fun _=>by kernel_rfl
def OW (av:List AV) (rs:List Root):Tre aA:=
 aB av fun a0_ av0=>
 aL av0<|
 aL rs<|
 aC true .n a0_ fun d1=>
 .ret (yw d1 (!decide (d1=0)))
def BD:Ctr:=dD [] OW
theorem NK:Contract Try.prog .none 169 BD:=aD (V:=BA) aT aI Try.func169 bF fun _ _ _=>aH fun _ _=>bn<|bn<|aM fun _=>fun h=>by intros;subst_vars;exact xR (NJ _) (JU _) h
def UO (aY:List Int) (bq:Int):Int→Tre (Int ⊕ (Int ⊕ Unit)):=fun s2=>
 .cond (decide (s2<bq))
  (.ite (0≤s2∧s2<(aY.length:Int))<|
  .mat (aY[s2.toNat]?) fun x1=>
  .cond (!decide (x1=0))
   (.ret (.inr (.inl s2)))
   (.ret (.inl (aN .i64 (s2+1)))))
  (.ret (.inr (.inr ())))
def nm5 (p0:List Int):Tre Int:=
 .mat (aP (UO p0 (p0.length:Int)) 0) fun l2=>
 .alt l2
  (fun a3=>
   .ret a3)
  (fun _=>
   .ret (-1))
def ajR (p0:List Int):Option Int:=(nm5 p0).run some
def ank:Env:=⟨tau,[(169,BD)],[]⟩
def atx:Code:=(Try.f125.body).getD .skip
def YU (kX:Bool) (aY:List Int) (bq:Int):Int→St:=fun x=>bR [(0,(.imm kX .il aY)),(1,(.fn 169 [])),(7,(.i bq)),(8,(.i x))] []
def LX (_:Bool) (_:List Int) (_:Int):(Int ⊕ Unit)→Ex×St
 |.inl x=>(.ret,bR [(4,(.i x))] [])
 |.inr _=>(.exit 0,bR [(4,.dead)] [])
def ajS (s:St):Tre (Ex×St):=
 bE .il (s.tmps 0) fun z3 d2=>
 vW 169 [] (s.tmps 1)<|
 aC true .n (s.tmps 7) fun d6=>
 aC true .n (s.tmps 8) fun d8=>
 .mat (aP (UO d2 d6) d8) fun x=>.alt x (fun a0=>.ret (LX z3 d2 d6 (.inl a0))) (fun b0=>.ret (LX z3 d2 d6 (.inr b0)))
def Pp:bB:=⟨([0,1,7,8],[]),([4],[]),ajS⟩
def aqA:List (Nat×bB):=[(2,Pp)]
theorem ajT:∀(kX:Bool)(aY:List Int)(bq x:Int)(c:St→Option (Ex×St)),den ank aqA (aU atx 0) (YU kX aY bq x) (bY Pp.kp Pp.kx c)=(UO aY bq x).run (bZ (YU kX aY bq) (LX kX aY bq) c):=fun _ _ _ _ _=>by
 kernel_rfl
theorem aoA:bP ank aqA (aU atx 0) Pp:=gF fun s e s' h=>by
 generalize hs:restrict Pp.kp s=s1 at h
 have h:(ajS s1).run some=some (e,s'):=h
 obtain ⟨z3,d2,e1,h_0⟩:=dO h
 obtain ⟨e4,h_1⟩:=wO h_0
 obtain ⟨d6,e5,h_2⟩:=bQ h_1
 obtain ⟨d8,e7,h_3⟩:=bQ h_2
 obtain ⟨y,hy,hz⟩:=jd h_3
 refine ⟨_,_,YU z3 d2 d6,LX z3 d2 d6,UO d2 d6,d8,y,?_,hy,?_,ajT z3 d2 d6⟩
 ·subst hs;exact aR (T:=[(0,(.imm z3 .il d2)),(1,(.fn 169 [])),(7,(.i d6)),(8,(.i d8))]) (U:=[]) rfl rfl ⟨e1,e4,e5,e7,trivial⟩ trivial
 ·rcases y with x|x<;>exact Option.some.inj hz
def aww:FnI:=fnI Try.f125 aqA
def anl (_:Bool) (_:List Int):Int→aA:=fun r=>⟨(.i r),[],[]⟩
theorem avl:∀(zp0:Bool)(p0:List Int),bI ank aww ⟨[(.imm zp0 .il p0),(.fn 169 [])],[]⟩=(nm5 p0).run fun r=>some (anl zp0 p0 r):=fun _ _=>by kernel_rfl
def awv (av:List AV) (rs:List Root):Tre aA:=
 aB av fun a0_ av0=>
 aB av0 fun a1_ av1=>
 aL av1<|
 aL rs<|
 bE .il a0_ fun z2 d1=>
 vW 169 [] a1_<|
 .mat (ajR d1) fun r=>.ret (anl z2 d1 r)
def aty:Ctr:=dD [] awv
theorem avm:Contract Try.prog .none 125 aty:=aD (V:=ank) aT (ak NK auu aI) Try.func125 (bJ (n:=1) fun k hk=>by
 match k,hk with
 |0,_=>exact bM (id:=2) aoA) fun _ _ _=>aH fun _ _=>aH fun _ _=>bn<|bn<|dI fun _ _=>tFn<|fun h=>by intros;subst_vars;exact bg (avl _ _) h
def iN (aQ:(List (List Int))) (bL:Int):(Int×(List Int))→Tre ((Int×(List Int)) ⊕ (List Int)):=fun s3=>
 .cond (decide (s3.1<bL))
  (.ite (0≤s3.1∧s3.1<(aQ.length:Int))<|
  .mat (aQ[s3.1.toNat]?) fun x1=>
  .mat (ajR x1) fun r2=>
  .ite ((s3.2.length+1)*8≤bS∧1≤8)<|
  .ret (.inl (aN .i64 (s3.1+1),s3.2++([r2]))))
  (.ret (.inr s3.2))
def zO (p0:au):Tre (List Int):=
 .mat (aP (iN p0.2.2.1 (p0.2.2.1.length:Int)) (0,[])) fun l3=>
 .ret l3
def oG (p0:au):Option (List Int):=(zO p0).run some
def oH:Env:=⟨tau,[(125,aty)],[]⟩
def EF:Code:=(Try.f113.body).getD .skip
def yu (eF:Bool) (aQ:(List (List Int))) (bL:Int):(Int×(List Int))→St:=fun x=>bR [(3,(.ref (5,0) [])),(8,(.imm eF (.sl .il) aQ)),(9,(.i bL)),(10,(.i x.1))] [((5,0),some ⟨false,.il,.own,x.2⟩)]
def w9 (_:Bool) (_:(List (List Int))) (_:Int):(List Int)→Ex×St:=fun x=>(.exit 0,bR [(3,(.ref (5,0) []))] [((5,0),some ⟨false,.il,.own,x⟩)])
def NI (s:St):Tre (Ex×St):=
 fA (5,0) [] (s.tmps 3)<|
 bE (.sl .il) (s.tmps 8) fun z4 d3=>
 aC true .n (s.tmps 9) fun d6=>
 aC true .n (s.tmps 10) fun d8=>
 aW false .il (s.roots (5,0)) fun m10 d11=>
 asM .own m10<|
 .mat (aP (iN d3 d6) (d8,d11)) fun x=>.ret (w9 z4 d3 d6 x)
def kY:bB:=⟨([3,8,9,10],[(5,0)]),([3],[(5,0)]),NI⟩
def wo:List (Nat×bB):=[(3,kY)]
theorem I5:∀(eF:Bool)(aQ:(List (List Int)))(bL:Int)(x:(Int×(List Int)))(c:St→Option (Ex×St)),den oH wo (aU EF 0) (yu eF aQ bL x) (bY kY.kp kY.kx c)=(iN aQ bL x).run (bZ (yu eF aQ bL) (w9 eF aQ bL) c):=fun _ _ _ _ _=>by
 kernel_rfl
theorem Lu:bP oH wo (aU EF 0) kY:=dw fun _ _ _=>kW<|dI fun _ _=>aM fun _=>aM fun _=>bN fun _ _=>tM<|fun h _ e9 e7 e5 e2 e1=>bT (I5 _ _ _) h (by subst_vars;exact aR rfl rfl ⟨e1,e2,e5,e7,trivial⟩ ⟨e9,trivial⟩)
def Um:FnI:=fnI Try.f113 wo
def Bz (_:Bool) (_:au):(List Int)→aA:=fun r=>⟨(.ref (1,0) []),[],[⟨false,.il,.own,r⟩]⟩
theorem RG:∀(zp0:Bool)(p0:au),bI oH Um ⟨[(.imm zp0 aG p0)],[]⟩=(zO p0).run fun r=>some (Bz zp0 p0 r):=fun _ _=>by kernel_rfl
def Ul (av:List AV) (rs:List Root):Tre aA:=
 aB av fun a0_ av0=>
 aL av0<|
 aL rs<|
 bE aG a0_ fun z2 d1=>
 .mat (oG d1) fun r=>.ret (Bz z2 d1 r)
def EG:Ctr:=dD [] Ul
theorem RH:Contract Try.prog .none 113 EG:=aD (V:=oH) aT (ak avm alu aI) Try.func113 (bJ (n:=1) fun k hk=>by
 match k,hk with
 |0,_=>exact bM (id:=3) Lu) fun _ _ _=>aH fun _ _=>bn<|bn<|dI fun _ _=>fun h=>by intros;subst_vars;exact bg (RG _ _) h
def ig (dX:List Int) (eu:Int) (iG:List Int) (qY:Int) (mJ:au):(Int×(List Int))→Tre ((Int×(List Int)) ⊕ (List Int)):=fun s6=>
 .cond (decide (s6.1<qY))
  (.ite (0≤s6.1∧s6.1<(iG.length:Int))<|
  .mat (iG[s6.1.toNat]?) fun x2=>
  .ite (0≤s6.1∧s6.1<(s6.2.length:Int))<|
  .mat (s6.2[s6.1.toNat]?) fun x3=>
  .ite (0≤eu∧eu<(dX.length:Int))<|
  .mat (dX[eu.toNat]?) fun x4=>
  .mat (cu mJ.1 x4 x2) fun r5=>
  .ite (0≤s6.1∧s6.1<(s6.2.length:Int))<|
  .mat (s6.2[s6.1.toNat]?) fun _=>
  let v7:=s6.2.set s6.1.toNat (jD .i64 x3 r5)
  .ret (.inl (aN .i64 (s6.1+1),v7)))
  (.ret (.inr s6.2))
def gZ (aQ:List Int) (bL:(List (List Int))) (bG:Int) (dR:au):(Int×(List Int))→Tre ((Int×(List Int)) ⊕ (List Int)):=fun s3=>
 .cond (decide (s3.1<bG))
  (.ite (0≤s3.1∧s3.1<(bL.length:Int))<|
  .mat (bL[s3.1.toNat]?) fun x1=>
  .mat (aP (ig aQ s3.1 x1 (x1.length:Int) dR) (0,s3.2)) fun l8=>
  .ret (.inl (aN .i64 (s3.1+1),l8)))
  (.ret (.inr s3.2))
def yj (p0:au) (p1:List Int):Tre (List Int):=
 .ite ((.n:K)=.n∧0≤p0.2.1∧p0.2.1=p0.2.1∧p0.2.1*(8:Nat)≤140737488355328∧1≤8)<|
 .mat (aP (gZ p1 p0.2.2.1 (p0.2.2.1.length:Int) p0) (0,List.replicate p0.2.1.toNat (0:Int))) fun l9=>
 .ret l9
def mY (p0:au) (p1:List Int):Option (List Int):=(yj p0 p1).run some
-- more
theorem aqd{f:TF3}(hf:aO f=true){n:Nat}(hn:n≤1000){row out ms:List Int}(hr:okV f n row)(ho:okV f n out){i:Nat}{x:Int}(hi:ms[i]?=some x)(hx:inF f x){c:TRC}(hc:c.1=f) :
  aP (ig ms (i:Int) row (row.length:Int) c) (0,out)=some (lJ f out row x):=by
 have hal:=QI hf ho hr hx
 refine eX (fun k=>((k:Int),(lJ f out row x).take k++out.drop k)) row.length _ (fun k hk=>?_) ?_
 ·have hkn:k<n:=by have:=hr.1;omega
  have hrk:=List.getElem?_eq_getElem hk
  have hol:k<out.length:=by rw [ho.1];exact hkn
  have hok:=List.getElem?_eq_getElem hol
  have hak:(lJ f out row x)[k]?=some (jD .i64 out[k] (fZ f x row[k])):=by
   unfold lJ
   rw [List.getElem?_map,List.getElem?_zip_eq_some.2 (show out[k]?=some (out[k],row[k]).1∧row[k]?=some (out[k],row[k]).2 from ⟨hok,hrk⟩),Option.map_some]
   dsimp only
   rw [kP hf (hr.2 _ (List.mem_of_getElem? hrk)) hx]
  have hti:((lJ f out row x).take k).length=k:=by rw [List.length_take,hal.1];omega
  have hd:out.drop k=out[k]::out.drop (k+1):=List.drop_eq_getElem_cons _
  have h1:((lJ f out row x).take k++out.drop k)[k]?=some out[k]:=by rw [List.getElem?_append_right (by omega),hti,Nat.sub_self,hd];rfl
  have h3:((lJ f out row x).take k++out.drop k).set k (jD .i64 out[k] (fZ f x row[k]))=(lJ f out row x).take (k+1)++out.drop (k+1):=by
   rw [List.set_append_right _ _ (by omega),hti,Nat.sub_self,hd,List.set_cons_zero,List.take_add_one,hak,Option.toList_some,List.append_assoc]
   rfl
  unfold ig
  dsimp only
  rw [fq hrk,eG h1,eG hi,ah (show cu c.1 x row[k]=some (fZ f x row[k]) from by rw [hc];exact abE hf hx (hr.2 _ (List.mem_of_getElem? hrk))),eG h1,Int.toNat_natCast,h3,Tre.aK,aV (by omega)]
 ·unfold ig
  dsimp only
  rw [dY,Tre.aK,List.drop_of_length_le (by rw [ho.1,hr.1];omega),List.append_nil,List.take_of_length_le (by rw [hal.1,hr.1];omega)]
theorem arH{c:TRC}{n:Nat}{p:List Nat}(h:jJ c n p){m:List Int}(hm:okV c.1 c.2.2.1.length m):mY c m=some (dJ c m):=by
 have h5:=h.h5
 have h10:=h.r10
 unfold mY yj
 rw [Tre.run_ite,if_pos (by rw [h.len];exact ⟨rfl,by omega,rfl,by omega,by decide⟩)]
 rw [ah (show aP (gZ m c.2.2.1 (c.2.2.1.length:Int) c) (0,List.replicate c.2.1.toNat 0)=some (dJ c m) from ?_),Tre.aK]
 unfold dJ aeR
 rw [h.len,Int.toNat_natCast]
 have hwz:∀i,i≤m.length→okV c.1 n (uM c.1 (fun i=>c.2.2.1.getD i []) 0 (List.replicate n 0) (m.take i)):=fun i hi=>
  Oq h.hf _ 0 _ (KJ n) (fun x hx=>hm.2 x (List.mem_of_mem_take hx)) fun j _ hj=>rows_ok h.rre.gr (by rw [List.length_take] at hj;have:=hm.1;omega)
 refine eX (fun i=>((i:Int),uM c.1 (fun i=>c.2.2.1.getD i []) 0 (List.replicate n 0) (m.take i))) c.2.2.1.length _ (fun i hi=>?_) ?_
 ·have hx:=List.getElem?_eq_getElem hi
  have hmi:=List.getElem?_eq_getElem (show i<m.length by rw [hm.1];exact hi)
  have hrow:=h.rre.gr _ (List.mem_of_getElem? hx)
  unfold gZ
  dsimp only
  rw [fq hx,ah (aqd h.hf (by omega) hrow (hwz i (by rw [hm.1];omega)) hmi (hm.2 _ (List.mem_of_getElem? hmi)) rfl),Tre.aK,aV (by omega),List.take_add_one,hmi,Option.toList_some,QJ]
  have:0+(m.take i).length=i:=by rw [List.length_take,hm.1];omega
  rw [this,nZ hx]
 ·unfold gZ
  dsimp only
  rw [dY,Tre.aK,List.take_of_length_le (by rw [hm.1];omega)]
def iM:Env:=⟨tau,[(145,uP)],[]⟩
def mZ:Code:=(Try.f115.body).getD .skip
def wY (yZ:Bool) (Ga:Bool) (aeC:Bool) (Vt:Bool) (dX:List Int) (eu:Int) (vX:(List (List Int))) (gM:Int) (vY:Int) (iG:List Int) (qY:Int) (mJ:au):(Int×(List Int))→St:=fun x=>bR [(1,(.imm yZ .il dX)),(2,(.ptr (4,0) [])),(5,(.ref (7,0) [])),(6,(.i eu)),(14,(.imm Ga (.sl .il) vX)),(15,(.i gM)),(16,(.i vY)),(21,(.imm aeC .il iG)),(22,(.i qY)),(23,(.i x.1))] [((4,0),some ⟨true,aG,(.imm Vt),mJ⟩),((7,0),some ⟨false,.il,.own,x.2⟩)]
def uX (yZ:Bool) (Ga:Bool) (_:Bool) (Vt:Bool) (dX:List Int) (_:Int) (vX:(List (List Int))) (gM:Int) (vY:Int) (_:List Int) (_:Int) (mJ:au):(List Int)→Ex×St:=fun x=>(.exit 2,bR [(1,(.imm yZ .il dX)),(2,(.ptr (4,0) [])),(5,(.ref (7,0) [])),(14,(.imm Ga (.sl .il) vX)),(15,(.i gM)),(16,(.i vY))] [((4,0),some ⟨true,aG,(.imm Vt),mJ⟩),((7,0),some ⟨false,.il,.own,x⟩)])
def Lp (s:St):Tre (Ex×St):=
 bE .il (s.tmps 1) fun z3 d2=>
 dB (4,0) [] (s.tmps 2)<|
 fA (7,0) [] (s.tmps 5)<|
 aC true .n (s.tmps 6) fun d7=>
 bE (.sl .il) (s.tmps 14) fun z10 d9=>
 aC true .n (s.tmps 15) fun d12=>
 aC true .n (s.tmps 16) fun d14=>
 bE .il (s.tmps 21) fun z17 d16=>
 aC true .n (s.tmps 22) fun d19=>
 aC true .n (s.tmps 23) fun d21=>
 aW true aG (s.roots (4,0)) fun m23 d24=>
 jg m23 fun z25=>
 aW false .il (s.roots (7,0)) fun m27 d28=>
 asM .own m27<|
 .mat (aP (ig d2 d7 d16 d19 d24) (d21,d28)) fun x=>.ret (uX z3 z10 z17 z25 d2 d7 d9 d12 d14 d16 d19 d24 x)
def kH:bB:=⟨([1,2,5,6,14,15,16,21,22,23],[(4,0),(7,0)]),([1,2,5,14,15,16],[(4,0),(7,0)]),Lp⟩
def wX (eF:Bool) (wN:Bool) (aeB:Bool) (aQ:List Int) (bL:(List (List Int))) (bG:Int) (dR:au):(Int×(List Int))→St:=fun x=>bR [(1,(.imm eF .il aQ)),(2,(.ptr (4,0) [])),(5,(.ref (7,0) [])),(14,(.imm wN (.sl .il) bL)),(15,(.i bG)),(16,(.i x.1))] [((4,0),some ⟨true,aG,(.imm aeB),dR⟩),((7,0),some ⟨false,.il,.own,x.2⟩)]
def uW (_:Bool) (_:Bool) (_:Bool) (_:List Int) (_:(List (List Int))) (_:Int) (_:au):(List Int)→Ex×St:=fun x=>(.exit 0,bR [(5,(.ref (7,0) []))] [((7,0),some ⟨false,.il,.own,x⟩)])
def Lm (s:St):Tre (Ex×St):=
 bE .il (s.tmps 1) fun z3 d2=>
 dB (4,0) [] (s.tmps 2)<|
 fA (7,0) [] (s.tmps 5)<|
 bE (.sl .il) (s.tmps 14) fun z8 d7=>
 aC true .n (s.tmps 15) fun d10=>
 aC true .n (s.tmps 16) fun d12=>
 aW true aG (s.roots (4,0)) fun m14 d15=>
 jg m14 fun z16=>
 aW false .il (s.roots (7,0)) fun m18 d19=>
 asM .own m18<|
 .mat (aP (gZ d2 d7 d10 d15) (d12,d19)) fun x=>.ret (uW z3 z8 z16 d2 d7 d10 d15 x)
def kG:bB:=⟨([1,2,5,14,15,16],[(4,0),(7,0)]),([5],[(7,0)]),Lm⟩
def kC:List (Nat×bB):=[(6,kH),(3,kG)]
theorem Gr:∀(yZ Ga aeC Vt:Bool)(dX:List Int)(eu:Int)(vX:(List (List Int)))(gM vY:Int)(iG:List Int)(qY:Int)(mJ:au)(x:(Int×(List Int)))(c:St→Option (Ex×St)),den iM kC (aU mZ 1) (wY yZ Ga aeC Vt dX eu vX gM vY iG qY mJ x) (bY kH.kp kH.kx c)=(ig dX eu iG qY mJ x).run (bZ (wY yZ Ga aeC Vt dX eu vX gM vY iG qY mJ) (uX yZ Ga aeC Vt dX eu vX gM vY iG qY mJ) c):=fun _ _ _ _ _ _ _ _ _ _ _ _ _ _=>by
 kernel_rfl
theorem JR:bP iM kC (aU mZ 1) kH:=dw fun _ _ _=>dI fun _ _=>fT<|kW<|aM fun _=>dI fun _ _=>aM fun _=>aM fun _=>dI fun _ _=>aM fun _=>aM fun _=>bN fun _ _=>rZ fun _=>bN fun _ _=>tM<|fun h _ e26 _ e22 e20 e18 e15 e13 e11 e8 e6 e5 e4 e1=>bT (Gr _ _ _ _ _ _ _ _ _ _ _ _) h (by subst_vars;exact aR rfl rfl ⟨e1,e4,e5,e6,e8,e11,e13,e15,e18,e20,trivial⟩ ⟨e22,e26,trivial⟩)
theorem Gq:∀(eF wN aeB:Bool)(aQ:List Int)(bL:(List (List Int)))(bG:Int)(dR:au)(x:(Int×(List Int)))(c:St→Option (Ex×St)),den iM kC (aU mZ 0) (wX eF wN aeB aQ bL bG dR x) (bY kG.kp kG.kx c)=(gZ aQ bL bG dR x).run (bZ (wX eF wN aeB aQ bL bG dR) (uW eF wN aeB aQ bL bG dR) c):=fun _ _ _ _ _ _ _ _ _=>by
 kernel_rfl
theorem JQ:bP iM kC (aU mZ 0) kG:=dw fun _ _ _=>dI fun _ _=>fT<|kW<|dI fun _ _=>aM fun _=>aM fun _=>bN fun _ _=>rZ fun _=>bN fun _ _=>tM<|fun h _ e17 _ e13 e11 e9 e6 e5 e4 e1=>bT (Gq _ _ _ _ _ _ _) h (by subst_vars;exact aR rfl rfl ⟨e1,e4,e5,e6,e9,e11,trivial⟩ ⟨e13,e17,trivial⟩)
def RD:FnI:=fnI Try.f115 kC
def zo (_:Bool) (_:Bool) (_:au) (_:List Int):(List Int)→aA:=fun r=>⟨(.ref (1,0) []),[],[⟨false,.il,.own,r⟩]⟩
theorem OT:∀(zp0 zp1:Bool)(p0:au)(p1:List Int),bI iM RD ⟨[(.imm zp0 aG p0),(.imm zp1 .il p1)],[]⟩=(yj p0 p1).run fun r=>some (zo zp0 zp1 p0 p1 r):=fun _ _ _ _=>by kernel_rfl
def RB (av:List AV) (rs:List Root):Tre aA:=
 aB av fun a0_ av0=>
 aB av0 fun a1_ av1=>
 aL av1<|
 aL rs<|
 bE aG a0_ fun z2 d1=>
 bE .il a1_ fun z4 d3=>
 .mat (mY d1 d3) fun r=>.ret (zo z2 z4 d1 d3 r)
def Dj:Ctr:=dD [] RB
theorem OU:Contract Try.prog .none 115 Dj:=aD (V:=iM) aT (ak xY agR aI) Try.func115 (bJ (n:=2) fun k hk=>by
 match k,hk with
 |0,_=>exact bM (id:=3) JQ
 |1,_=>exact bM (id:=6) JR) fun _ _ _=>aH fun _ _=>aH fun _ _=>bn<|bn<|dI fun _ _=>dI fun _ _=>fun h=>by intros;subst_vars;exact bg (OT _ _ _ _) h
end Go.Proofs.Ytldafhnnnabipaa
