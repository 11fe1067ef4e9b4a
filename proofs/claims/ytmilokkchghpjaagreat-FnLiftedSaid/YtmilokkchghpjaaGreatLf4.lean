/- Part 4 of the proof of FnLifted. -/
import Derived.Test.YtmilokkchghpjaaGreatLf3
set_option maxRecDepth 100000
noncomputable section
namespace Go.Proofs.YtmilokkchghpjaaGreat
open Go Go.Abs Go.Proofs
def Ra (bK:Int) (eH:Int):Int→Tre (Int ⊕ Int):=fun s2=>
 .mat (pV s2) fun r2=>
 .cond (decide (r2 ≥ eH))
  (.mat (pV s2) fun r3=>
  .ite (0≤aL .i64 (r3-eH))<|
  let v4:=rX .i64 bK (aL .i64 (r3-eH))
  .ret (.inl (jT .i64 s2 v4)))
  (.ret (.inr s2))
def al3 (p0:Int) (p1:Int):Tre Int:=
 .mat (pV p1) fun r1=>
 .mat (aS (Ra p1 r1) p0) fun l5=>
 .ret l5
def Wo (p0:Int) (p1:Int):Option Int:=(al3 p0 p1).run some
def M9:Env:=⟨tau,[(172,ED)],[]⟩
def ae3:Code:=(Tryz.f219.body).getD .skip
def Rb (bK:Int) (eH:Int):Int→St:=fun x=>bT [(0,(.i x)),(1,(.i bK)),(5,(.i eH))] []
def OI (_:Int) (_:Int):Int→Ex×St:=fun x=>(.exit 0,bT [(0,(.i x))] [])
def ahG (s:St):Tre (Ex×St):=
 aF true .n (s.tmps 0) fun d2=>
 aF true .n (s.tmps 1) fun d4=>
 aF true .n (s.tmps 5) fun d6=>
 .mat (aS (Ra d4 d6) d2) fun x=>.ret (OI d4 d6 x)
def Bn:bF:=⟨([0,1,5],[]),([0],[]),ahG⟩
def Wn:List (Nat×bF):=[(2,Bn)]
theorem aak:∀(bK eH x:Int)(c:St→Option (Ex×St)),den M9 Wn (aV ae3 0) (Rb bK eH x) (bZ Bn.kp Bn.kx c)=(Ra bK eH x).run (cu (Rb bK eH) (OI bK eH) c):=fun _ _ _ _=>by
 kernel_rfl
theorem ae4:bU M9 Wn (aV ae3 0) Bn:=dB fun _ _ _=>aO fun _=>aO fun _=>aO fun _=>fun h e5 e3 e1=>cK (aak _ _) h (by subst_vars;exact aT rfl rfl ⟨e1,e3,e5,trivial⟩ trivial)
def aoV:FnI:=fnI Tryz.f219 Wn
def XW (_:Int) (_:Int):Int→au:=fun r=>⟨(.i r),[],[]⟩
theorem al4:∀(p0 p1:Int),bH M9 aoV ⟨[(.i p0),(.i p1)],[]⟩=(al3 p0 p1).run fun r=>some (XW p0 p1 r):=fun _ _=>by kernel_rfl
def aoU (av:List AV) (rs:List Root):Tre au:=
 aB av fun a0_ av0=>
 aB av0 fun a1_ av1=>
 aJ av1<|
 aJ rs<|
 aF true .n a0_ fun d1=>
 aF true .n a1_ fun d2=>
 .mat (Wo d1 d2) fun r=>.ret (XW d1 d2 r)
def Wp:Ctr:=dx [] aoU
theorem abD:Contract Tryz.prog .none 219 Wp:=aC (V:=M9) aR (ak JZ aoB aH) Tryz.func219 (bM (n:=1) fun k hk=>by
 match k,hk with
 |0,_=>exact bP (id:=2) ae4) fun _ _ _=>aI fun _ _=>aI fun _ _=>aZ<|aZ<|aO fun _=>aO fun _=>fun h=>by intros;subst_vars;exact aW (al4 _ _) h
def pG (aX:Int):Int→Tre (Int ⊕ (Bool ⊕ Unit)):=fun s4=>
 .mat (pV s4) fun r1=>
 .mat (pV aX) fun r2=>
 .cond (decide (aL .i64 (2*r1)≤r2))
  (.mat (Wo aX s4) fun r3=>
  .cond (decide (r3=0))
   (.ret (.inr (.inl false)))
   (.ret (.inl (aL .i64 (s4+1)))))
  (.ret (.inr (.inr ())))
def Df (p0:Int):Tre Bool:=
 .cond (decide (p0<2))
  (.ret false)
  (.cond (decide (p0 ≥ 64))
   (.ret false)
   (.mat (aS (pG p0) 2) fun l4=>
   .alt l4
    (fun a5=>
     .ret a5)
    (fun _=>
     .ret true)))
def q8 (p0:Int):Option Bool:=(Df p0).run some
def q9:Env:=⟨tau,[(172,ED),(219,Wp)],[]⟩
def IE:Code:=(Tryz.f171.body).getD .skip
def qM (aX:Int):Int→St:=fun x=>bT [(0,(.i aX)),(3,(.i x))] []
def kN (_:Int):(Bool ⊕ Unit)→Ex×St
 |.inl x=>(.ret,bT [(2,(.imm true .bool x))] [])
 |.inr _=>(.exit 0,bT [(2,.dead)] [])
def BU (s:St):Tre (Ex×St):=
 aF true .n (s.tmps 0) fun d2=>
 aF true .n (s.tmps 3) fun d4=>
 .mat (aS (pG d2) d4) fun x=>.alt x (fun a0=>.ret (kN d2 (.inl a0))) (fun b0=>.ret (kN d2 (.inr b0)))
def jN:bF:=⟨([0,3],[]),([2],[]),BU⟩
def yE:List (Nat×bF):=[(4,jN)]
theorem KG:∀(aX x:Int)(c:St→Option (Ex×St)),den q9 yE (aV IE 0) (qM aX x) (bZ jN.kp jN.kx c)=(pG aX x).run (cu (qM aX) (kN aX) c):=fun _ _ _=>by
 kernel_rfl
theorem Ph:bU q9 yE (aV IE 0) jN:=fq fun s e s' h=>by
 generalize hs:restrict jN.kp s=s1 at h
 have h:(BU s1).run some=some (e,s'):=h
 obtain ⟨d2,e1,h_0⟩:=bO h
 obtain ⟨d4,e3,h_1⟩:=bO h_0
 obtain ⟨y,hy,hz⟩:=iA h_1
 refine ⟨_,_,qM d2,kN d2,pG d2,d4,y,?_,hy,?_,KG d2⟩
 ·subst hs;exact aT (T:=[(0,(.i d2)),(3,(.i d4))]) (U:=[]) rfl rfl ⟨e1,e3,trivial⟩ trivial
 ·rcases y with x|x<;>exact Option.some.inj hz
def XJ:FnI:=fnI Tryz.f171 yE
def DV (_:Int):Bool→au:=fun r=>⟨(.imm true .bool r),[],[]⟩
theorem V4:∀(p0:Int),bH q9 XJ ⟨[(.i p0)],[]⟩=(Df p0).run fun r=>some (DV p0 r):=fun _=>by kernel_rfl
def XI (av:List AV) (rs:List Root):Tre au:=
 aB av fun a0_ av0=>
 aJ av0<|
 aJ rs<|
 aF true .n a0_ fun d1=>
 .mat (q8 d1) fun r=>.ret (DV d1 r)
def IG:Ctr:=dx [] XI
theorem V5:Contract Tryz.prog .none 171 IG:=aC (V:=q9) aR (ak JZ aoB (ak abD atn aH)) Tryz.func171 (bM (n:=1) fun k hk=>by
 match k,hk with
 |0,_=>exact bP (id:=4) Ph) fun _ _ _=>aI fun _ _=>aZ<|aZ<|aO fun _=>fun h=>by intros;subst_vars;exact aW (V4 _) h
def EA (p0:(Int×(Int×Unit))):Tre Bool:=
 .cond (inR p0.1 1 5)
  (.mat (q8 p0.2.1) fun r1=>
  .cond r1
   (.mat (pV p0.2.1) fun r2=>
   .ret (decide (r2=p0.1)))
   (.ret false))
  (.ret false)
def lF (p0:(Int×(Int×Unit))):Option Bool:=(EA p0).run some
-- more
theorem Dl(f:Int×Int×Unit):lF f=some (aQ f):=by
 refine alQ ?_ ?_ (by kernel_rfl) f
 ·intro f h
  unfold lF EA
  rw [Tre.aD,h];rfl
 ·intro f h
  unfold lF EA
  rw [Tre.aD]
  have:q8 f.2.1=some false:=by
   unfold q8 Df
   rw [Tre.aD]
   by_cases h1:f.2.1<2
   ·rw [decide_eq_true h1];rfl
   ·rw [decide_eq_false h1,cond_false,Tre.aD,decide_eq_true (by omega)];rfl
  rw [ah this]
  cases inR f.1 1 5<;>rfl
def Q6:Env:=⟨tau,[(90,pW),(171,IG),(172,ED)],[]⟩
def aeU:FnI:=fnI Tryz.f88 []
def KQ (_:(Int×(Int×Unit))):Bool→au:=fun r=>⟨(.imm true .bool r),[],[]⟩
theorem acQ:∀(p0:(Int×(Int×Unit))),bH Q6 aeU ⟨[(.imm true aM p0)],[]⟩=(EA p0).run fun r=>some (KQ p0 r):=fun _=>by kernel_rfl
def aeT (av:List AV) (rs:List Root):Tre au:=
 aB av fun a0_ av0=>
 aJ av0<|
 aJ rs<|
 aF true aM a0_ fun d1=>
 .mat (lF d1) fun r=>.ret (KQ d1 r)
def yM:Ctr:=dx [] aeT
theorem Dm:Contract Tryz.prog .none 88 yM:=aC (V:=Q6) aR (ak oV abr (ak V5 axS (ak JZ aoB aH))) Tryz.func88 bn fun _ _ _=>aI fun _ _=>aZ<|aZ<|aO fun _=>fun h=>by intros;subst_vars;exact aW (acQ _) h
def X0 (p0:List Int):Tre Int:=
 .ret (p0.length:Int)
def ae5 (p0:List Int):Option Int:=(X0 p0).run some
theorem X3(p0:List Int):ae5 p0=some (p0.length:Int):=rfl
def Rf:Env:=⟨tau,[],[]⟩
def ae7:FnI:=fnI Tryz.f67 []
def K5 (_:Bool) (_:List Int):Int→au:=fun r=>⟨(.i r),[],[]⟩
theorem ac6:∀(zp0:Bool)(p0:List Int),bH Rf ae7 ⟨[(.imm zp0 .il p0)],[]⟩=(X0 p0).run fun r=>some (K5 zp0 p0 r):=fun _ _=>by kernel_rfl
def ae6 (av:List AV) (rs:List Root):Tre au:=
 aB av fun a0_ av0=>
 aJ av0<|
 aJ rs<|
 bB .il a0_ fun z2 d1=>
 .ret (K5 z2 d1 (d1.length:Int))
def lI:Ctr:=dx [] ae6
theorem mD:Contract Tryz.prog .none 67 lI:=aC (V:=Rf) aR aH Tryz.func67 bn fun _ _ _=>aI fun _ _=>aZ<|aZ<|dF fun _ _=>fun h=>by intros;subst_vars;exact yt (ac6 _ _) (X3 _) h
def vH (p0:(Int×(Int×Unit))):Tre Int:=
 .ite (0≤p0.1)<|
 .ret (rX .i64 1 p0.1)
def eU (p0:(Int×(Int×Unit))):Option Int:=(vH p0).run some
def Ol:Env:=⟨tau,[],[]⟩
def acC:FnI:=fnI Tryz.f154 []
def Iy (_:(Int×(Int×Unit))):Int→au:=fun r=>⟨(.i r),[],[]⟩
theorem ZQ:∀(p0:(Int×(Int×Unit))),bH Ol acC ⟨[(.imm true aM p0)],[]⟩=(vH p0).run fun r=>some (Iy p0 r):=fun _=>by kernel_rfl
def acB (av:List AV) (rs:List Root):Tre au:=
 aB av fun a0_ av0=>
 aJ av0<|
 aJ rs<|
 aF true aM a0_ fun d1=>
 .mat (eU d1) fun r=>.ret (Iy d1 r)
def qp:Ctr:=dx [] acB
theorem ug:Contract Tryz.prog .none 154 qp:=aC (V:=Ol) aR aH Tryz.func154 bn fun _ _ _=>aI fun _ _=>aZ<|aZ<|aO fun _=>fun h=>by intros;subst_vars;exact aW (ZQ _) h
def wO (p0:Int) (p1:(Int×(Int×Unit))):Tre Bool:=
 .mat (eU p1) fun r1=>
 let v2:=inR p0 0 (aL .i64 (r1-1))
 .ret (!v2)
def mK (p0:Int) (p1:(Int×(Int×Unit))):Option Bool:=(wO p0 p1).run some
def BL:Env:=⟨tau,[(154,qp),(90,pW)],[]⟩
def QD:FnI:=fnI Tryz.f153 []
def yw (_:Int) (p1:(Int×(Int×Unit))):Bool→au:=fun r=>⟨(.imm true .bool r),[⟨true,aM,.own,p1⟩],[]⟩
theorem O9:∀(p0:Int)(p1:(Int×(Int×Unit))),bH BL QD ⟨[(.i p0),(.ptr (0,0) [])],[⟨true,aM,.own,p1⟩]⟩=(wO p0 p1).run fun r=>some (yw p0 p1 r):=fun _ _=>by kernel_rfl
def QC (av:List AV) (rs:List Root):Tre au:=
 aB av fun a0_ av0=>
 aB av0 fun a1_ av1=>
 aJ av1<|
 aB rs fun r0_ rs0=>
 aJ rs0<|
 aF true .n a0_ fun d1=>
 dH (0,0) [] a1_<|
 iL true aM r0_ fun m2 d3=>
 asM .own m2<|
 .mat (mK d1 d3) fun r=>.ret (yw d1 d3 r)
def BM:Ctr:=dx [] QC
theorem Pb:Contract Tryz.prog .none 153 BM:=aC (V:=BL) aR (ak ug ajz (ak oV abr aH)) Tryz.func153 bn fun _ _ _=>aI fun _ _=>aI fun _ _=>aZ<|aI fun _ _=>aZ<|aO fun _=>gy<|tRt fun _ _=>tM<|fun h=>by intros;subst_vars;exact aW (O9 _ _) h
def aaG (bC:List Int) (bK:Int) (bA:(Int×(Int×Unit))):Int→Tre (Int ⊕ (Int ⊕ Unit)):=fun s2=>
 .cond (decide (s2<bK))
  (.ite (0≤s2∧s2<(bC.length:Int))<|
  .mat (bC[s2.toNat]?) fun x1=>
  .mat (mK x1 bA) fun r2=>
  .cond r2
   (.ret (.inr (.inl s2)))
   (.ret (.inl (aL .i64 (s2+1)))))
  (.ret (.inr (.inr ())))
def nm9 (p0:List Int) (p1:(Int×(Int×Unit))):Tre Int:=
 .mat (aS (aaG p0 (p0.length:Int) p1) 0) fun l3=>
 .alt l3
  (fun a4=>
   .ret a4)
  (fun _=>
   .ret (-1))
def aqH (p0:List Int) (p1:(Int×(Int×Unit))):Option Int:=(nm9 p0 p1).run some
def aqI:Env:=⟨tau,[(153,BM)],[]⟩
def axn:Code:=(Tryz.f187.body).getD .skip
def aaH (oP:Bool) (bC:List Int) (bK:Int) (bA:(Int×(Int×Unit))):Int→St:=fun x=>bT [(0,(.imm oP .il bC)),(1,(.fn 153 [(0,0)])),(7,(.i bK)),(8,(.i x))] [((0,0),some ⟨true,aM,.own,bA⟩)]
def Nv (_:Bool) (_:List Int) (_:Int) (bA:(Int×(Int×Unit))):(Int ⊕ Unit)→Ex×St
 |.inl x=>(.ret,bT [(4,(.i x))] [((0,0),some ⟨true,aM,.own,bA⟩)])
 |.inr _=>(.exit 0,bT [(4,.dead)] [((0,0),some ⟨true,aM,.own,bA⟩)])
def amN (s:St):Tre (Ex×St):=
 bB .il (s.tmps 0) fun z3 d2=>
 xY 153 [(0,0)] (s.tmps 1)<|
 aF true .n (s.tmps 7) fun d6=>
 aF true .n (s.tmps 8) fun d8=>
 bq true aM (s.roots (0,0)) fun m10 d11=>
 asM .own m10<|
 .mat (aS (aaG d2 d6 d11) d8) fun x=>.alt x (fun a0=>.ret (Nv z3 d2 d6 d11 (.inl a0))) (fun b0=>.ret (Nv z3 d2 d6 d11 (.inr b0)))
def Rs:bF:=⟨([0,1,7,8],[(0,0)]),([4],[(0,0)]),amN⟩
def auf:List (Nat×bF):=[(2,Rs)]
theorem amO:∀(oP:Bool)(bC:List Int)(bK:Int)(bA:(Int×(Int×Unit)))(x:Int)(c:St→Option (Ex×St)),den aqI auf (aV axn 0) (aaH oP bC bK bA x) (bZ Rs.kp Rs.kx c)=(aaG bC bK bA x).run (cu (aaH oP bC bK bA) (Nv oP bC bK bA) c):=fun _ _ _ _ _ _=>by
 kernel_rfl
theorem arZ:bU aqI auf (aV axn 0) Rs:=fq fun s e s' h=>by
 generalize hs:restrict Rs.kp s=s1 at h
 have h:(amN s1).run some=some (e,s'):=h
 obtain ⟨z3,d2,e1,h_0⟩:=dJ h
 obtain ⟨e4,h_1⟩:=xB h_0
 obtain ⟨d6,e5,h_2⟩:=bO h_1
 obtain ⟨d8,e7,h_3⟩:=bO h_2
 obtain ⟨m10,d11,e9,h_4⟩:=gG h_3
 obtain ⟨rfl,h_5⟩:=vD h_4
 obtain ⟨y,hy,hz⟩:=iA h_5
 refine ⟨_,_,aaH z3 d2 d6 d11,Nv z3 d2 d6 d11,aaG d2 d6 d11,d8,y,?_,hy,?_,amO z3 d2 d6 d11⟩
 ·subst hs;exact aT (T:=[(0,(.imm z3 .il d2)),(1,(.fn 153 [(0,0)])),(7,(.i d6)),(8,(.i d8))]) (U:=[((0,0),some ⟨true,aM,.own,d11⟩)]) rfl rfl ⟨e1,e4,e5,e7,trivial⟩ ⟨e9,trivial⟩
 ·rcases y with x|x<;>exact Option.some.inj hz
def aAh:FnI:=fnI Tryz.f187 auf
def aqJ (_:Bool) (_:List Int) (p1:(Int×(Int×Unit))):Int→au:=fun r=>⟨(.i r),[⟨true,aM,.own,p1⟩],[]⟩
theorem ay3:∀(zp0:Bool)(p0:List Int)(p1:(Int×(Int×Unit))),bH aqI aAh ⟨[(.imm zp0 .il p0),(.fn 153 [(0,0)])],[⟨true,aM,.own,p1⟩]⟩=(nm9 p0 p1).run fun r=>some (aqJ zp0 p0 p1 r):=fun _ _ _=>by kernel_rfl
def aAg (av:List AV) (rs:List Root):Tre au:=
 aB av fun a0_ av0=>
 aB av0 fun a1_ av1=>
 aJ av1<|
 aB rs fun r0_ rs0=>
 aJ rs0<|
 bB .il a0_ fun z2 d1=>
 xY 153 [(0,0)] a1_<|
 iL true aM r0_ fun m3 d4=>
 asM .own m3<|
 .mat (aqH d1 d4) fun r=>.ret (aqJ z2 d1 d4 r)
def axo:Ctr:=dx [] aAg
theorem ay4:Contract Tryz.prog .none 187 axo:=aC (V:=aqI) aR (ak Pb axL aH) Tryz.func187 (bM (n:=1) fun k hk=>by
 match k,hk with
 |0,_=>exact bP (id:=2) arZ) fun _ _ _=>aI fun _ _=>aI fun _ _=>aZ<|aI fun _ _=>aZ<|dF fun _ _=>tFn<|tRt fun _ _=>tM<|fun h=>by intros;subst_vars;exact aW (ay3 _ _ _) h
def nm6 (p0:List Int) (p1:(Int×(Int×Unit))):Tre Bool:=
 .mat (aqH p0 p1) fun r1=>
 .ret (decide (r1 ≥ 0))
def aqz (p0:List Int) (p1:(Int×(Int×Unit))):Option Bool:=(nm6 p0 p1).run some
def axg:Env:=⟨tau,[(187,axo)],[]⟩
def aAb:FnI:=fnI Tryz.f152 []
def aqA (_:Bool) (_:List Int) (p1:(Int×(Int×Unit))):Bool→au:=fun r=>⟨(.imm true .bool r),[⟨true,aM,.own,p1⟩],[]⟩
theorem ayX:∀(zp0:Bool)(p0:List Int)(p1:(Int×(Int×Unit))),bH axg aAb ⟨[(.imm zp0 .il p0),(.fn 153 [(0,0)])],[⟨true,aM,.own,p1⟩]⟩=(nm6 p0 p1).run fun r=>some (aqA zp0 p0 p1 r):=fun _ _ _=>by kernel_rfl
def aAa (av:List AV) (rs:List Root):Tre au:=
 aB av fun a0_ av0=>
 aB av0 fun a1_ av1=>
 aJ av1<|
 aB rs fun r0_ rs0=>
 aJ rs0<|
 bB .il a0_ fun z2 d1=>
 xY 153 [(0,0)] a1_<|
 iL true aM r0_ fun m3 d4=>
 asM .own m3<|
 .mat (aqz d1 d4) fun r=>.ret (aqA z2 d1 d4 r)
def axh:Ctr:=dx [] aAa
theorem ayY:Contract Tryz.prog .none 152 axh:=aC (V:=axg) aR (ak ay4 aoC aH) Tryz.func152 bn fun _ _ _=>aI fun _ _=>aI fun _ _=>aZ<|aI fun _ _=>aZ<|dF fun _ _=>tFn<|tRt fun _ _=>tM<|fun h=>by intros;subst_vars;exact aW (ayX _ _ _) h
def Qz (p0:(Int×(Int×Unit))) (p1:List Int):Tre Bool:=
 .mat (aqz p1 p0) fun r1=>
 .ret (!r1)
def vI (p0:(Int×(Int×Unit))) (p1:List Int):Option Bool:=(Qz p0 p1).run some
-- more
theorem ZR{f:TF3}(hf:aQ f=true)(x:Int):mK x f=some (!inR x 0 (EN f)):=by
 have:=dM hf
 have h1:eU f=some (rX .i64 1 f.1):=by
  unfold eU vH
  rw [Tre.run_ite,if_pos (by omega)]
  rfl
 unfold mK wO
 rw [ah h1,auJ hf]
 rfl
theorem QA{f:TF3}(hf:aQ f=true)(c:List Int)(hc:c.length<4611686018427387904):vI f c=some (Qj f c):=by
 have h1:aqH c f=some (lW (fun x=>!inR x 0 (EN f)) 0 c):=by
  unfold aqH nm9
  rw [Tre.mZ,tZ (xs:=c) (fun i x=>cond (!inR x 0 (EN f)) (some (.inl (i:Int))) none) (.inr ())]
  ·rw [Option.bind_some,←Tk (p:=fun x=>!inR x 0 (EN f))]
   generalize zK _ _ _ _=r
   cases r<;>rfl
  ·intro i x hx
   have hi:i<c.length:=(List.getElem?_eq_some_iff.1 hx).1
   unfold aaG
   rw [eB hx,ah (ZR hf x),Tre.aD]
   cases inR x 0 (EN f)
   ·rfl
   ·simp only [Bool.not_true,cond_false,Tre.aN,aY (show i<4611686018427387904 by omega)]
  ·unfold aaG
   exact dR
 have h2:aqz c f=some (decide (lW (fun x=>!inR x 0 (EN f)) 0 c ≥ 0)):=by
  unfold aqz nm6
  rw [ah h1]
  rfl
 unfold vI Qz Qj
 rw [ah h2,←atF (p:=fun x=>inR x 0 (EN f))]
 rfl
def UK:Env:=⟨tau,[(152,axh)],[]⟩
def ahv:FnI:=fnI Tryz.f69 []
def Om (_:Bool) (_:(Int×(Int×Unit))) (_:List Int):Bool→au:=fun r=>⟨(.imm true .bool r),[],[]⟩
theorem aeE:∀(zp0:Bool)(p0:(Int×(Int×Unit)))(p1:List Int),bH UK ahv ⟨[(.imm true aM p0),(.imm zp0 .il p1)],[]⟩=(Qz p0 p1).run fun r=>some (Om zp0 p0 p1 r):=fun _ _ _=>by kernel_rfl
def ahu (av:List AV) (rs:List Root):Tre au:=
 aB av fun a0_ av0=>
 aB av0 fun a1_ av1=>
 aJ av1<|
 aJ rs<|
 aF true aM a0_ fun d1=>
 bB .il a1_ fun z3 d2=>
 .mat (vI d1 d2) fun r=>.ret (Om z3 d1 d2 r)
def JI:Ctr:=dx [] ahu
theorem QB:Contract Tryz.prog .none 69 JI:=aC (V:=UK) aR (ak ayY ath aH) Tryz.func69 bn fun _ _ _=>aI fun _ _=>aI fun _ _=>aZ<|aZ<|aO fun _=>dF fun _ _=>fun h=>by intros;subst_vars;exact aW (aeE _ _ _) h
def Fg (p0:(Int×(Int×Unit))) (p1:List Int):Tre Bool:=
 let v1:=inR (p1.length:Int) 1 5
 .cond v1
  (.mat (vI p0 p1) fun r2=>
  .ret r2)
  (.ret false)
def uh (p0:(Int×(Int×Unit))) (p1:List Int):Option Bool:=(Fg p0 p1).run some
def Kv:Env:=⟨tau,[(67,lI),(90,pW),(69,JI)],[]⟩
def ZU:FnI:=fnI Tryz.f169 []
def Fh (_:Bool) (_:(Int×(Int×Unit))) (_:List Int):Bool→au:=fun r=>⟨(.imm true .bool r),[],[]⟩
theorem XD:∀(zp0:Bool)(p0:(Int×(Int×Unit)))(p1:List Int),bH Kv ZU ⟨[(.imm true aM p0),(.imm zp0 .il p1)],[]⟩=(Fg p0 p1).run fun r=>some (Fh zp0 p0 p1 r):=fun _ _ _=>by kernel_rfl
def ZT (av:List AV) (rs:List Root):Tre au:=
 aB av fun a0_ av0=>
 aB av0 fun a1_ av1=>
 aJ av1<|
 aJ rs<|
 aF true aM a0_ fun d1=>
 bB .il a1_ fun z3 d2=>
 .mat (uh d1 d2) fun r=>.ret (Fh z3 d1 d2 r)
def Kw:Ctr:=dx [] ZT
theorem XE:Contract Tryz.prog .none 169 Kw:=aC (V:=Kv) aR (ak mD aiI (ak oV abr (ak QB awS aH))) Tryz.func169 bn fun _ _ _=>aI fun _ _=>aI fun _ _=>aZ<|aZ<|aO fun _=>dF fun _ _=>fun h=>by intros;subst_vars;exact aW (XD _ _ _) h
def oz (p0:List Int) (p1:(Int×(Int×Unit))) (p2:(List (List Int))):Tre Bool:=
 .mat (uh p1 p0) fun r1=>
 .cond (!r1)
  (.ret true)
  (.ite ((0:Int)≤0∧(0:Int)<(p2.length:Int))<|
  .mat (p2[0]?) fun x2=>
  .ret (!decide ((p0.length:Int)=(x2.length:Int))))
def jg (p0:List Int) (p1:(Int×(Int×Unit))) (p2:(List (List Int))):Option Bool:=(oz p0 p1 p2).run some
def uK:Env:=⟨tau,[(169,Kw)],[]⟩
def He:FnI:=fnI Tryz.f168 []
def qZ (_:Bool) (zp1:Bool) (_:List Int) (p1:(Int×(Int×Unit))) (p2:(List (List Int))):Bool→au:=fun r=>⟨(.imm true .bool r),[⟨true,aM,.own,p1⟩,⟨true,(.sl .il),(.imm zp1),p2⟩],[]⟩
theorem FD:∀(zp0 zp1:Bool)(p0:List Int)(p1:(Int×(Int×Unit)))(p2:(List (List Int))),bH uK He ⟨[(.imm zp0 .il p0),(.ptr (0,0) []),(.ptr (0,1) [])],[⟨true,aM,.own,p1⟩,⟨true,(.sl .il),(.imm zp1),p2⟩]⟩=(oz p0 p1 p2).run fun r=>some (qZ zp0 zp1 p0 p1 p2 r):=fun _ _ _ _ _=>by kernel_rfl
def G9 (av:List AV) (rs:List Root):Tre au:=
 aB av fun a0_ av0=>
 aB av0 fun a1_ av1=>
 aB av1 fun a2_ av2=>
 aJ av2<|
 aB rs fun r0_ rs0=>
 aB rs0 fun r1_ rs1=>
 aJ rs1<|
 bB .il a0_ fun z2 d1=>
 dH (0,0) [] a1_<|
 dH (0,1) [] a2_<|
 iL true aM r0_ fun m3 d4=>
 asM .own m3<|
 iL true (.sl .il) r1_ fun m5 d6=>
 fI m5 fun z7=>
 .mat (jg d1 d4 d6) fun r=>.ret (qZ z2 z7 d1 d4 d6 r)
def uL:Ctr:=dx [] G9
theorem FE:Contract Tryz.prog .none 168 uL:=aC (V:=uK) aR (ak XE axQ aH) Tryz.func168 bn fun _ _ _=>aI fun _ _=>aI fun _ _=>aI fun _ _=>aZ<|aI fun _ _=>aI fun _ _=>aZ<|dF fun _ _=>gy<|gy<|tRt fun _ _=>tM<|tRt fun _ _=>nQ fun _=>fun h=>by intros;subst_vars;exact aW (FD _ _ _ _ _) h
def WB (bC:(List (List Int))) (bK:Int) (bA:(Int×(Int×Unit))) (gN:(List (List Int))):Int→Tre (Int ⊕ (Int ⊕ Unit)):=fun s2=>
 .cond (decide (s2<bK))
  (.ite (0≤s2∧s2<(bC.length:Int))<|
  .mat (bC[s2.toNat]?) fun x1=>
  .mat (jg x1 bA gN) fun r2=>
  .cond r2
   (.ret (.inr (.inl s2)))
   (.ret (.inl (aL .i64 (s2+1)))))
  (.ret (.inr (.inr ())))
def nm2 (p0:(List (List Int))) (p1:(Int×(Int×Unit))) (p2:(List (List Int))):Tre Int:=
 .mat (aS (WB p0 (p0.length:Int) p1 p2) 0) fun l3=>
 .alt l3
  (fun a4=>
   .ret a4)
  (fun _=>
   .ret (-1))
def aqn (p0:(List (List Int))) (p1:(Int×(Int×Unit))) (p2:(List (List Int))):Option Int:=(nm2 p0 p1 p2).run some
def aqo:Env:=⟨tau,[(168,uL)],[]⟩
def aw8:Code:=(Tryz.f194.body).getD .skip
def aaz (oP:Bool) (Ti:Bool) (bC:(List (List Int))) (bK:Int) (bA:(Int×(Int×Unit))) (gN:(List (List Int))):Int→St:=fun x=>bT [(0,(.imm oP (.sl .il) bC)),(1,(.fn 168 [(0,0),(0,1)])),(7,(.i bK)),(8,(.i x))] [((0,0),some ⟨true,aM,.own,bA⟩),((0,1),some ⟨true,(.sl .il),(.imm Ti),gN⟩)]
def Nq (_:Bool) (Ti:Bool) (_:(List (List Int))) (_:Int) (bA:(Int×(Int×Unit))) (gN:(List (List Int))):(Int ⊕ Unit)→Ex×St
 |.inl x=>(.ret,bT [(4,(.i x))] [((0,0),some ⟨true,aM,.own,bA⟩),((0,1),some ⟨true,(.sl .il),(.imm Ti),gN⟩)])
 |.inr _=>(.exit 0,bT [(4,.dead)] [((0,0),some ⟨true,aM,.own,bA⟩),((0,1),some ⟨true,(.sl .il),(.imm Ti),gN⟩)])
def amD (s:St):Tre (Ex×St):=
 bB (.sl .il) (s.tmps 0) fun z3 d2=>
 xY 168 [(0,0),(0,1)] (s.tmps 1)<|
 aF true .n (s.tmps 7) fun d6=>
 aF true .n (s.tmps 8) fun d8=>
 bq true aM (s.roots (0,0)) fun m10 d11=>
 asM .own m10<|
 bq true (.sl .il) (s.roots (0,1)) fun m13 d14=>
 fI m13 fun z15=>
 .mat (aS (WB d2 d6 d11 d14) d8) fun x=>.alt x (fun a0=>.ret (Nq z3 z15 d2 d6 d11 d14 (.inl a0))) (fun b0=>.ret (Nq z3 z15 d2 d6 d11 d14 (.inr b0)))
def Rm:bF:=⟨([0,1,7,8],[(0,0),(0,1)]),([4],[(0,0),(0,1)]),amD⟩
def aua:List (Nat×bF):=[(2,Rm)]
theorem amE:∀(oP Ti:Bool)(bC:(List (List Int)))(bK:Int)(bA:(Int×(Int×Unit)))(gN:(List (List Int)))(x:Int)(c:St→Option (Ex×St)),den aqo aua (aV aw8 0) (aaz oP Ti bC bK bA gN x) (bZ Rm.kp Rm.kx c)=(WB bC bK bA gN x).run (cu (aaz oP Ti bC bK bA gN) (Nq oP Ti bC bK bA gN) c):=fun _ _ _ _ _ _ _ _=>by
 kernel_rfl
theorem arU:bU aqo aua (aV aw8 0) Rm:=fq fun s e s' h=>by
 generalize hs:restrict Rm.kp s=s1 at h
 have h:(amD s1).run some=some (e,s'):=h
 obtain ⟨z3,d2,e1,h_0⟩:=dJ h
 obtain ⟨e4,h_1⟩:=xB h_0
 obtain ⟨d6,e5,h_2⟩:=bO h_1
 obtain ⟨d8,e7,h_3⟩:=bO h_2
 obtain ⟨m10,d11,e9,h_4⟩:=gG h_3
 obtain ⟨rfl,h_5⟩:=vD h_4
 obtain ⟨m13,d14,e12,h_6⟩:=gG h_5
 obtain ⟨z15,rfl,h_7⟩:=BF h_6
 obtain ⟨y,hy,hz⟩:=iA h_7
 refine ⟨_,_,aaz z3 z15 d2 d6 d11 d14,Nq z3 z15 d2 d6 d11 d14,WB d2 d6 d11 d14,d8,y,?_,hy,?_,amE z3 z15 d2 d6 d11 d14⟩
 ·subst hs;exact aT (T:=[(0,(.imm z3 (.sl .il) d2)),(1,(.fn 168 [(0,0),(0,1)])),(7,(.i d6)),(8,(.i d8))]) (U:=[((0,0),some ⟨true,aM,.own,d11⟩),((0,1),some ⟨true,(.sl .il),(.imm z15),d14⟩)]) rfl rfl ⟨e1,e4,e5,e7,trivial⟩ ⟨e9,e12,trivial⟩
 ·rcases y with x|x<;>exact Option.some.inj hz
def az3:FnI:=fnI Tryz.f194 aua
def aqp (_:Bool) (zp1:Bool) (_:(List (List Int))) (p1:(Int×(Int×Unit))) (p2:(List (List Int))):Int→au:=fun r=>⟨(.i r),[⟨true,aM,.own,p1⟩,⟨true,(.sl .il),(.imm zp1),p2⟩],[]⟩
theorem ayP:∀(zp0 zp1:Bool)(p0:(List (List Int)))(p1:(Int×(Int×Unit)))(p2:(List (List Int))),bH aqo az3 ⟨[(.imm zp0 (.sl .il) p0),(.fn 168 [(0,0),(0,1)])],[⟨true,aM,.own,p1⟩,⟨true,(.sl .il),(.imm zp1),p2⟩]⟩=(nm2 p0 p1 p2).run fun r=>some (aqp zp0 zp1 p0 p1 p2 r):=fun _ _ _ _ _=>by kernel_rfl
def az2 (av:List AV) (rs:List Root):Tre au:=
 aB av fun a0_ av0=>
 aB av0 fun a1_ av1=>
 aJ av1<|
 aB rs fun r0_ rs0=>
 aB rs0 fun r1_ rs1=>
 aJ rs1<|
 bB (.sl .il) a0_ fun z2 d1=>
 xY 168 [(0,0),(0,1)] a1_<|
 iL true aM r0_ fun m3 d4=>
 asM .own m3<|
 iL true (.sl .il) r1_ fun m5 d6=>
 fI m5 fun z7=>
 .mat (aqn d1 d4 d6) fun r=>.ret (aqp z2 z7 d1 d4 d6 r)
def aw9:Ctr:=dx [] az2
theorem ayQ:Contract Tryz.prog .none 194 aw9:=aC (V:=aqo) aR (ak FE axP aH) Tryz.func194 (bM (n:=1) fun k hk=>by
 match k,hk with
 |0,_=>exact bP (id:=2) arU) fun _ _ _=>aI fun _ _=>aI fun _ _=>aZ<|aI fun _ _=>aI fun _ _=>aZ<|dF fun _ _=>tFn<|tRt fun _ _=>tM<|tRt fun _ _=>nQ fun _=>fun h=>by intros;subst_vars;exact aW (ayP _ _ _ _ _) h
def nm0 (p0:(List (List Int))) (p1:(Int×(Int×Unit))) (p2:(List (List Int))):Tre Bool:=
 .mat (aqn p0 p1 p2) fun r1=>
 .ret (decide (r1 ≥ 0))
def aqj (p0:(List (List Int))) (p1:(Int×(Int×Unit))) (p2:(List (List Int))):Option Bool:=(nm0 p0 p1 p2).run some
def aw4:Env:=⟨tau,[(194,aw9)],[]⟩
def azZ:FnI:=fnI Tryz.f124 []
def aqk (_:Bool) (zp1:Bool) (_:(List (List Int))) (p1:(Int×(Int×Unit))) (p2:(List (List Int))):Bool→au:=fun r=>⟨(.imm true .bool r),[⟨true,aM,.own,p1⟩,⟨true,(.sl .il),(.imm zp1),p2⟩],[]⟩
theorem ayw:∀(zp0 zp1:Bool)(p0:(List (List Int)))(p1:(Int×(Int×Unit)))(p2:(List (List Int))),bH aw4 azZ ⟨[(.imm zp0 (.sl .il) p0),(.fn 168 [(0,0),(0,1)])],[⟨true,aM,.own,p1⟩,⟨true,(.sl .il),(.imm zp1),p2⟩]⟩=(nm0 p0 p1 p2).run fun r=>some (aqk zp0 zp1 p0 p1 p2 r):=fun _ _ _ _ _=>by kernel_rfl
def azY (av:List AV) (rs:List Root):Tre au:=
 aB av fun a0_ av0=>
 aB av0 fun a1_ av1=>
 aJ av1<|
 aB rs fun r0_ rs0=>
 aB rs0 fun r1_ rs1=>
 aJ rs1<|
 bB (.sl .il) a0_ fun z2 d1=>
 xY 168 [(0,0),(0,1)] a1_<|
 iL true aM r0_ fun m3 d4=>
 asM .own m3<|
 iL true (.sl .il) r1_ fun m5 d6=>
 fI m5 fun z7=>
 .mat (aqj d1 d4 d6) fun r=>.ret (aqk z2 z7 d1 d4 d6 r)
def aw5:Ctr:=dx [] azY
theorem ayx:Contract Tryz.prog .none 124 aw5:=aC (V:=aw4) aR (ak ayQ aoE aH) Tryz.func124 bn fun _ _ _=>aI fun _ _=>aI fun _ _=>aZ<|aI fun _ _=>aI fun _ _=>aZ<|dF fun _ _=>tFn<|tRt fun _ _=>tM<|tRt fun _ _=>nQ fun _=>fun h=>by intros;subst_vars;exact aW (ayw _ _ _ _ _) h
-- shared
theorem auD{n d:Nat}(h0:n≠0)(hn:n<2 ^ d):∃i m,i<d∧m<n∧n=m^^^2 ^ i:=by
 have hl:=Nat.log2_lt (n:=n) (k:=d) h0 |>.2 hn
 have hself:=Nat.log2_self_le h0
 have hup:=Nat.lt_log2_self (n:=n)
 have hb1:n^^^2 ^ n.log2<2 ^ n.log2:=by
  apply Nat.lt_pow_two_of_testBit
  intro i hi
  rw [Nat.testBit_xor,Nat.testBit_two_pow]
  by_cases hi2:n.log2=i
  ·subst hi2
   rw [Nat.testBit_log2 h0]
   simp
  ·have:n.testBit i=false:=Nat.testBit_lt_two_pow (Nat.lt_of_lt_of_le hup (Nat.pow_le_pow_right (by omega) (by omega)))
   rw [this]
   simp [hi2]
 exact ⟨n.log2,n^^^2 ^ n.log2,hl,by omega,by rw [Nat.xor_assoc,Nat.xor_self,Nat.xor_zero]⟩
def an0(d:Nat)(g:Nat→Nat):Prop:=∀a b,a<2 ^ d→b<2 ^ d→g (a^^^b)=g a^^^g b
theorem an0.zero{d:Nat}{g:Nat→Nat}(h:an0 d g):g 0=0:=by
 have e1:=h 0 0 (Nat.two_pow_pos d) (Nat.two_pow_pos d)
 rw [Nat.xor_self] at e1
 rw [Nat.xor_self] at e1
 exact e1
theorem axw{d:Nat}{g:Nat→Nat}(h0:g 0=0)(h:∀b i,b<2 ^ d→i<d→g (b^^^2 ^ i)=g b^^^g (2 ^ i)):an0 d g:=by
 intro b c
 induction c using Nat.strongRecOn generalizing b with
 |ind c ih=>
  intro hb hc
  by_cases hz:c=0
  ·subst hz;rw [Nat.xor_zero,h0,Nat.xor_zero]
  ·obtain ⟨i,m,hi,hm,he⟩:=auD hz hc
   have hp:2 ^ i<2 ^ d:=Nat.pow_lt_pow_right (by omega) hi
   have hm2:m<2 ^ d:=by omega
   rw [he,←Nat.xor_assoc,h _ _ (Nat.xor_lt_two_pow hb hm2) hi,ih m hm b hb hm2,h _ _ hm2 hi,Nat.xor_assoc]
theorem aqh{d:Nat}{g h:Nat→Nat}(hg:an0 d g)(hh:an0 d h)(hb:∀i,i<d→g (2 ^ i)=h (2 ^ i)):∀n,n<2 ^ d→g n=h n:=by
 intro n
 induction n using Nat.strongRecOn with
 |ind n ih=>
  intro hn
  by_cases h0:n=0
  ·subst h0;rw [hg.zero,hh.zero]
  ·obtain ⟨i,m,hi,hm,he⟩:=auD h0 hn
   have hp:2 ^ i<2 ^ d:=Nat.pow_lt_pow_right (by omega) hi
   rw [he,hg _ _ (by omega) hp,hh _ _ (by omega) hp,ih m hm (by omega),hb i hi]
def azx(d p:Nat):Bool:=(List.range (2 ^ d)).all fun a=>(List.range (2 ^ d)).all fun b=>(List.range d).all fun i=>Nat.beq (mulN p a (Nat.xor b (2 ^ i))) (Nat.xor (mulN p a b) (mulN p a (2 ^ i)))
def gK(d p:Nat):Bool:=(List.range (2 ^ d)).all fun a=>(List.range d).all fun j=>(List.range d).all fun i=>Nat.beq (mulN p (mulN p a (2 ^ j)) (2 ^ i)) (mulN p a (mulN p (2 ^ j) (2 ^ i)))
def aAq(d p:Nat):Bool:=(List.range (2 ^ d)).all fun a=>Nat.beq (mulN p a 1) a&&Nat.beq (mulN p a 0) 0
theorem ara:(jc.all fun q=>azx q.1 q.2)=true:=by kernel_rfl
theorem an9:(jc.all fun q=>gK q.1 q.2)=true:=by kernel_rfl
theorem auj:(jc.all fun q=>aAq q.1 q.2)=true:=by kernel_rfl
theorem nW{d p a b:Nat}(hq:(d,p)∈jc)(ha:a<2 ^ d)(hb:b<2 ^ d):mulN p a b<2 ^ d∧mulN p a b=mulN p b a:=by
 have h1:=List.all_eq_true.1 (List.all_eq_true.1 (List.all_eq_true.1 Yj _ hq) a (List.mem_range.2 ha)) b (List.mem_range.2 hb)
 rw [Bool.and_eq_true] at h1
 exact ⟨Nat.le_of_ble_eq_true h1.1,Nat.eq_of_beq_eq_true h1.2⟩
theorem Yk{d p a:Nat}(hq:(d,p)∈jc)(ha:a<2 ^ d):mulN p a 1=a∧mulN p a 0=0:=by
 have h1:=List.all_eq_true.1 (List.all_eq_true.1 auj _ hq) a (List.mem_range.2 ha)
 rw [Bool.and_eq_true] at h1
 exact ⟨Nat.eq_of_beq_eq_true h1.1,Nat.eq_of_beq_eq_true h1.2⟩
theorem Cq{d p a:Nat}(hq:(d,p)∈jc)(ha:a<2 ^ d):an0 d (mulN p a):=by
 refine axw (Yk hq ha).2 fun b i hb hi=>?_
 have h1:=List.all_eq_true.1 (List.all_eq_true.1 (List.all_eq_true.1 (List.all_eq_true.1 ara _ hq) a (List.mem_range.2 ha)) b (List.mem_range.2 hb)) i (List.mem_range.2 hi)
 exact Nat.eq_of_beq_eq_true h1
theorem U5{d p b:Nat}(hq:(d,p)∈jc)(hb:b<2 ^ d):an0 d (fun a=>mulN p a b):=by
 intro x y hx hy
 show mulN p (x^^^y) b=mulN p x b^^^mulN p y b
 rw [(nW hq (Nat.xor_lt_two_pow hx hy) hb).2,Cq hq hb x y hx hy,(nW hq hx hb).2,(nW hq hy hb).2]
theorem afD{d p a b c:Nat}(hq:(d,p)∈jc)(ha:a<2 ^ d)(hb:b<2 ^ d)(hc:c<2 ^ d):mulN p (mulN p a b) c=mulN p a (mulN p b c):=by
 have hpow:∀i,i<d→2 ^ i<2 ^ d:=fun i hi=>Nat.pow_lt_pow_right (by omega) hi
 have k1:∀i,i<d→∀b,b<2 ^ d→mulN p (mulN p a b) (2 ^ i)=mulN p a (mulN p b (2 ^ i)):=by
  intro i hi
  refine aqh (g:=fun b=>mulN p (mulN p a b) (2 ^ i)) (h:=fun b=>mulN p a (mulN p b (2 ^ i))) ?_ ?_ ?_
  ·intro x y hx hy
   show mulN p (mulN p a (x^^^y)) (2 ^ i)=_
   rw [Cq hq ha x y hx hy]
   exact U5 hq (hpow i hi) _ _ (nW hq ha hx).1 (nW hq ha hy).1
  ·intro x y hx hy
   show mulN p a (mulN p (x^^^y) (2 ^ i))=_
   rw [show mulN p (x^^^y) (2 ^ i)=_ from U5 hq (hpow i hi) x y hx hy]
   exact Cq hq ha _ _ (nW hq hx (hpow i hi)).1 (nW hq hy (hpow i hi)).1
  ·intro j hj
   have h1:=List.all_eq_true.1 (List.all_eq_true.1 (List.all_eq_true.1 (List.all_eq_true.1 an9 _ hq) a (List.mem_range.2 ha)) j (List.mem_range.2 hj)) i (List.mem_range.2 hi)
   exact Nat.eq_of_beq_eq_true h1
 refine aqh (g:=fun c=>mulN p (mulN p a b) c) (h:=fun c=>mulN p a (mulN p b c)) ?_ ?_ (fun i hi=>k1 i hi b hb) c hc
 ·exact Cq hq (nW hq ha hb).1
 ·intro x y hx hy
  show mulN p a (mulN p b (x^^^y))=_
  rw [Cq hq hb x y hx hy]
  exact Cq hq ha _ _ (nW hq hb hx).1 (nW hq hb hy).1
theorem ajR{f:TF3}(hf:aQ f=true):∃d p:Nat,(d,p)∈jc∧f=((d:Int),(p:Int),())∧∀a,inF f a→∃m:Nat,a=(m:Int)∧m<2 ^ d∧m<2 ^ 63:=by
 obtain ⟨d,p,hq,rfl⟩:=Al hf
 refine ⟨d,p,hq,rfl,fun a ha=>?_⟩
 obtain ⟨m,e,h1,h2⟩:=wH hf ha
 exact ⟨m,e,by simpa using h1,h2⟩
theorem yX{d p m n:Nat}:gX ((d:Int),(p:Int),()) (m:Int) (n:Int)=((mulN p m n:Nat):Int):=by
 unfold gX
 simp only [Int.toNat_natCast]
theorem yV{f:TF3}(hf:aQ f=true){a b:Int}(ha:inF f a)(hb:inF f b):inF f (gX f a b):=(AB hf ha hb).1
theorem mE{f:TF3}(hf:aQ f=true){a b:Int}(ha:inF f a)(hb:inF f b):gX f a b=gX f b a:=(AB hf ha hb).2
theorem axp{d p:Nat}(hq:(d,p)∈jc){x:Nat}(h:x<2 ^ d):x<2 ^ 63:=by
 have:∀q∈jc,q.1≤5:=by decide
 have h5:=this _ hq
 have:2 ^ d≤2 ^ 5:=Nat.pow_le_pow_right (by omega) h5
 omega
theorem afC{f:TF3}(hf:aQ f=true){a b c:Int}(ha:inF f a)(hb:inF f b)(hc:inF f c):gX f a (jT .i64 b c)=jT .i64 (gX f a b) (gX f a c):=by
 obtain ⟨d,p,hq,rfl,hn⟩:=ajR hf
 obtain ⟨x,rfl,hx,hx6⟩:=hn a ha
 obtain ⟨y,rfl,hy,hy6⟩:=hn b hb
 obtain ⟨z,rfl,hz,hz6⟩:=hn c hc
 rw [lJ hy6 hz6,yX,yX,yX,lJ (axp hq (nW hq hx hy).1) (axp hq (nW hq hx hz).1),Cq hq hx y z hy hz]
theorem afA{f:TF3}(hf:aQ f=true){a b c:Int}(ha:inF f a)(hb:inF f b)(hc:inF f c):gX f (gX f a b) c=gX f a (gX f b c):=by
 obtain ⟨d,p,hq,rfl,hn⟩:=ajR hf
 obtain ⟨x,rfl,hx,hx6⟩:=hn a ha
 obtain ⟨y,rfl,hy,hy6⟩:=hn b hb
 obtain ⟨z,rfl,hz,hz6⟩:=hn c hc
 rw [yX,yX,yX,yX,afD hq hx hy hz]
theorem afB{f:TF3}(hf:aQ f=true){a:Int}(ha:inF f a):gX f a 1=a:=by
 obtain ⟨d,p,hq,rfl,hn⟩:=ajR hf
 obtain ⟨x,rfl,hx,hx6⟩:=hn a ha
 rw [show (1:Int)=((1:Nat):Int) from rfl,yX,(Yk hq hx).1]
theorem AJ{f:TF3}(hf:aQ f=true){a:Int}(ha:inF f a):gX f a 0=0:=by
 obtain ⟨d,p,hq,rfl,hn⟩:=ajR hf
 obtain ⟨x,rfl,hx,hx6⟩:=hn a ha
 rw [show (0:Int)=((0:Nat):Int) from rfl,yX,(Yk hq hx).2]
theorem ajh{f:TF3}(hf:aQ f=true){a b:Int}(ha:inF f a)(hb:inF f b):jT .i64 a b=jT .i64 b a:=by
 obtain ⟨x,rfl,_,hx⟩:=wH hf ha
 obtain ⟨y,rfl,_,hy⟩:=wH hf hb
 rw [lJ hx hy,lJ hy hx,Nat.xor_comm]
theorem GV{f:TF3}(hf:aQ f=true){a b c:Int}(ha:inF f a)(hb:inF f b)(hc:inF f c):jT .i64 (jT .i64 a b) c=jT .i64 a (jT .i64 b c):=by
 obtain ⟨x,rfl,hx1,hx⟩:=wH hf ha
 obtain ⟨y,rfl,hy1,hy⟩:=wH hf hb
 obtain ⟨z,rfl,hz1,hz⟩:=wH hf hc
 rw [lJ hx hy,lJ hy hz,lJ (Nat.xor_lt_two_pow hx hy) hz,lJ hx (Nat.xor_lt_two_pow hy hz),Nat.xor_assoc]
theorem LM{f:TF3}(hf:aQ f=true){a:Int}(ha:inF f a):jT .i64 a 0=a:=by
 rw [ajh hf ha mW,AX hf ha]
theorem asG{f:TF3}(hf:aQ f=true){a:Int}(ha:inF f a):jT .i64 a a=0:=by
 obtain ⟨x,rfl,_,hx⟩:=wH hf ha
 rw [lJ hx hx,Nat.xor_self]
 rfl
-- shared
def JB(M k:Nat):List Int:=(List.replicate M 0).set k 1
def okV(f:TF3)(M:Nat)(r:List Int):Prop:=r.length=M∧∀y∈r,inF f y
theorem ag4{f:TF3}(hf:aQ f=true)(M k:Nat):okV f M (JB M k):=by
 refine ⟨by simp [JB],fun y hy=>?_⟩
 rcases List.mem_or_eq_of_mem_set hy with h|rfl
 ·rw [(List.mem_replicate.1 h).2];exact mW
 ·exact aqa hf
theorem C9{f:TF3}(M:Nat):okV f M (List.replicate M 0):=⟨by simp,fun y hy=>by rw [(List.mem_replicate.1 hy).2];exact mW⟩
theorem Xo{f:TF3}(hf:aQ f=true){M:Nat}{u w:List Int}{x:Int}(hu:okV f M u)(hw:okV f M w)(hx:inF f x):okV f M (vC f u w x):=by
 unfold vC
 refine ⟨by simp [hu.1,hw.1],fun y hy=>?_⟩
 obtain ⟨p,hp,rfl⟩:=List.mem_map.1 hy
 have h1:=List.of_mem_zip (a:=p.1) (b:=p.2) hp
 exact Nc hf (hu.2 _ h1.1) (yV hf (hw.2 _ h1.2) hx)
def BG(f:TF3)(src:Nat→List Int):Nat→List Int→List Int→List Int
 |_,acc,[]=>acc
 |k,acc,x::cs=>BG f src (k+1) (vC f acc (src k) x) cs
theorem aee{f:TF3}(hf:aQ f=true){M:Nat}{src:Nat→List Int}:∀(cs:List Int)(k:Nat)(acc:List Int),okV f M acc→(∀x∈cs,inF f x)→(∀j,k≤j→j<k+cs.length→okV f M (src j))→okV f M (BG f src k acc cs):=by
 intro cs
 induction cs with
 |nil=>intro k acc h _ _;exact h
 |cons x cs ih=>
  intro k acc h hx hs
  exact ih (k+1) _ (Xo hf h (hs k (Nat.le_refl _) (by simp)) (hx x (List.mem_cons_self ..))) (fun y hy=>hx y (List.mem_cons_of_mem _ hy)) fun j h1 h2=>hs j (by omega) (by simp;omega)
def Ep(f:TF3):List Int→List Int→Int
 |x::u,y::w=>jT .i64 (gX f x y) (Ep f u w)
 |_,_=>0
theorem L6{f:TF3}(hf:aQ f=true):∀{u w:List Int},(∀x∈u,inF f x)→(∀x∈w,inF f x)→inF f (Ep f u w):=by
 intro u
 induction u with
 |nil=>intro w _ _;exact mW
 |cons x u ih=>
  intro w hu hw
  cases w with
  |nil=>exact mW
  |cons y w=>exact Nc hf (yV hf (hu x (List.mem_cons_self ..)) (hw y (List.mem_cons_self ..))) (ih (fun z hz=>hu z (List.mem_cons_of_mem _ hz)) fun z hz=>hw z (List.mem_cons_of_mem _ hz))
theorem ZL{f:TF3}(hf:aQ f=true):∀{u w:List Int},(∀x∈u,inF f x)→(∀x∈w,inF f x)→Ep f u w=Ep f w u:=by
 intro u
 induction u with
 |nil=>intro w _ _;cases w<;>rfl
 |cons x u ih=>
  intro w hu hw
  cases w with
  |nil=>rfl
  |cons y w=>
   simp only [Ep]
   rw [mE hf (hu x (List.mem_cons_self ..)) (hw y (List.mem_cons_self ..)),ih (fun z hz=>hu z (List.mem_cons_of_mem _ hz)) fun z hz=>hw z (List.mem_cons_of_mem _ hz)]
theorem aAm{f:TF3}(hf:aQ f=true){a b c d:Int}(ha:inF f a)(hb:inF f b)(hc:inF f c)(hd:inF f d):jT .i64 (jT .i64 a b) (jT .i64 c d)=jT .i64 (jT .i64 a c) (jT .i64 b d):=by
 rw [GV hf ha hb (Nc hf hc hd),←GV hf hb hc hd,ajh hf hb hc,GV hf hc hb hd,←GV hf ha hc (Nc hf hb hd)]
theorem aro{f:TF3}(hf:aQ f=true){c:Int}(hc:inF f c):∀{u v w:List Int},u.length=v.length→(∀x∈u,inF f x)→(∀x∈v,inF f x)→(∀x∈w,inF f x)→Ep f (vC f u v c) w=jT .i64 (Ep f u w) (gX f c (Ep f v w)):=by
 intro u
 induction u with
 |nil=>
  intro v w hl _ _ _
  cases v with
  |nil=>simp only [vC,List.zip_nil_left,List.map_nil,Ep];rw [AJ hf hc,AX hf mW]
  |cons y v=>simp at hl
 |cons x u ih=>
  intro v w hl hu hv hw
  cases v with
  |nil=>simp at hl
  |cons y v=>
   cases w with
   |nil=>simp only [Ep,vC,List.zip_cons_cons,List.map_cons];rw [AJ hf hc,AX hf mW]
   |cons z w=>
    have hx:=hu x (List.mem_cons_self ..)
    have hy:=hv y (List.mem_cons_self ..)
    have hz:=hw z (List.mem_cons_self ..)
    have hu2:∀x∈u,inF f x:=fun z hz=>hu z (List.mem_cons_of_mem _ hz)
    have hv2:∀x∈v,inF f x:=fun z hz=>hv z (List.mem_cons_of_mem _ hz)
    have hw2:∀x∈w,inF f x:=fun z hz=>hw z (List.mem_cons_of_mem _ hz)
    have:=ih (by simpa using hl) hu2 hv2 hw2
    unfold vC at this
    simp only [vC,List.zip_cons_cons,List.map_cons,Ep]
    rw [this]
    have hd1:=L6 hf hu2 hw2
    have hd2:=L6 hf hv2 hw2
    have hyc:=yV hf hy hc
    rw [afC hf hc (yV hf hy hz) hd2]
    rw [mE hf (Nc hf hx hyc) hz,afC hf hz hx hyc,mE hf hz hx]
    rw [show gX f z (gX f y c)=gX f c (gX f y z) from by
     rw [mE hf hy hc,←afA hf hz hc hy,mE hf hz hc,afA hf hc hz hy,mE hf hz hy]]
    exact aAm hf (yV hf hx hz) (yV hf hc (yV hf hy hz)) hd1 (yV hf hc hd2)
theorem aiG{f:TF3}(hf:aQ f=true):∀{w:List Int}(n:Nat),(∀x∈w,inF f x)→Ep f (List.replicate n 0) w=0:=by
 intro w n
 induction n generalizing w with
 |zero=>intro _;rfl
 |succ n ih=>
  intro hw
  cases w with
  |nil=>rfl
  |cons y w=>
   simp only [List.replicate_succ,Ep]
   rw [ih fun z hz=>hw z (List.mem_cons_of_mem _ hz),mE hf mW (hw y (List.mem_cons_self ..)),AJ hf (hw y (List.mem_cons_self ..)),AX hf mW]
theorem ZM{f:TF3}(hf:aQ f=true):∀{w:List Int}(n k:Nat),(∀x∈w,inF f x)→n=w.length→k<n→Ep f (JB n k) w=w.getD k 0:=by
 intro w
 induction w with
 |nil=>intro n k _ h1 h2;simp at h1;omega
 |cons y w ih=>
  intro n k hw h1 h2
  simp only [List.length_cons] at h1
  subst h1
  have hy:=hw y (List.mem_cons_self ..)
  have hw2:∀x∈w,inF f x:=fun z hz=>hw z (List.mem_cons_of_mem _ hz)
  cases k with
  |zero=>
   simp only [JB,List.replicate_succ,List.set_cons_zero,Ep,List.getD_cons_zero]
   rw [aiG hf _ hw2,mE hf (aqa hf) hy,afB hf hy,LM hf hy]
  |succ k=>
   have:=ih w.length k hw2 rfl (by omega)
   unfold JB at this
   simp only [JB,List.replicate_succ,List.set_cons_succ,Ep,List.getD_cons_succ]
   rw [this,mE hf mW hy,AJ hf hy]
   refine AX hf ?_
   rw [List.getD_eq_getElem?_getD,List.getElem?_eq_getElem (by omega)]
   exact hw2 _ (List.getElem_mem _)
theorem aos{f:TF3}(hf:aQ f=true){M:Nat}{src:Nat→List Int}{w:List Int}(hw:∀x∈w,inF f x):∀(cs:List Int)(k:Nat)(acc:List Int),okV f M acc→(∀x∈cs,inF f x)→(∀j,k≤j→j<k+cs.length→okV f M (src j)) →
  Ep f (BG f src k acc cs) w=jT .i64 (Ep f acc w) (Ep f cs ((List.range' k cs.length).map fun j=>Ep f (src j) w)):=by
 intro cs
 induction cs with
 |nil=>intro k acc h _ _;simp only [BG,Ep];rw [LM hf (L6 hf h.2 hw)]
 |cons x cs ih=>
  intro k acc h hx hs
  have hk:=hs k (Nat.le_refl _) (by simp)
  have hx0:=hx x (List.mem_cons_self ..)
  have hx2:∀y∈cs,inF f y:=fun y hy=>hx y (List.mem_cons_of_mem _ hy)
  have hs2:∀j,k+1≤j→j<k+1+cs.length→okV f M (src j):=fun j h1 h2=>hs j (by omega) (by simp;omega)
  have hd:∀y∈(List.range' (k+1) cs.length).map (fun j=>Ep f (src j) w),inF f y:=by
   intro y hy
   obtain ⟨j,hj,rfl⟩:=List.mem_map.1 hy
   have:=List.mem_range'_1.1 hj
   exact L6 hf (hs2 j (by omega) (by omega)).2 hw
  unfold BG
  rw [ih (k+1) _ (Xo hf h hk hx0) hx2 hs2,aro hf hx0 (by rw [h.1,hk.1]) h.2 hk.2 hw]
  simp only [List.length_cons,List.range'_succ,List.map_cons,Ep]
  exact GV hf (L6 hf h.2 hw) (yV hf hx0 (L6 hf hk.2 hw)) (L6 hf hx2 hd)
-- shared
def cell(L:List (List Int))(j c:Nat):Int:=(L.getD j []).getD c 0
theorem cell_of{L:List (List Int)}{j c:Nat}{r:List Int}{x:Int}(h:L[j]?=some r)(hx:r[c]?=some x):cell L j c=x:=by
 unfold cell;rw [jX h,jX hx]
theorem alx{L:List (List Int)}{j c:Nat}{r:List Int}(h:L[j]?=some r):cell L j c=r.getD c 0:=by
 unfold cell;rw [jX h]
theorem apY{f:TF3}{n:Nat}{L:List (List Int)}(h:GR f n L)(j c:Nat):inF f (cell L j c):=by
 unfold cell
 cases hj:L[j]? with
 |none=>rw [List.getD_eq_getElem?_getD (l:=L),hj];exact mW
 |some r=>
  rw [jX hj,List.getD_eq_getElem?_getD]
  cases hc:r[c]? with
  |none=>exact mW
  |some x=>exact (BA h hj).2 x (List.mem_of_getElem? hc)
theorem ai2{f:TF3}{n:Nat}{L:List (List Int)}(h:GR f n L){j c:Nat}(hc:c<n){r:List Int}(hr:L[j]?=some r):u6 c r = !decide (cell L j c=0):=by
 have hx:=List.getElem?_eq_getElem (show c<r.length by rw [(BA h hr).1];exact hc)
 rw [cell_of hr hx]
 unfold u6
 rw [hx]
theorem al9{α:Type}(p:α→Bool):∀(l:List α)(i:Nat){k:Nat},lW p i l=((i+k:Nat):Int)→∀j,j<k→∀x,l[j]?=some x→p x=false:=by
 intro l
 induction l with
 |nil=>intro i k h j hj x hx;simp at hx
 |cons y l ih=>
  intro i k h j hj x hx
  rcases Bool.eq_false_or_eq_true (p y) with hp|hp
  ·simp only [lW,hp,cond_true] at h;omega
  ·simp only [lW,hp,cond_false] at h
   cases j with
   |zero=>simp only [List.getElem?_cons_zero,Option.some.injEq] at hx;subst hx;exact hp
   |succ j=>exact ih (i+1) (k:=k-1) (by rw [h];congr 1;omega) j (by omega) x (by simpa using hx)
theorem ahn{f:TF3}(hf:aQ f=true){n c:Nat}(hc:c<n){a:Nat}{L:List (List Int)}(h:GR f n L) :
  ((∀j,a≤j→j<L.length→cell L j c=0)∧iM f c (a,L)=(a,L)) ∨
  ∃(k:Nat) (G:List (List Int)),a≤k∧k<L.length∧cell L k c≠0∧(∀j,a≤j→j<k→cell L j c=0)∧iM f c (a,L)=(a+1,G)∧GR f n G∧G.length=L.length ∧
   (∀e,e<n→cell G a e=gX f (cell L k e) (yT f (cell L k c))) ∧
   ∀j,j<L.length→j≠a→∀e,e<n→cell G j e=jT .i64 (cell L (if j=k then a else j) e) (gX f (cell L (if j=k then a else j) c) (cell G a e)):=by
 have hok:=L8 (c:=c) (s:=(a,L)) hf h
 rcases wT (u6 c) (L.drop a) a with ⟨h1,h2⟩|⟨k,row,h1,h2,h3⟩
 ·left
  refine ⟨fun j hj hl=>?_,?_⟩
  ·have hr:=List.getElem?_eq_getElem hl
   have hm:L[j]∈L.drop a:=by
    refine List.mem_of_getElem? (i:=j-a) ?_
    rw [List.getElem?_drop,show a+(j-a)=j by omega]
    exact hr
   have:=h2 _ hm
   rw [ai2 h hc hr] at this
   simpa using this
  ·unfold iM
   dsimp only
   rw [h1]
   rfl
 ·right
  have hak:L[a+k]?=some row:=by rw [←h1,List.getElem?_drop]
  have hlt:=(List.getElem?_eq_some_iff.1 hak).1
  obtain ⟨r0,hr0⟩:∃r0,L[a]?=some r0:=⟨_,List.getElem?_eq_getElem (by omega)⟩
  obtain ⟨x,hx,hx0⟩:=akk h2
  have hxf:=(BA h hak).2 x (List.mem_of_getElem? hx)
  have hrl:=(BA h hak).1
  have hst:iM f c (a,L)=(a+1,yg f c a (K9 f c (a+k) a L)):=by
   unfold iM
   dsimp only
   rw [h3,decide_eq_false (by omega),cond_false,Int.toNat_natCast]
  have hp:K9 f c (a+k) a L=(L.set (a+k) r0).set a (row.map fun y=>gX f y (yT f x)):=by
   unfold K9 Kj
   rw [hak,hr0]
   simp only [hx]
  have hpg:=adO (c:=c) (k:=a+k) (a:=a) hf h
  have hpa:(K9 f c (a+k) a L)[a]?=some (row.map fun y=>gX f y (yT f x)):=by rw [hp];exact List.getElem?_set_self (by simp;omega)
  have hcl:yg f c a (K9 f c (a+k) a L)=(K9 f c (a+k) a L).mapIdx (kK f c a (row.map fun y=>gX f y (yT f x))):=by
   unfold yg;rw [hpa]
  have hcg:=aiC (c:=c) (a:=a) hf hpg.1
  have hkc:cell L (a+k) c=x:=cell_of hak hx
  have hone:gX f x (yT f x)=1:=(Av hf hxf).2 hx0
  have hownc:(row.map fun y=>gX f y (yT f x))[c]?=some 1:=by rw [List.getElem?_map,hx,Option.map_some,hone]
  have hga:(yg f c a (K9 f c (a+k) a L))[a]?=some (row.map fun y=>gX f y (yT f x)):=by
   rw [hcl,List.getElem?_mapIdx,hpa,Option.map_some]
   unfold kK
   rw [hownc]
   simp
  refine ⟨a+k,yg f c a (K9 f c (a+k) a L),by omega,hlt,by rw [hkc];exact hx0,fun j h4 h5=>?_,hst,hcg.1,by rw [hcg.2,hpg.2],fun e he=>?_,fun j hj hja e he=>?_⟩
  ·-- those before the pivot
   have hr:=List.getElem?_eq_getElem (show j<L.length by omega)
   have hb:=al9 (u6 c) (L.drop a) a h3 (j-a) (by omega) L[j] (by rw [List.getElem?_drop,show a+(j-a)=j by omega];exact hr)
   rw [ai2 h hc hr] at hb
   simpa using hb
  ·have hy:=List.getElem?_eq_getElem (show e<row.length by omega)
   rw [cell_of hak hy,hkc]
   exact cell_of hga (by rw [List.getElem?_map,hy];rfl)
  ·have hj0:(K9 f c (a+k) a L)[j]?=L[if j=a+k then a else j]?:=by
    rw [hp,List.getElem?_set_ne (Ne.symm hja),List.getElem?_set]
    by_cases hjk:j=a+k
    ·rw [if_pos hjk.symm,if_pos hlt,if_pos hjk,hr0]
    ·rw [if_neg (Ne.symm hjk),if_neg hjk]
   obtain ⟨r,hr⟩:∃r,L[if j=a+k then a else j]?=some r:=⟨_,List.getElem?_eq_getElem (by split<;>omega)⟩
   rw [hr] at hj0
   obtain ⟨hrl2,hrf2⟩:=BA h hr
   have hz:=List.getElem?_eq_getElem (show c<r.length by omega)
   have hy:=List.getElem?_eq_getElem (show e<r.length by omega)
   have hye:=List.getElem?_eq_getElem (show e<(row.map fun y=>gX f y (yT f x)).length by simp;omega)
   have hyf:=hrf2 _ (List.mem_of_getElem? hy)
   have hown:=(BA hpg.1 hpa).2
   rw [cell_of hr hy,cell_of hr hz,cell_of hga hye]
   have hgj:(yg f c a (K9 f c (a+k) a L))[j]?=some (kK f c a (row.map fun y=>gX f y (yT f x)) j r):=by
    rw [hcl,List.getElem?_mapIdx,hj0,Option.map_some]
   have hwe:=hown _ (List.mem_of_getElem? hye)
   unfold kK at hgj
   rw [hz] at hgj
   dsimp only at hgj
   rw [decide_eq_false hja,Bool.false_or] at hgj
   by_cases h0:r[c]=0
   ·rw [decide_eq_true h0,cond_true] at hgj
    rw [cell_of hgj hy,h0,mE hf mW hwe,AJ hf hwe,LM hf hyf]
   ·rw [decide_eq_false h0,cond_false] at hgj
    refine cell_of hgj ?_
    rw [List.getElem?_map]
    rw [show (r.zip (row.map fun y=>gX f y (yT f x)))[e]?=some (r[e],(row.map fun y=>gX f y (yT f x))[e]'(by simp;omega)) from List.getElem?_zip_eq_some.2 ⟨hy,hye⟩]
    rfl
-- shared
structure Vt(f:TF3)(n c a:Nat)(L:List (List Int))(p:List Nat):Prop where
 gr:GR f n L
 ac:a≤c
 al:a≤L.length
 pl:p.length=a
 plt:∀q∈p,q<c
 pinc:p.Pairwise (· < ·)
 low:∀j,a≤j→j<L.length→∀e,e<c→cell L j e=0
 dia:∀i q,p[i]?=some q→∀j,j<L.length→cell L j q=if j=i then 1 else 0
 lead:∀i q,p[i]?=some q→∀e,e<q→cell L i e=0
 full:a=c→p=List.range c
theorem Vt.start{f:TF3}{n:Nat}{L:List (List Int)}(h:GR f n L):Vt f n 0 0 L []:=
 ⟨h,Nat.le_refl _,Nat.zero_le _,rfl,fun _ h=>absurd h List.not_mem_nil,List.Pairwise.nil,fun _ _ _ _ h=>absurd h (Nat.not_lt_zero _),fun i q h=>absurd h (by simp),fun i q h=>absurd h (by simp),fun _=>rfl⟩
theorem Vt.step{f:TF3}(hf:aQ f=true){n c a:Nat}{L:List (List Int)}{p:List Nat}(h:Vt f n c a L p)(hc hn:c<n):∃p',Vt f n (c+1) (iM f c (a,L)).1 (iM f c (a,L)).2 p'∧(iM f c (a,L)).2.length=L.length:=by
 rcases ahn hf hc (a:=a) h.gr with ⟨h1,h2⟩|⟨k,G,hak,hk,hx,_,h2,hg,hgl,hga,hgj⟩
 ·rw [h2]
  refine ⟨p,⟨h.gr,by have:=h.ac;omega,h.al,h.pl,fun q hq=>by have:=h.plt q hq;omega,h.pinc,fun j hj hl e he=>?_,h.dia,h.lead,fun hh=>by have:=h.ac;dsimp only at hh;omega⟩,rfl⟩
  by_cases hec:e=c
  ·subst hec;exact h1 j hj hl
  ·exact h.low j hj hl e (by omega)
 ·rw [h2]
  have hin:=apY h.gr
  have hgin:=apY hg
  have hxi:=Av hf (hin k c)
  have g1:cell G a c=1:=by rw [hga c hc];exact hxi.2 hx
  have g0:∀e,e<c→cell G a e=0:=by
   intro e he
   rw [hga e (by omega),h.low k hak hk e he,mE hf mW hxi.1,AJ hf hxi.1]
  have gj0:∀j,j<L.length→j≠a→∀e,e<c→cell G j e=cell L (if j=k then a else j) e:=by
   intro j hj hja e he
   rw [hgj j hj hja e (by omega),g0 e he,AJ hf (hin _ _),LM hf (hin _ _)]
  have gjc:∀j,j<L.length→j≠a→cell G j c=0:=by
   intro j hj hja
   rw [hgj j hj hja c hc,g1,afB hf (hin _ _),asG hf (hin _ _)]
  have hpa:∀i q,(p++[c])[i]?=some q→(p[i]?=some q∧i<a)∨(i=a∧q=c):=by
   intro i q hi
   rw [List.getElem?_append,h.pl] at hi
   by_cases hia:i<a
   ·rw [if_pos hia] at hi;exact .inl ⟨hi,hia⟩
   ·rw [if_neg hia] at hi
    have:=(List.getElem?_eq_some_iff.1 hi).1
    simp only [List.length_cons,List.length_nil] at this
    have hia2:i=a:=by omega
    subst hia2
    rw [Nat.sub_self] at hi
    exact .inr ⟨rfl,(Option.some.inj hi).symm⟩
  refine ⟨p++[c],⟨hg,by have:=h.ac;dsimp only;omega,by dsimp only;rw [hgl];omega,by simp [h.pl],fun q hq=>?_,?_,fun j hj hl e he=>?_,fun i q hi j hj=>?_,fun i q hi e he=>?_,fun hh=>?_⟩,hgl⟩
  ·rcases List.mem_append.1 hq with hq|hq
   ·have:=h.plt q hq;omega
   ·simp only [List.mem_singleton] at hq;omega
  ·refine List.pairwise_append.2 ⟨h.pinc,List.pairwise_singleton _ _,fun z hz y hy=>?_⟩
   rw [List.mem_singleton.1 hy];exact h.plt z hz
  ·rw [hgl] at hl
   dsimp only at hj
   by_cases hec:e=c
   ·subst hec;exact gjc j hl (by omega)
   ·rw [gj0 j hl (by omega) e (by omega)]
    exact h.low _ (by split<;>omega) (by split<;>omega) e (by omega)
  ·rw [hgl] at hj
   rcases hpa i q hi with ⟨hi,hia⟩|⟨rfl,rfl⟩
   ·have hqc:=h.plt q (List.mem_of_getElem? hi)
    by_cases hja:j=a
    ·subst hja;rw [g0 q hqc,if_neg (by omega)]
    ·rw [gj0 j hj hja q hqc,h.dia i q hi _ (by split<;>omega)]
     by_cases hjk:j=k
     ·rw [if_pos hjk,if_neg (by omega),if_neg (by omega)]
     ·rw [if_neg hjk]
   ·by_cases hja:j=i
    ·subst hja;rw [g1,if_pos rfl]
    ·rw [gjc j hj hja,if_neg hja]
  ·rcases hpa i q hi with ⟨hi,hia⟩|⟨rfl,rfl⟩
   ·have hqc:=h.plt q (List.mem_of_getElem? hi)
    rw [gj0 i (by have:=h.al;omega) (by omega) e (by omega),if_neg (by omega)]
    exact h.lead i q hi e he
   ·exact g0 e he
  ·dsimp only at hh
   rw [h.full (by omega),←List.range_succ]
theorem Vt.from{f:TF3}(hf:aQ f=true){n:Nat}:∀(m c a:Nat)(L:List (List Int))(p:List Nat),c+m≤n→Vt f n c a L p→∃p',Vt f n (c+m) (jW f c m (a,L)).1 (jW f c m (a,L)).2 p'∧(jW f c m (a,L)).2.length=L.length:=by
 intro m
 induction m with
 |zero=>intro c a L p _ h;exact ⟨p,h,rfl⟩
 |succ m ih=>
  intro c a L p hc h
  obtain ⟨p1,h1,hl1⟩:=h.step hf (by omega) (by omega)
  obtain ⟨p2,h2,hl2⟩:=ih (c+1) _ _ p1 (by omega) h1
  rw [show c+1+m=c+(m+1) by omega] at h2
  exact ⟨p2,h2,by rw [←hl1];exact hl2⟩
theorem Vt.all{f:TF3}(hf:aQ f=true){n m:Nat}{L:List (List Int)}(hm:m≤n)(h:GR f n L):∃p,Vt f n m (jW f 0 m (0,L)).1 (jW f 0 m (0,L)).2 p∧(jW f 0 m (0,L)).2.length=L.length:=by
 have:=Vt.from hf m 0 0 L [] (by omega) (Vt.start h)
 rw [Nat.zero_add] at this
 exact this
section
variable {f : TF3} (hf : aQ f = true) {n c : Nat} (hc : c < n) {x : List Int} (hx : ∀ y ∈ x, inF f y)
include hc
include hf hx
end
-- shared
-- shared
section
variable {f : TF3} {n a : Nat} {G : List (List Int)} {p : List Nat}
theorem Vt.row(h:Vt f n n a G p){i:Nat}(hi:i<a):∃r,(G.take a)[i]?=some r∧okV f n r∧(∀e,r.getD e 0=cell G i e):=by
 have:=h.al
 have hr:=List.getElem?_eq_getElem (show i<G.length by omega)
 exact ⟨G[i],by rw [List.getElem?_take_of_lt hi];exact hr,BA h.gr hr,fun e=>(alx hr).symm⟩
end
theorem fH{σ β:Type}{step:σ→Tre (σ ⊕ β)}(st:Nat→σ)(n:Nat)(b:β)(hs:∀i,i<n→(step (st i)).run some=some (.inl (st (i+1))))(he:(step (st n)).run some=some (.inr b)):aS step (st 0)=some b:=by
 have key:∀m i,i+m=n→aS step (st i)=some b:=by
  intro m
  induction m with
  |zero=>intro i hi;have hi:i=n:=hi;subst hi;exact eO he
  |succ m ih=>intro i hi;rw [iq (hs i (by omega))];exact ih (i+1) (by omega)
 exact key n 0 (by omega)
def Uk(l:List Nat):List Int:=l.map fun x:Nat=>(x:Int)
theorem amb(l:List Nat):(Uk l).length=l.length:=by unfold Uk;exact List.length_map _
def Ap (p0:(Int×(Int×Unit))) (p1:(List (List Int))):Tre Int:=
 .mat (lF p0) fun r1=>
 .cond (!r1)
  (.ret 1)
  (.mat (aqj p1 p0 p1) fun r2=>
  .cond r2
   (.ret 2)
   (.ret 0))
def lD (p0:(Int×(Int×Unit))) (p1:(List (List Int))):Option Int:=(Ap p0 p1).run some
-- more
theorem ao0{f:TF3}(hf:aQ f=true)(c:List Int):uh f c=some (inR (c.length:Int) 1 5&&Qj f c):=by
 unfold uh Fg
 dsimp only
 rw [Tre.aD]
 cases hi:inR (c.length:Int) 1 5
 ·rfl
 ·have:=iT.1 hi
  rw [cond_true,ah (QA hf c (by omega)),Tre.aN,Bool.true_and]
theorem U1{f:TF3}(hf:aQ f=true){ws:List (List Int)}{n:Nat}(h0:ws≠[])(hl:ws.length≤100)(h:∀w∈ws,w.length=n∧Qj f w=true)(hn:1≤n∧n≤5):lD f ws=some 0:=by
 obtain ⟨w0,ws',rfl⟩:=List.exists_cons_of_ne_nil h0
 have h1:∀w∈w0::ws',jg w f (w0::ws')=some false:=by
  intro w hw
  have hwl:=h w hw
  have hw0:=h w0 (.head _)
  unfold jg oz
  rw [ah (ao0 hf w),hwl.2,iT.2 (by omega),Tre.aD,Bool.true_and,Bool.not_true,cond_false]
  rw [Tre.run_ite,if_pos ⟨by omega,by simp⟩,ah (show (w0::ws')[0]?=some w0 from rfl),Tre.aN,decide_eq_true (by omega)]
  rfl
 have h2:aqn (w0::ws') f (w0::ws')=some (-1):=by
  unfold aqn nm2
  rw [ah (show aS (WB (w0::ws') ((w0::ws').length:Int) f (w0::ws')) 0=some (.inr ()) from ?_)]
  ·rfl
  refine fH (fun i=>(i:Int)) (w0::ws').length _ (fun i hi=>?_) ?_
  ·have hx:=List.getElem?_eq_getElem hi
   unfold WB
   rw [eB hx,ah (h1 _ (List.mem_of_getElem? hx)),Tre.aD,cond_false,Tre.aN,aY (by omega)]
  ·unfold WB
   exact dR
 have h4:aqj (w0::ws') f (w0::ws')=some false:=by
  unfold aqj nm0
  rw [ah h2,Tre.aN]
  rfl
 unfold lD Ap
 rw [ah (Dl f),hf,Tre.aD,Bool.not_true,cond_false,ah h4,Tre.aD]
 rfl
def FC:Env:=⟨tau,[(88,yM),(124,aw5)],[]⟩
def V3:FnI:=fnI Tryz.f82 []
def BR (_:Bool) (_:(Int×(Int×Unit))) (_:(List (List Int))):Int→au:=fun r=>⟨(.i r),[],[]⟩
theorem TY:∀(zp0:Bool)(p0:(Int×(Int×Unit)))(p1:(List (List Int))),bH FC V3 ⟨[(.imm true aM p0),(.imm zp0 (.sl .il) p1)],[]⟩=(Ap p0 p1).run fun r=>some (BR zp0 p0 p1 r):=fun _ _ _=>by kernel_rfl
def VZ (av:List AV) (rs:List Root):Tre au:=
 aB av fun a0_ av0=>
 aB av0 fun a1_ av1=>
 aJ av1<|
 aJ rs<|
 aF true aM a0_ fun d1=>
 bB (.sl .il) a1_ fun z3 d2=>
 .mat (lD d1 d2) fun r=>.ret (BR z3 d1 d2 r)
def wP:Ctr:=dx [] VZ
theorem DU:Contract Tryz.prog .none 82 wP:=aC (V:=FC) aR (ak Dm atr (ak ayx ate aH)) Tryz.func82 bn fun _ _ _=>aI fun _ _=>aI fun _ _=>aZ<|aZ<|aO fun _=>dF fun _ _=>fun h=>by intros;subst_vars;exact aW (TY _ _ _) h
-- shared
structure FO where
 q:Nat
 dg:Nat
 mul:Nat→Nat→Nat
 hq:1<q
 hd:1≤dg
 lt:∀a b,mul a b<q
 xlt:∀a b,a<q→b<q→a^^^b<q
 comm:∀a b,mul a b=mul b a
 assoc:∀a b c,mul (mul a b) c=mul a (mul b c)
 add:∀a b c,mul a (b^^^c)=mul a b^^^mul a c
 one:∀a,a<q→mul a 1=a
 inv:∀a,a<q→a≠0→∃b,b<q∧mul a b=1
namespace FO
variable (F : FO)
theorem mul_zero(a:Nat):F.mul a 0=0:=by
 have:=F.add a 0 0
 rw [Nat.xor_self,Nat.xor_self] at this
 exact this
theorem zero_mul(a:Nat):F.mul 0 a=0:=by rw [F.comm,F.mul_zero]
theorem azv(a b c:Nat):F.mul (a^^^b) c=F.mul a c^^^F.mul b c:=by rw [F.comm,F.add,F.comm c a,F.comm c b]
theorem nz{a b:Nat}(ha:a<F.q)(hb:b<F.q)(h:F.mul a b=0):a=0∨b=0:=by
 by_cases h0:a=0
 ·exact .inl h0
 ·right
  obtain ⟨c,hc,h1⟩:=F.inv a ha h0
  rw [←F.one b hb,←h1,F.comm,F.comm a c,F.assoc,h,F.mul_zero]
theorem zlt:0<F.q:=Nat.lt_trans Nat.zero_lt_one F.hq
def sq(a:Nat):Nat:=F.mul a a
theorem axt(a:Nat):F.sq a<F.q:=F.lt a a
theorem aqT:F.sq 0=0:=F.mul_zero 0
theorem azr(a b c:Nat):(a^^^b)^^^(b^^^c)=a^^^c:=by rw [Nat.xor_assoc,←Nat.xor_assoc b b c,Nat.xor_self,Nat.zero_xor]
theorem azg(a b:Nat):F.sq (a^^^b)=F.sq a^^^F.sq b:=by
 unfold sq
 rw [F.add,F.azv,F.azv,F.comm b a,azr]
theorem azh{a:Nat}(ha:a<F.q)(h:F.sq a=0):a=0:=(F.nz ha ha h).elim id id
def sqn:Nat→Nat→Nat
 |0,a=>a
 |k+1,a=>sqn k (F.sq a)
theorem azi:∀(k:Nat){a:Nat},a<F.q→F.sqn k a<F.q:=by
 intro k
 induction k with
 |zero=>intro a h;exact h
 |succ k ih=>intro a _;exact ih (F.axt a)
theorem awE:∀(k:Nat){a:Nat},a<F.q→F.sqn k a=0→a=0:=by
 intro k
 induction k with
 |zero=>intro a _ h;exact h
 |succ k ih=>intro a ha h;exact F.azh ha (ih (F.axt a) h)
def SX:List Bool→List Nat→Nat
 |b::bs,x::xs=>(bif b then x else 0)^^^SX bs xs
 |_,_=>0
def ald(xs:List Nat):Prop:=∀bs:List Bool,bs.length=xs.length→SX bs xs=0→∀b∈bs,b=false
theorem auw{φ:Nat→Nat}(h0:φ 0=0)(hφ:∀a b,φ (a^^^b)=φ a^^^φ b):∀(bs:List Bool)(xs:List Nat),SX bs (xs.map φ)=φ (SX bs xs):=by
 intro bs
 induction bs with
 |nil=>intro xs;cases xs<;>exact h0.symm
 |cons b bs ih=>
  intro xs
  cases xs with
  |nil=>exact h0.symm
  |cons x xs=>
   simp only [List.map_cons,SX]
   rw [ih,hφ]
   cases b
   ·simp only [cond_false];rw [h0]
   ·rfl
theorem agQ:∀(n:Nat)(xs:List Nat),SX (List.replicate n false) xs=0:=by
 intro n
 induction n with
 |zero=>intro xs;cases xs<;>rfl
 |succ n ih=>
  intro xs
  cases xs with
  |nil=>rfl
  |cons x xs=>simp only [List.replicate_succ,SX,cond_false];rw [ih];rfl
theorem ald.head{g:Nat}{gs:List Nat}(h:ald (g::gs)):g≠0:=by
 intro h0
 have:=h (true::List.replicate gs.length false) (by simp) (by simp only [SX,cond_true];rw [agQ,h0];rfl) true (List.mem_cons_self ..)
 cases this
theorem ald.tail{g:Nat}{gs:List Nat}(h:ald (g::gs)):ald gs:=by
 intro bs hl hs b hb
 exact h (false::bs) (by simp [hl]) (by simp only [SX,cond_false];rw [hs];rfl) b (List.mem_cons_of_mem _ hb)
def aao(us:List Nat)(v:Nat):Prop:=∃bs:List Bool,bs.length=us.length∧v=SX bs us
theorem auy:∀(b1 b2:List Bool)(us:List Nat),b1.length=us.length→b2.length=us.length→SX (List.zipWith xor b1 b2) us=SX b1 us^^^SX b2 us:=by
 intro b1
 induction b1 with
 |nil=>intro b2 us h1 h2;cases us with
  |nil=>simp [SX]
  |cons _ _=>simp at h1
 |cons b b1 ih=>
  intro b2 us h1 h2
  cases us with
  |nil=>simp at h1
  |cons u us=>
   cases b2 with
   |nil=>simp at h2
   |cons b' b2=>
    simp only [List.zipWith_cons_cons,SX]
    rw [ih b2 us (by simpa using h1) (by simpa using h2)]
    have:(bif xor b b' then u else 0)=(bif b then u else 0)^^^(bif b' then u else 0):=by
     cases b<;>cases b'<;>simp
    rw [this]
    ac_rfl
theorem aao.add{us:List Nat}{a b:Nat}(ha:aao us a)(hb:aao us b):aao us (a^^^b):=by
 obtain ⟨b1,h1,rfl⟩:=ha
 obtain ⟨b2,h2,rfl⟩:=hb
 exact ⟨List.zipWith xor b1 b2,by simp [h1,h2],(auy b1 b2 us h1 h2).symm⟩
theorem aao.zero(us:List Nat):aao us 0:=⟨List.replicate us.length false,by simp,(agQ _ _).symm⟩
theorem aao.cons{u:Nat}{us:List Nat}{v:Nat}(h:aao (u::us) v):aao us v∨aao us (v^^^u):=by
 obtain ⟨bs,hl,rfl⟩:=h
 cases bs with
 |nil=>simp at hl
 |cons b bs=>
  simp only [List.length_cons,Nat.add_right_cancel_iff] at hl
  cases b
  ·left;exact ⟨bs,hl,by simp only [SX,cond_false];rw [Nat.zero_xor]⟩
  ·right;exact ⟨bs,hl,by simp only [SX,cond_true];rw [Nat.xor_comm u,Nat.xor_assoc,Nat.xor_self,Nat.xor_zero]⟩
theorem aao.map{φ:Nat→Nat}(h0:φ 0=0)(hφ:∀a b,φ (a^^^b)=φ a^^^φ b){us:List Nat}{v:Nat}(h:aao us v):aao (us.map φ) (φ v):=by
 obtain ⟨bs,hl,rfl⟩:=h
 exact ⟨bs,by simpa using hl,(auw h0 hφ bs us).symm⟩
end FO
-- shared
def cf(p:List Nat)(i:Nat):Nat:=p.getD i 0
theorem ZG(i:Nat):cf [] i=0:=by simp [cf]
theorem ajt(a:Nat)(p:List Nat):cf (a::p) 0=a:=by simp [cf]
theorem AY(a:Nat)(p:List Nat)(i:Nat):cf (a::p) (i+1)=cf p i:=by simp [cf]
theorem asV{p:List Nat}{i:Nat}(h:p.length≤i):cf p i=0:=by
 unfold cf
 rw [List.getD_eq_getElem?_getD,List.getElem?_eq_none h];rfl
theorem axy:∀{p q:List Nat},p.length=q.length→(∀i,cf p i=cf q i)→p=q:=by
 intro p
 induction p with
 |nil=>intro q h _;exact (List.length_eq_zero_iff.1 h.symm).symm
 |cons a p ih=>
  intro q h hc
  cases q with
  |nil=>simp at h
  |cons b q=>
   have h0:=hc 0
   rw [ajt,ajt] at h0
   rw [h0,ih (by simpa using h) fun i=>by have:=hc (i+1);rwa [AY,AY] at this]
def an2:List Nat→List Nat→List Nat
 |[],q=>q
 |a::p,[]=>a::p
 |a::p,b::q=>(a^^^b)::an2 p q
theorem apZ:∀(p q:List Nat)(i:Nat),cf (an2 p q) i=cf p i^^^cf q i:=by
 intro p
 induction p with
 |nil=>intro q i;rw [ZG,Nat.zero_xor];rfl
 |cons a p ih=>
  intro q i
  cases q with
  |nil=>rw [ZG,Nat.xor_zero];rfl
  |cons b q=>
   cases i with
   |zero=>rfl
   |succ i=>simp only [an2,AY];exact ih q i
def O8:List Nat→List Nat
 |[]=>[]
 |a::p=>match O8 p with
  |[]=>if a=0 then [] else [a]
  |b::q=>a::b::q
theorem Xt:∀(p:List Nat)(i:Nat),cf (O8 p) i=cf p i:=by
 intro p
 induction p with
 |nil=>intro i;rfl
 |cons a p ih=>
  intro i
  unfold O8
  cases ht:O8 p with
  |nil=>
   rw [ht] at ih
   simp only
   split
   ·rename_i h
    subst h
    cases i with
    |zero=>rfl
    |succ i=>rw [AY,←ih i,ZG,ZG]
   ·cases i with
    |zero=>rfl
    |succ i=>rw [AY,AY,←ih i]
  |cons b q=>
   rw [ht] at ih
   simp only
   cases i with
   |zero=>rfl
   |succ i=>rw [AY,AY,←ih i]
theorem ag1:∀(p:List Nat),O8 p≠[]→cf (O8 p) ((O8 p).length-1)≠0:=by
 intro p
 induction p with
 |nil=>intro h;exact absurd rfl h
 |cons a p ih=>
  unfold O8
  cases ht:O8 p with
  |nil=>
   simp only
   split
   ·intro h;exact absurd rfl h
   ·rename_i h;intro _;exact h
  |cons b q=>
   rw [ht] at ih
   intro _
   have:=ih (by simp)
   simp only [List.length_cons,Nat.add_sub_cancel] at this ⊢
   rw [AY];exact this
theorem asB{p q:List Nat}(hp:p≠[]→cf p (p.length-1)≠0)(hq:q≠[]→cf q (q.length-1)≠0)(h:∀i,cf p i=cf q i):p=q:=by
 have key:∀{p q:List Nat},(p≠[]→cf p (p.length-1)≠0)→(∀i,cf p i=cf q i)→p.length≤q.length:=by
  intro p q hp h
  by_cases hn:p=[]
  ·subst hn;exact Nat.zero_le _
  ·have:=hp hn
   have hl:0<p.length:=List.length_pos_iff.2 hn
   apply Classical.byContradiction
   intro hlt
   rw [h,asV (by omega)] at this
   exact this rfl
 exact axy (Nat.le_antisymm (key hp h) (key hq fun i=>(h i).symm)) h
namespace FO
variable (F : FO)
def BH:List Nat→(Nat→Nat)→Nat→Nat
 |[],_,_=>0
 |v::vs,x,i=>F.mul v (x i)^^^(match i with
  |0=>0
  |i+1=>BH vs (fun j=>F.sq (x j)) i)
theorem auZ:∀{p q:List Nat},(∀c∈p,c<F.q)→(∀c∈q,c<F.q)→∀c∈an2 p q,c<F.q:=by
 intro p
 induction p with
 |nil=>intro q _ hq;exact hq
 |cons a p ih=>
  intro q hp hq
  cases q with
  |nil=>exact hp
  |cons b q=>
   intro c hc
   rcases List.mem_cons.1 hc with rfl|hc
   ·exact F.xlt _ _ (hp _ (List.mem_cons_self ..)) (hq _ (List.mem_cons_self ..))
   ·exact ih (fun c hc=>hp c (List.mem_cons_of_mem _ hc)) (fun c hc=>hq c (List.mem_cons_of_mem _ hc)) c hc
theorem aq6:∀(V:List Nat)(x y:Nat→Nat)(i:Nat),F.BH V (fun j=>x j^^^y j) i=F.BH V x i^^^F.BH V y i:=by
 intro V
 induction V with
 |nil=>intro x y i;simp [BH]
 |cons v vs ih=>
  intro x y i
  simp only [BH]
  rw [F.add]
  cases i with
  |zero=>simp
  |succ i=>
   simp only
   rw [show (fun j=>F.sq (x j^^^y j))=fun j=>F.sq (x j)^^^F.sq (y j) from funext fun j=>F.azg _ _,ih]
   ac_rfl
theorem aq7:∀(V:List Nat)(d:Nat)(x:Nat→Nat)(j:Nat),V.length≤d+1→(∀i,j<i→x i=0)→F.BH V x (d+j)=F.mul (cf V d) (F.sqn d (x j)):=by
 intro V
 induction V with
 |nil=>intro d x j _ _;rw [ZG,F.zero_mul];rfl
 |cons v vs ih=>
  intro d x j hl hx
  cases d with
  |zero=>
   have:vs=[]:=by simpa using hl
   subst this
   rw [Nat.zero_add,ajt]
   simp only [BH,sqn]
   cases j with
   |zero=>simp
   |succ j=>simp
  |succ d=>
   rw [show d+1+j=d+j+1 by omega]
   simp only [BH]
   rw [hx _ (by omega),F.mul_zero,Nat.zero_xor,ih d (fun i=>F.sq (x i)) j (by simpa using hl) (fun i hi=>by rw [hx i hi,F.aqT]),AY]
   rfl
theorem as0{V x:List Nat}(hV:∀c∈V,c<F.q)(hx:∀c∈x,c<F.q)(hn:V≠[])(hl:cf V (V.length-1)≠0)(h:∀i,V.length-1≤i→F.BH V (cf x) i=0):∀i,cf x i=0:=by
 have hvl:0<V.length:=List.length_pos_iff.2 hn
 have hlt:∀{l:List Nat},(∀c∈l,c<F.q)→∀i,cf l i<F.q:=by
  intro l hl i
  unfold cf
  rw [List.getD_eq_getElem?_getD]
  cases hi:l[i]? with
  |none=>exact F.zlt
  |some c=>exact hl c (List.mem_of_getElem? hi)
 have key:O8 x=[]:=by
  apply Classical.byContradiction
  intro hne
  have ht:=ag1 x hne
  rw [Xt] at ht
  have htop:=F.aq7 V (V.length-1) (cf x) ((O8 x).length-1) (by omega) (fun i hi=>by rw [←Xt];exact asV (by omega))
  rw [h _ (by omega)] at htop
  rcases F.nz (hlt hV _) (F.azi _ (hlt hx _)) htop.symm with h0|h0
  ·exact hl h0
  ·exact ht (F.awE _ (hlt hx _) h0)
 intro i
 rw [←Xt,key,ZG]
end FO
-- shared
theorem ajT{d p a:Nat}(hq:(d,p)∈jc)(ha:a<2 ^ d)(h0:a≠0):qN d p a<2 ^ d∧mulN p a (qN d p a)=1:=by
 have h:=List.all_eq_true.1 (List.all_eq_true.1 X7 (d,p) hq) a (List.mem_range.2 ha)
 rw [Bool.and_eq_true,Bool.or_eq_true] at h
 exact ⟨by simpa [Nat.blt_eq] using h.1,(h.2.resolve_left fun h=>h0 (Nat.eq_of_beq_eq_true h)) |> Nat.eq_of_beq_eq_true⟩
theorem I6{a d:Nat}:a%2 ^ d<2 ^ d:=Nat.mod_lt _ (Nat.two_pow_pos d)
theorem one_mod{d:Nat}(hd:1≤d):1%2 ^ d=1:=Nat.mod_eq_of_lt (Nat.lt_of_lt_of_le (by decide:1<2 ^ 1) (Nat.pow_le_pow_right (by decide) hd))
theorem VH{d p:Nat}(hq:(d,p)∈jc):1≤d∧d≤5:=by
 have:∀q∈jc,1≤q.1∧q.1≤5:=by decide
 exact this _ hq
def foN(d p:Nat)(hq:(d,p)∈jc):FO where
 q:=2 ^ d
 dg:=d
 mul:=fun a b=>mulN p (a%2 ^ d) (b%2 ^ d)
 hq:=Nat.lt_of_lt_of_le (by decide:1<2 ^ 1) (Nat.pow_le_pow_right (by decide) (VH hq).1)
 hd:=(VH hq).1
 lt:=fun a b=>(nW hq I6 I6).1
 xlt:=fun a b ha hb=>Nat.xor_lt_two_pow ha hb
 comm:=fun a b=>(nW hq I6 I6).2
 assoc:=fun a b c=>by rw [Nat.mod_eq_of_lt (nW hq I6 I6).1,Nat.mod_eq_of_lt (nW hq (a:=b%2 ^ d) (b:=c%2 ^ d) I6 I6).1];exact afD hq I6 I6 I6
 add:=fun a b c=>by rw [Nat.xor_mod_two_pow];exact Cq hq I6 _ _ I6 I6
 one:=fun a ha=>by rw [Nat.mod_eq_of_lt ha,one_mod (VH hq).1];exact (Yk hq ha).1
 inv:=fun a ha h0=>⟨qN d p a,(ajT hq ha h0).1,by rw [Nat.mod_eq_of_lt ha,Nat.mod_eq_of_lt (ajT hq ha h0).1];exact (ajT hq ha h0).2⟩
theorem aoH{f:TF3}(hf:aQ f=true):(f.1.toNat,f.2.1.toNat)∈jc∧f=((f.1.toNat:Int),(f.2.1.toNat:Int),()):=by
 obtain ⟨d,p,hq,rfl⟩:=Al hf
 exact ⟨hq,rfl⟩
def FOf(f:TF3)(hf:aQ f=true):FO:=foN f.1.toNat f.2.1.toNat (aoH hf).1
section
variable {f : TF3} (hf : aQ f = true)
theorem Xn:(FOf f hf).q=2 ^ f.1.toNat:=rfl
theorem ap9{x:Int}:inF f x ↔ ∃n:Nat,x=(n:Int)∧n<(FOf f hf).q:=by
 unfold inF
 rw [Xn]
 constructor
 ·intro h;exact ⟨x.toNat,by omega,by omega⟩
 ·rintro ⟨n,rfl,h⟩;exact ⟨by omega,by exact_mod_cast h⟩
theorem F63{n:Nat}(h:n<(FOf f hf).q):n<2 ^ 63:=by
 rw [Xn] at h
 have:=Nat.pow_le_pow_right (show 0<2 by decide) (show f.1.toNat≤63 by have:=(Xy hf).2;omega)
 omega
theorem ayv{a b:Nat}(ha:a<(FOf f hf).q)(hb:b<(FOf f hf).q):gX f (a:Int) (b:Int)=(((FOf f hf).mul a b:Nat):Int):=by
 rw [Xn] at ha hb
 unfold gX FOf foN
 simp only [Int.toNat_natCast]
 rw [Nat.mod_eq_of_lt ha,Nat.mod_eq_of_lt hb]
theorem azq{a b:Nat}(ha:a<(FOf f hf).q)(hb:b<(FOf f hf).q):jT .i64 (a:Int) (b:Int)=((a^^^b:Nat):Int):=lJ (F63 hf ha) (F63 hf hb)
theorem ayr{a:Nat}(ha:a<(FOf f hf).q):∃b:Nat,yT f (a:Int)=(b:Int)∧b<(FOf f hf).q∧(a≠0→(FOf f hf).mul a b=1):=by
 obtain ⟨h1,h2⟩:=Av hf ((ap9 hf).2 ⟨a,rfl,ha⟩)
 obtain ⟨b,hb,hbl⟩:=(ap9 hf).1 h1
 refine ⟨b,hb,hbl,fun h0=>?_⟩
 have:=h2 (by omega)
 rw [hb,ayv hf ha hbl] at this
 omega
end
def inL(F:FO)(l:List Nat):Prop:=∀x∈l,x<F.q
theorem ajS{f:TF3}(hf:aQ f=true){l:List Int}(h:∀x∈l,inF f x):∃L,l=Uk L∧inL (FOf f hf) L:=by
 induction l with
 |nil=>exact ⟨[],rfl,fun x hx=>absurd hx List.not_mem_nil⟩
 |cons x l ih=>
  obtain ⟨L,rfl,hL⟩:=ih fun y hy=>h y (List.mem_cons_of_mem _ hy)
  obtain ⟨n,rfl,hn⟩:=(ap9 hf).1 (h x (List.mem_cons_self ..))
  refine ⟨n::L,rfl,fun y hy=>?_⟩
  rcases List.mem_cons.1 hy with rfl|hy
  ·exact hn
  ·exact hL y hy
theorem avF{f:TF3}(hf:aQ f=true){L:List Nat}(h:inL (FOf f hf) L):∀x∈Uk L,inF f x:=by
 intro x hx
 obtain ⟨n,hn,rfl⟩:=List.mem_map.1 hx
 exact (ap9 hf).2 ⟨n,rfl,h n hn⟩
theorem aly{F:FO}{l:List Nat}(h:inL F l)(i:Nat):cf l i<F.q:=by
 unfold cf
 rw [List.getD_eq_getElem?_getD]
 cases hi:l[i]? with
 |none=>exact F.zlt
 |some c=>exact h c (List.mem_of_getElem? hi)
theorem aec{l:List Nat}{i:Nat}(h:i<l.length):l[i]?=some (cf l i):=by
 unfold cf
 rw [List.getD_eq_getElem?_getD,List.getElem?_eq_getElem h];rfl
def agd (p0:List Int):Tre (List Int):=
 .ite ((0+p0.length)*8≤bQ∧1≤8)<|
 .ret ([]++p0)
def agf (p0:List Int):Option (List Int):=(agd p0).run some
theorem ah4(p0 y:List Int)(h:yh p0=some y):agf p0=some y:=by
 obtain ⟨hl,rfl⟩:=afu h
 have hb:(0+p0.length)*8≤bQ∧1≤8:=by unfold bQ;omega
 unfold agf agd
 rw [Tre.run_ite,if_pos hb]
 rfl
def agh:Env:=⟨tau,[],[]⟩
def apz:FnI:=fnI Tryz.f139 []
def YO (_:Bool) (_:List Int):(List Int)→au:=fun r=>⟨(.ref (1,0) []),[],[⟨false,.il,.own,r⟩]⟩
theorem ani:∀(zp0:Bool)(p0:List Int),bH agh apz ⟨[(.imm zp0 .il p0)],[]⟩=(agd p0).run fun r=>some (YO zp0 p0 r):=fun _ _=>by kernel_rfl
def apy (av:List AV) (rs:List Root):Tre au:=
 aB av fun a0_ av0=>
 aJ av0<|
 aJ rs<|
 bB .il a0_ fun z2 d1=>
 .mat (yh d1) fun r=>.ret (YO z2 d1 r)
def agi:Ctr:=dx [] apy
theorem anj:Contract Tryz.prog .none 139 agi:=aC (V:=agh) aR aH Tryz.func139 bn fun _ _ _=>aI fun _ _=>aZ<|aZ<|dF fun _ _=>fun h=>by intros;subst_vars;exact Es (ani _ _) (ah4 _) h
def agw (p0:Int) (p1:Int):Tre Int:=
 .ite (0≤aL .u64 p1)<|
 let v1:=Pz .i64 p0 (aL .u64 p1)
 .ret (Nb .i64 v1 1)
def agx (p0:Int) (p1:Int):Option Int:=(agw p0 p1).run some
def als(x j:Int):Option Int:=alo (inR j 0 9223372036854775807) (Nb .i64 (Pz .i64 x j) 1)
theorem aic(p0 p1 y:Int)(h:als p0 p1=some y):agx p0 p1=some y:=by
 obtain ⟨hl,rfl⟩:=Ah h
 rw [iT] at hl
 unfold agx agw
 rw [ER hl.1 (by omega),Tre.run_ite,if_pos hl.1]
 rfl
theorem alu{x:Int}{j:Nat}(h:j≤1048576):als x (j:Int)=some (Nb .i64 (Pz .i64 x j) 1):=kX (by rw [iT];omega)
def agy:Env:=⟨tau,[],[]⟩
def apE:FnI:=fnI Tryz.f218 []
def Y0 (_:Int) (_:Int):Int→au:=fun r=>⟨(.i r),[],[]⟩
theorem anu:∀(p0 p1:Int),bH agy apE ⟨[(.i p0),(.i p1)],[]⟩=(agw p0 p1).run fun r=>some (Y0 p0 p1 r):=fun _ _=>by kernel_rfl
def apD (av:List AV) (rs:List Root):Tre au:=
 aB av fun a0_ av0=>
 aB av0 fun a1_ av1=>
 aJ av1<|
 aJ rs<|
 aF true .n a0_ fun d1=>
 aF true .n a1_ fun d2=>
 .mat (als d1 d2) fun r=>.ret (Y0 d1 d2 r)
def agz:Ctr:=dx [] apD
theorem anv:Contract Tryz.prog .none 218 agz:=aC (V:=agy) aR aH Tryz.func218 bn fun _ _ _=>aI fun _ _=>aI fun _ _=>aZ<|aZ<|aO fun _=>aO fun _=>fun h=>by intros;subst_vars;exact Es (anu _ _) (aic _ _) h
def kD (jd:Int) (Da:List Int):(Int×Int)→Tre ((Int×Int) ⊕ Int):=fun s8=>
 .cond (decide (s8.2<(Da.length:Int)))
  (.cond (decide (s8.1<0))
   (.ite (0≤s8.2∧s8.2<(Da.length:Int))<|
   .mat (Da[s8.2.toNat]?) fun x2=>
   .mat (als x2 jd) fun r3=>
   .cond (decide (r3=1))
    (.ret (.inl (s8.2,aL .i64 (s8.2+1))))
    (.ret (.inl (s8.1,aL .i64 (s8.2+1)))))
   (.ret (.inr s8.1)))
  (.ret (.inr s8.1))
def iE (Ba:Int) (Bb:Int):(Int×(List Int))→Tre ((Int×(List Int)) ⊕ (List Int)):=fun s16=>
 .cond (decide (s16.1<(s16.2.length:Int)))
  (.ite (0≤s16.1∧s16.1<(s16.2.length:Int))<|
  .mat (s16.2[s16.1.toNat]?) fun x7=>
  .mat (als x7 Ba) fun r8=>
  .cond (decide (r8=1))
   (.ite (0≤s16.1∧s16.1<(s16.2.length:Int))<|
   .mat (s16.2[s16.1.toNat]?) fun x9=>
   .ite (0≤s16.1∧s16.1<(s16.2.length:Int))<|
   .mat (s16.2[s16.1.toNat]?) fun _=>
   let v11:=s16.2.set s16.1.toNat (jT .i64 x9 Bb)
   .ret (.inl (aL .i64 (s16.1+1),v11)))
   (.ret (.inl (aL .i64 (s16.1+1),s16.2))))
  (.ret (.inr s16.2))
def oJ (Bh:Int) (Bj:Int):(Int×(List Int))→Tre ((Int×(List Int)) ⊕ (List Int)):=fun s21=>
 .cond (decide (s21.1<(s21.2.length:Int)))
  (.ite (0≤s21.1∧s21.1<(s21.2.length:Int))<|
  .mat (s21.2[s21.1.toNat]?) fun x13=>
  .mat (als x13 Bh) fun r14=>
  .cond (decide (r14=1))
   (.ite (0≤s21.1∧s21.1<(s21.2.length:Int))<|
   .mat (s21.2[s21.1.toNat]?) fun x15=>
   .ite (0≤s21.1∧s21.1<(s21.2.length:Int))<|
   .mat (s21.2[s21.1.toNat]?) fun _=>
   let v17:=s21.2.set s21.1.toNat (jT .i64 x15 Bj)
   .ret (.inl (aL .i64 (s21.1+1),v17)))
   (.ret (.inl (aL .i64 (s21.1+1),s21.2))))
  (.ret (.inr s21.2))
def fP (aX:Int):(Int×(List Int)×(List Int))→Tre ((Int×(List Int)×(List Int)) ⊕ (List Int)):=fun s4=>
 .cond (decide (s4.1<aX))
  (.mat (aS (kD s4.1 s4.2.1) (-1,0)) fun l4=>
  .cond (decide (l4<0))
   (.ret (.inl (aL .i64 (s4.1+1),s4.2.1,s4.2.2)))
   (.ite (0≤l4∧l4<(s4.2.1.length:Int))<|
   .mat (s4.2.1[l4.toNat]?) fun x5=>
   .ite (0≤l4∧l4<(s4.2.1.length:Int))<|
   .mat (s4.2.1[l4.toNat]?) fun _=>
   .mat (aS (iE s4.1 x5) (0,s4.2.1.set l4.toNat 0)) fun l12=>
   .mat (aS (oJ s4.1 x5) (0,s4.2.2)) fun l18=>
   .ite ((l18.length+1)*8≤bQ∧1≤8)<|
   .ret (.inl (aL .i64 (s4.1+1),l12,l18++([x5])))))
  (.ret (.inr s4.2.2))
def NM (p0:Int) (p1:List Int):Tre (List Int):=
 .mat (yh p1) fun r1=>
 .mat (aS (fP p0) (0,r1,[])) fun l19=>
 .ret l19
def Sg (p0:Int) (p1:List Int):Option (List Int):=(NM p0 p1).run some
def au7 (m:Int) (xs:List Int):Option (List Int):=alo (inR m 0 62&&FY m.toNat xs) (TR xs)
theorem Y1(c:Nat)(hc:c≤62)(xs:List Int)(hl:xs.length≤1048576):aS (kD (c:Int) xs) (-1,0)=some (lW (fun x=>zJ x (c:Int)) 0 xs):=by
 have:=oh (xs:=xs) (step:=kD (c:Int) xs) (fun i acc=>(acc,(i:Int))) (fun i acc x=>cond (decide (acc<0)) (.inl (cond (zJ x (c:Int)) (i:Int) acc)) (.inr acc)) id (fun _ _=>True) (by
  intro i acc x hx _
  refine ⟨?_,fun _ _=>trivial⟩
  have hi:i<xs.length:=(List.getElem?_eq_some_iff.1 hx).1
  unfold kD
  rw [Tre.aD,show decide (((acc,(i:Int)):Int×Int).2<(xs.length:Int))=true from by simpa using hi,cond_true,Tre.aD]
  by_cases h0:acc<0
  ·rw [show decide (acc<0)=true from by simpa using h0]
   rw [cond_true,gu hx,ah (alu (by omega):als x (c:Int)=_),Tre.aD]
   show cond (zJ x (c:Int)) _ _=_
   cases zJ x (c:Int)
   ·rw [cond_false,Tre.aN,aY (by omega)];rfl
   ·rw [cond_true,Tre.aN,aY (by omega)];rfl
  ·rw [show decide (acc<0)=false from by simpa using h0]
   rfl)
  (by
  intro acc _
  unfold kD
  exact dR) xs 0 (-1) rfl (Nat.zero_le _) trivial
 rw [show (((-1:Int),(0:Int)):Int×Int)=(-1,((0:Nat):Int)) from rfl,this]
 have key:∀(l:List Int)(i:Nat),xD (β:=Int) (fun (i:Nat) (acc:Int) x=>cond (decide (acc<0)) (.inl (cond (zJ x (c:Int)) (i:Int) acc)) (.inr acc)) id i (-1) l=lW (fun x=>zJ x (c:Int)) i l:=by
  intro l
  induction l with
  |nil=>intro i;rfl
  |cons x l ih=>
   intro i
   simp only [xD,lW,show decide ((-1:Int)<0)=true from rfl,cond_true]
   cases zJ x (c:Int)
   ·exact ih (i+1)
   ·have hn:decide ((i:Int)<0)=false:=by simp
    cases l with
    |nil=>rfl
    |cons y l=>simp only [xD,cond_true,hn,cond_false]
 rw [key]
theorem Jl(c r:Nat)(hc:c≤62)(hr:r<2 ^ 62)(l:List Nat)(hb:∀n∈l,n<2 ^ 62)(hl:l.length≤1048576):aS (iE (c:Int) (r:Int)) (0,up l)=some (up (l.map (gM c r))):=by
 have:=ai5 (step:=iE (c:Int) (r:Int)) (fun _ x=>gM c r x) l id (by
  intro i x hx
  have hi:i<l.length:=(List.getElem?_eq_some_iff.1 hx).1
  have hx2:=Tf (adN (g:=fun _ x=>gM c r x) (i:=i) hx)
  rw [if_neg (Nat.lt_irrefl i)] at hx2
  have hlen:(up (xP (fun _ x=>gM c r x) i l)).length=l.length:=by rw [eX,Yq]
  have hxb:=hb x (List.mem_of_getElem? hx)
  rw [←amR hx]
  unfold iE
  rw [eB hx2,ah (alu (by omega):als (x:Int) (c:Int)=_),Tre.aD]
  show cond (zJ (x:Int) (c:Int)) _ _=_
  rw [EO (by omega) (by omega)]
  have he:gM c r x=cond (x.testBit c) (x^^^r) x:=rfl
  rw [he]
  cases x.testBit c
  ·rw [cond_false,Tre.aN,aY (by omega)]
   refine congrArg (fun z=>some (Sum.inl (((i+1:Nat):Int),z))) ?_
   rw [cond_false,←Og]
   exact (List.ext_getElem? fun j=>by
    rw [List.getElem?_set]
    by_cases hj:i=j
    ·subst hj;rw [if_pos rfl,hx2,if_pos (List.getElem?_eq_some_iff.1 hx2).1]
    ·rw [if_neg hj]).symm
  ·rw [cond_true,gu hx2,gu hx2,Tre.aN,aY (by omega),lJ (by omega) (by omega),Int.toNat_natCast,cond_true,←Og])
  (by
  unfold iE
  have:((xP (fun _ x=>gM c r x) l.length l).length:Int)=(l.length:Int):=by rw [Yq]
  show (Tre.cond (decide ((l.length:Int)<((up (xP (fun _ x=>gM c r x) l.length l)).length:Int))) _ _).run some=_
  rw [eX,Yq]
  exact dR)
 rw [this,aj4]
 rfl
theorem Uv:oJ=iE:=rfl
theorem Y4(m:Nat)(hm:m≤62)(orig:List Nat):∀(n c:Nat)(E:List (Nat×Nat))(R:List Nat),c+n=m→Inv orig c E R→E.length≤c→R.length≤1048576→(∀x∈R,x<2 ^ m)→(∀a∈E,a.2<2 ^ m) →
  ∃E':List Nat,aS (fP (m:Int)) ((c:Int),up R,up (E.map (·.2)))=some (up E')∧jm orig E':=by
 intro n
 have hp:=wV hm
 induction n with
 |zero=>
  intro c E R hc hI _ _ hR _
  have:c=m:=hc
  subst this
  refine ⟨E.map (·.2),eO ?_,hI.done fun x hx=>Oh (hR x hx) (hI.low x hx)⟩
  unfold fP
  exact dR
 |succ n ih=>
  intro c E R hc hI hE hl hR hEb
  have hcm:c<m:=by omega
  have hstep:∀E2 R2,Inv orig (c+1) E2 R2→E2.length≤c+1→R2.length≤1048576→(∀x∈R2,x<2 ^ m)→(∀a∈E2,a.2<2 ^ m)→(fP (m:Int) ((c:Int),up R,up (E.map (·.2)))).run some=some (.inl (((c+1:Nat):Int),up R2,up (E2.map (·.2)))) →
    ∃E':List Nat,aS (fP (m:Int)) ((c:Int),up R,up (E.map (·.2)))=some (up E')∧jm orig E':=by
   intro E2 R2 h1 h2 h3 h4 h5 h6
   rw [iq h6]
   exact ih (c+1) E2 R2 (by omega) h1 h2 h3 h4 h5
  have hfind:=Y1 c (by omega) (up R) (by rw [eX];exact hl)
  have hw:aL .i64 ((c:Int)+1)=((c+1:Nat):Int):=aY (by omega)
  have hdec:decide ((c:Int)<(m:Int))=true:=by simpa using hcm
  rcases wT (fun x=>zJ x (c:Int)) (up R) 0 with ⟨h1,h2⟩|⟨k,x,h1,h2,h3⟩
  ·refine hstep E R (hI.skip fun x hx=>?_) (by omega) hl hR hEb ?_
   ·have:=h2 (x:Int) (List.mem_map.2 ⟨x,hx,rfl⟩)
    have hxb:=hR x hx
    rwa [EO (by omega) (by omega)] at this
   ·unfold fP
    rw [Tre.aD]
    show cond (decide ((c:Int)<(m:Int))) _ _=_
    rw [hdec,cond_true,ah (hfind.trans (by rw [h1])),Tre.aD]
    simp only [show decide ((-1:Int)<0)=true from rfl,cond_true,Tre.aN,hw]
  ·obtain ⟨r,hr1,rfl⟩:∃r:Nat,R[k]?=some r∧(r:Int)=x:=by
    simp only [up,List.getElem?_map,Option.map_eq_some_iff] at h1
    exact h1
   have hrm:r∈R:=List.mem_of_getElem? hr1
   have hrb:=hR r hrm
   rw [EO (by omega) (by omega)] at h2
   rw [Nat.zero_add] at h3
   have hk:k<R.length:=(List.getElem?_eq_some_iff.1 hr1).1
   have hE2:((E.map fun a=>(a.1,gM c r a.2))++[(c,r)]).map (·.2)=(E.map (·.2)).map (gM c r)++[r]:=by simp [List.map_map,Function.comp_def]
   refine hstep (E.map (fun a=>(a.1,gM c r a.2))++[(c,r)]) ((R.set k 0).map (gM c r)) (hI.step hrm h2 ?_ ?_) (by simp;omega) (by simpa using hl) ?_ ?_ ?_
   ·intro y hy
    obtain ⟨x,hx,rfl⟩:=List.mem_map.1 hy
    rcases List.mem_or_eq_of_mem_set hx with hx|rfl
    ·exact .inr ⟨x,hx,rfl⟩
    ·exact .inl (by unfold gM;simp)
   ·intro x hx
    obtain ⟨j,hj⟩:=List.getElem?_of_mem hx
    by_cases hjk:k=j
    ·subst hjk;rw [hr1] at hj;exact .inl (Option.some.inj hj).symm
    ·refine .inr (List.mem_map.2 ⟨x,List.mem_of_getElem? (i:=j) ?_,rfl⟩)
     rw [List.getElem?_set,if_neg hjk,hj]
   ·intro y hy
    obtain ⟨x,hx,rfl⟩:=List.mem_map.1 hy
    refine Qi hrb ?_
    rcases List.mem_or_eq_of_mem_set hx with hx|rfl
    ·exact hR x hx
    ·exact Nat.two_pow_pos m
   ·intro a ha
    rcases List.mem_append.1 ha with ha|ha
    ·obtain ⟨b,hb,rfl⟩:=List.mem_map.1 ha
     exact Qi hrb (hEb b hb)
    ·simp only [List.mem_singleton] at ha;subst ha;exact hrb
   ·have e1:=Jl c r (by omega) (by omega) (R.set k 0) (fun x hx=>by
     rcases List.mem_or_eq_of_mem_set hx with hx|rfl
     ·have:=hR x hx;omega
     ·decide) (by simpa using hl)
    have e2:aS (oJ (c:Int) (r:Int)) (0,up (E.map (·.2)))=some (up ((E.map (·.2)).map (gM c r))):=by
     rw [Uv]
     exact Jl c r (by omega) (by omega) (E.map (·.2)) (fun x hx=>by
     obtain ⟨a,ha,rfl⟩:=List.mem_map.1 hx
     have:=hEb a ha
     omega) (by simp;omega)
    unfold fP
    rw [Tre.aD]
    show cond (decide ((c:Int)<(m:Int))) _ _=_
    rw [hdec,cond_true,ah (hfind.trans (by rw [h3])),Tre.aD]
    rw [show decide ((k:Int)<0)=false from by simp,cond_false,gu h1,gu h1,Int.toNat_natCast]
    rw [show (up R).set k 0=up (R.set k 0) from Og R k 0,ah e1,ah e2]
    rw [Tre.run_ite,if_pos (by unfold bQ;rw [eX];simp;omega),Tre.aN,hw,hE2]
    simp [up]
theorem Y5(p0:Int)(p1 y:List Int)(h:au7 p0 p1=some y):Sg p0 p1=some y:=by
 obtain ⟨hl,rfl⟩:=Ah h
 rw [Bool.and_eq_true,iT] at hl
 obtain ⟨m,rfl⟩:∃m:Nat,p0=(m:Int):=⟨p0.toNat,by omega⟩
 obtain ⟨ns,rfl,hlen,hb,hn⟩:=aaL hl.2
 rw [Int.toNat_natCast] at hb
 obtain ⟨E,h1,h2⟩:=Y4 m (by omega) ns m 0 [] ns (by omega) (Inv.start ns) (Nat.zero_le _) hlen hb (fun a ha=>by cases ha)
 unfold Sg NM
 have e1:yh (up ns)=some (up ns):=aj3 (by rw [eX];exact hlen)
 have h1:aS (fP (m:Int)) (0,up ns,[])=some (up E):=h1
 rw [ah e1,ah h1]
 unfold TR
 rw [hn,aen h2]
 rfl
def gU:Env:=⟨tau,[(139,agi),(218,agz)],[]⟩
def jQ:Code:=(Tryz.f170.body).getD .skip
def Gl (nI:Int) (jd:Int) (Da:List Int) (VQ:List Int):(Int×Int)→St:=fun x=>bT [(0,(.i nI)),(5,(.ref (7,0) [])),(6,(.ref (8,0) [])),(7,(.i jd)),(8,(.i x.1)),(9,(.i x.2))] [((7,0),some ⟨false,.il,.own,Da⟩),((8,0),some ⟨false,.il,.own,VQ⟩)]
def Ec (nI:Int) (jd:Int) (Da:List Int) (VQ:List Int):Int→Ex×St:=fun x=>(.exit 2,bT [(0,(.i nI)),(5,(.ref (7,0) [])),(6,(.ref (8,0) [])),(7,(.i jd)),(8,(.i x))] [((7,0),some ⟨false,.il,.own,Da⟩),((8,0),some ⟨false,.il,.own,VQ⟩)])
def Y3 (s:St):Tre (Ex×St):=
 aF true .n (s.tmps 0) fun d2=>
 fQ (7,0) [] (s.tmps 5)<|
 fQ (8,0) [] (s.tmps 6)<|
 aF true .n (s.tmps 7) fun d6=>
 aF true .n (s.tmps 8) fun d8=>
 aF true .n (s.tmps 9) fun d10=>
 bq false .il (s.roots (7,0)) fun m12 d13=>
 asM .own m12<|
 bq false .il (s.roots (8,0)) fun m15 d16=>
 asM .own m15<|
 .mat (aS (kD d6 d13) (d8,d10)) fun x=>.ret (Ec d2 d6 d13 d16 x)
def rJ:bF:=⟨([0,5,6,7,8,9],[(7,0),(8,0)]),([0,5,6,7,8],[(7,0),(8,0)]),Y3⟩
def D9 (Mh:Int) (Ba:Int) (Bb:Int) (Mi:List Int):(Int×(List Int))→St:=fun x=>bT [(0,(.i Mh)),(5,(.ref (7,0) [])),(6,(.ref (8,0) [])),(7,(.i Ba)),(10,(.i Bb)),(11,(.i x.1))] [((7,0),some ⟨false,.il,.own,x.2⟩),((8,0),some ⟨false,.il,.own,Mi⟩)]
def CB (Mh:Int) (Ba:Int) (Bb:Int) (Mi:List Int):(List Int)→Ex×St:=fun x=>(.exit 4,bT [(0,(.i Mh)),(5,(.ref (7,0) [])),(6,(.ref (8,0) [])),(7,(.i Ba)),(10,(.i Bb))] [((7,0),some ⟨false,.il,.own,x⟩),((8,0),some ⟨false,.il,.own,Mi⟩)])
def WS (s:St):Tre (Ex×St):=
 aF true .n (s.tmps 0) fun d2=>
 fQ (7,0) [] (s.tmps 5)<|
 fQ (8,0) [] (s.tmps 6)<|
 aF true .n (s.tmps 7) fun d6=>
 aF true .n (s.tmps 10) fun d8=>
 aF true .n (s.tmps 11) fun d10=>
 bq false .il (s.roots (7,0)) fun m12 d13=>
 asM .own m12<|
 bq false .il (s.roots (8,0)) fun m15 d16=>
 asM .own m15<|
 .mat (aS (iE d6 d8) (d10,d13)) fun x=>.ret (CB d2 d6 d8 d16 x)
def p8:bF:=⟨([0,5,6,7,10,11],[(7,0),(8,0)]),([0,5,6,7,10],[(7,0),(8,0)]),WS⟩
def Ea (Mq:Int) (Bh:Int) (Bj:Int) (Mr:List Int):(Int×(List Int))→St:=fun x=>bT [(0,(.i Mq)),(5,(.ref (7,0) [])),(6,(.ref (8,0) [])),(7,(.i Bh)),(10,(.i Bj)),(12,(.i x.1))] [((7,0),some ⟨false,.il,.own,Mr⟩),((8,0),some ⟨false,.il,.own,x.2⟩)]
def CF (Mq:Int) (Bh:Int) (Bj:Int) (Mr:List Int):(List Int)→Ex×St:=fun x=>(.exit 6,bT [(0,(.i Mq)),(5,(.ref (7,0) [])),(6,(.ref (8,0) [])),(7,(.i Bh)),(10,(.i Bj))] [((7,0),some ⟨false,.il,.own,Mr⟩),((8,0),some ⟨false,.il,.own,x⟩)])
def WT (s:St):Tre (Ex×St):=
 aF true .n (s.tmps 0) fun d2=>
 fQ (7,0) [] (s.tmps 5)<|
 fQ (8,0) [] (s.tmps 6)<|
 aF true .n (s.tmps 7) fun d6=>
 aF true .n (s.tmps 10) fun d8=>
 aF true .n (s.tmps 12) fun d10=>
 bq false .il (s.roots (7,0)) fun m12 d13=>
 asM .own m12<|
 bq false .il (s.roots (8,0)) fun m15 d16=>
 asM .own m15<|
 .mat (aS (oJ d6 d8) (d10,d16)) fun x=>.ret (CF d2 d6 d8 d13 x)
def p9:bF:=⟨([0,5,6,7,10,12],[(7,0),(8,0)]),([0,5,6,7,10],[(7,0),(8,0)]),WT⟩
def Gj (aX:Int):(Int×(List Int)×(List Int))→St:=fun x=>bT [(0,(.i aX)),(5,(.ref (7,0) [])),(6,(.ref (8,0) [])),(7,(.i x.1))] [((7,0),some ⟨false,.il,.own,x.2.1⟩),((8,0),some ⟨false,.il,.own,x.2.2⟩)]
def Eb (_:Int):(List Int)→Ex×St:=fun x=>(.exit 0,bT [(6,(.ref (8,0) []))] [((8,0),some ⟨false,.il,.own,x⟩)])
def Y2 (s:St):Tre (Ex×St):=
 aF true .n (s.tmps 0) fun d2=>
 fQ (7,0) [] (s.tmps 5)<|
 fQ (8,0) [] (s.tmps 6)<|
 aF true .n (s.tmps 7) fun d6=>
 bq false .il (s.roots (7,0)) fun m8 d9=>
 asM .own m8<|
 bq false .il (s.roots (8,0)) fun m11 d12=>
 asM .own m11<|
 .mat (aS (fP d2) (d6,d9,d12)) fun x=>.ret (Eb d2 x)
def rH:bF:=⟨([0,5,6,7],[(7,0),(8,0)]),([6],[(8,0)]),Y2⟩
def iV:List (Nat×bF):=[(8,rJ),(16,p8),(21,p9),(4,rH)]
theorem Sk:∀(nI jd:Int)(Da VQ:List Int)(x:(Int×Int))(c:St→Option (Ex×St)),den gU iV (aV jQ 1) (Gl nI jd Da VQ x) (bZ rJ.kp rJ.kx c)=(kD jd Da x).run (cu (Gl nI jd Da VQ) (Ec nI jd Da VQ) c):=fun _ _ _ _ _ _=>by
 kernel_rfl
theorem WV:bU gU iV (aV jQ 1) rJ:=dB fun _ _ _=>aO fun _=>nR<|nR<|aO fun _=>aO fun _=>aO fun _=>cO fun _ _=>tM<|cO fun _ _=>tM<|fun h _ e14 _ e11 e9 e7 e5 e4 e3 e1=>cK (Sk _ _ _ _) h (by subst_vars;exact aT rfl rfl ⟨e1,e3,e4,e5,e7,e9,trivial⟩ ⟨e11,e14,trivial⟩)
theorem PK:∀(Mh Ba Bb:Int)(Mi:List Int)(x:(Int×(List Int)))(c:St→Option (Ex×St)),den gU iV (aV jQ 2) (D9 Mh Ba Bb Mi x) (bZ p8.kp p8.kx c)=(iE Ba Bb x).run (cu (D9 Mh Ba Bb Mi) (CB Mh Ba Bb Mi) c):=fun _ _ _ _ _ _=>by
 kernel_rfl
theorem Uu:bU gU iV (aV jQ 2) p8:=dB fun _ _ _=>aO fun _=>nR<|nR<|aO fun _=>aO fun _=>aO fun _=>cO fun _ _=>tM<|cO fun _ _=>tM<|fun h _ e14 _ e11 e9 e7 e5 e4 e3 e1=>cK (PK _ _ _ _) h (by subst_vars;exact aT rfl rfl ⟨e1,e3,e4,e5,e7,e9,trivial⟩ ⟨e11,e14,trivial⟩)
theorem PL:∀(Mq Bh Bj:Int)(Mr:List Int)(x:(Int×(List Int)))(c:St→Option (Ex×St)),den gU iV (aV jQ 3) (Ea Mq Bh Bj Mr x) (bZ p9.kp p9.kx c)=(oJ Bh Bj x).run (cu (Ea Mq Bh Bj Mr) (CF Mq Bh Bj Mr) c):=fun _ _ _ _ _ _=>by
 kernel_rfl
theorem Uw:bU gU iV (aV jQ 3) p9:=dB fun _ _ _=>aO fun _=>nR<|nR<|aO fun _=>aO fun _=>aO fun _=>cO fun _ _=>tM<|cO fun _ _=>tM<|fun h _ e14 _ e11 e9 e7 e5 e4 e3 e1=>cK (PL _ _ _ _) h (by subst_vars;exact aT rfl rfl ⟨e1,e3,e4,e5,e7,e9,trivial⟩ ⟨e11,e14,trivial⟩)
theorem Sj:∀(aX:Int)(x:(Int×(List Int)×(List Int)))(c:St→Option (Ex×St)),den gU iV (aV jQ 0) (Gj aX x) (bZ rH.kp rH.kx c)=(fP aX x).run (cu (Gj aX) (Eb aX) c):=fun _ _ _=>by
 kernel_rfl
theorem WU:bU gU iV (aV jQ 0) rH:=dB fun _ _ _=>aO fun _=>nR<|nR<|aO fun _=>cO fun _ _=>tM<|cO fun _ _=>tM<|fun h _ e10 _ e7 e5 e4 e3 e1=>cK (Sj _) h (by subst_vars;exact aT rfl rfl ⟨e1,e3,e4,e5,trivial⟩ ⟨e7,e10,trivial⟩)
def agB:FnI:=fnI Tryz.f170 iV
def Ll (_:Bool) (_:Int) (_:List Int):(List Int)→au:=fun r=>⟨(.ref (1,0) []),[],[⟨false,.il,.own,r⟩]⟩
theorem adq:∀(zp0:Bool)(p0:Int)(p1:List Int),bH gU agB ⟨[(.i p0),(.imm zp0 .il p1)],[]⟩=(NM p0 p1).run fun r=>some (Ll zp0 p0 p1 r):=fun _ _ _=>by kernel_rfl
def agA (av:List AV) (rs:List Root):Tre au:=
 aB av fun a0_ av0=>
 aB av0 fun a1_ av1=>
 aJ av1<|
 aJ rs<|
 aF true .n a0_ fun d1=>
 bB .il a1_ fun z3 d2=>
 .mat (au7 d1 d2) fun r=>.ret (Ll z3 d1 d2 r)
def Si:Ctr:=dx [] agA
theorem adr:Contract Tryz.prog .none 170 Si:=aC (V:=gU) aR (ak anj atg (ak anv ax7 aH)) Tryz.func170 (bM (n:=4) fun k hk=>by
 match k,hk with
 |0,_=>exact bP (id:=4) WU
 |1,_=>exact bP (id:=8) WV
 |2,_=>exact bP (id:=16) Uu
 |3,_=>exact bP (id:=21) Uw) fun _ _ _=>aI fun _ _=>aI fun _ _=>aZ<|aZ<|aO fun _=>dF fun _ _=>fun h=>by intros;subst_vars;exact Es (adq _ _ _) (Y5 _ _) h
-- shared
theorem axA{b:Nat}(orig:List Nat):∀(n c:Nat)(E:List (Nat×Nat))(R:List Nat),c+n=b→Inv orig c E R→(∀x∈R,x<2 ^ b)→∃E',jm orig E':=by
 intro n
 induction n with
 |zero=>
  intro c E R hc h hb
  exact ⟨_,h.done fun x hx=>Oh (hb x hx) fun q hq=>h.low x hx q (by omega)⟩
 |succ n ih=>
  intro c E R hc h hb
  by_cases hr:∃r∈R,r.testBit c=true
  ·obtain ⟨r,hr,hrb⟩:=hr
   refine ih (c+1) _ _ (by omega) (h.step (R':=R.map (gM c r)) hr hrb (fun y hy=>?_) fun x hx=>.inr (List.mem_map_of_mem hx)) fun x hx=>?_
   ·obtain ⟨x,hx,rfl⟩:=List.mem_map.1 hy
    exact .inr ⟨x,hx,rfl⟩
   ·obtain ⟨y,hy,rfl⟩:=List.mem_map.1 hx
    exact Qi (hb r hr) (hb y hy)
  ·exact ih (c+1) E R (by omega) (h.skip fun x hx=>Bool.eq_false_iff.2 fun hx'=>hr ⟨x,hx,hx'⟩) hb
theorem aou{b:Nat}{xs:List Int}(_:b≤62)(h:FY b xs=true):jm (xs.map Int.toNat) (ech (xs.map Int.toNat)):=by
 obtain ⟨ns,rfl,hlen,hn,he⟩:=aaL h
 obtain ⟨E,h2⟩:=axA ns b 0 [] ns (by omega) (Inv.start ns) hn
 rw [he,aen h2];exact h2
theorem ael(xs:List Int):(TR xs).length=(ech (xs.map Int.toNat)).length:=by unfold TR;rw [eX]
theorem Xl:∀(l:List (Nat×Nat))(lo b:Nat),(l.Pairwise fun a b=>a.1<b.1)→(∀a∈l,lo≤a.1∧a.1<b)→l.length≤b-lo:=by
 intro l
 induction l with
 |nil=>intro lo b _ _;exact Nat.zero_le _
 |cons a l ih=>
  intro lo b h hb
  obtain ⟨h1,h2⟩:=List.pairwise_cons.1 h
  have:=ih (a.1+1) b h2 fun x hx=>⟨h1 x hx,(hb x (.tail _ hx)).2⟩
  have h0:=hb a (.head _)
  simp only [List.length_cons]
  omega
-- shared
theorem avG(l:List Nat):Uk l=up l:=rfl
theorem afg(l:List Nat):(Uk l).map Int.toNat=l:=up_toNat l
theorem atH{f:TF3}(hf:aQ f=true){L:List Nat}(h:inL (FOf f hf) L)(hl:L.length≤1000){b:Nat}(hb:f.1.toNat≤b):FY b (Uk L)=true:=by
 rw [avG]
 exact aaK (by omega) fun n hn=>Nat.lt_of_lt_of_le (h n hn) (Nat.pow_le_pow_right (by decide) hb)
def rkN (L:List Nat):Nat:=(ech L).length
theorem aAk(L:List Nat):(TR (Uk L)).length=rkN L:=by rw [ael,afg];rfl
theorem Yz{f:TF3}(hf:aQ f=true){L:List Nat}(h:inL (FOf f hf) L)(hl:L.length≤1000):jm L (ech L):=by
 have h5:=(Xy hf).2
 have:=aou (b:=62) (by omega) (atH hf h hl (by omega))
 rwa [afg] at this
-- shared
theorem auz{p h:Nat}:∀(l:List Nat)(i:Nat),(∀x∈l,x.testBit p=false)→(oM h i l).testBit p=false:=by
 intro l
 induction l with
 |nil=>intro i _;exact Nat.zero_testBit p
 |cons x l ih=>
  intro i hx
  simp only [oM]
  rw [Nat.testBit_xor,ih (i+1) fun y hy=>hx y (.tail _ hy)]
  cases h.testBit i
  ·simp
  ·simp [hx x (.head _)]
theorem akW{p h:Nat}:∀(l:List Nat)(i j:Nat),(∀j' x,l[j']?=some x→x.testBit p=decide (j'=j))→j<l.length→(oM h i l).testBit p=h.testBit (i+j):=by
 intro l
 induction l with
 |nil=>intro i j _ hj;simp at hj
 |cons x l ih=>
  intro i j hx hj
  simp only [oM]
  rw [Nat.testBit_xor]
  have h0:=hx 0 x rfl
  cases j with
  |zero=>
   rw [auz l (i+1) fun y hy=>by
    obtain ⟨k,hk⟩:=List.getElem?_of_mem hy
    have:=hx (k+1) y (by simpa using hk)
    simpa using this]
   cases h.testBit i
   ·simp
   ·simp [h0]
  |succ j=>
   rw [ih (i+1) j (fun k y hk=>by have:=hx (k+1) y (by simpa using hk);simpa using this) (by simpa using hj)]
   have h0:x.testBit p=false:=by simpa using h0
   rw [show i+1+j=i+(j+1) by omega]
   cases h.testBit i<;>simp [h0]
theorem arq{ns:List Nat}(h:jm ns ns){q:Nat}(hq:q<ns.length):∃p,∀j x,ns[j]?=some x→x.testBit p=decide (j=q):=by
 obtain ⟨P,c,hr,rfl,_⟩:=h
 rw [List.length_map] at hq
 refine ⟨P[q].1,fun j x hx=>?_⟩
 rw [List.getElem?_map] at hx
 cases hj:P[j]? with
 |none=>rw [hj] at hx;cases hx
 |some a=>
  rw [hj] at hx
  simp only [Option.map_some,Option.some.injEq] at hx
  subst hx
  obtain ⟨hjl,rfl⟩:=List.getElem?_eq_some_iff.1 hj
  by_cases hjq:j=q
  ·subst hjq
   simpa using (hr.1 _ (List.getElem_mem hjl)).2.1
  ·rw [decide_eq_false hjq]
   refine hr.apart (List.getElem_mem hjl) (List.getElem_mem hq) ?_
   have hp:=List.pairwise_iff_getElem.1 hr.2
   rcases Nat.lt_or_gt_of_ne hjq with h|h
   ·exact Nat.ne_of_lt (hp j q hjl hq h).1
   ·exact Nat.ne_of_gt (hp q j hq hjl h).1
theorem aqQ{ns:List Nat}(h:jm ns ns){a b:Nat}(ha:a<2 ^ ns.length)(hb:b<2 ^ ns.length)(he:oM a 0 ns=oM b 0 ns):a=b:=by
 apply Nat.eq_of_testBit_eq
 intro q
 by_cases hq:q<ns.length
 ·obtain ⟨p,hp⟩:=arq h hq
  have h1:=akW (h:=a) ns 0 q hp hq
  have h2:=akW (h:=b) ns 0 q hp hq
  rw [he,h2,Nat.zero_add] at h1
  exact h1.symm
 ·rw [Nat.testBit_lt_two_pow (Nat.lt_of_lt_of_le ha (Nat.pow_le_pow_right (by decide) (by omega))),Nat.testBit_lt_two_pow (Nat.lt_of_lt_of_le hb (Nat.pow_le_pow_right (by decide) (by omega)))]
theorem auC{ns:List Nat}{v:Nat}(h:Sp ns v):∃a,a<2 ^ ns.length∧oM a 0 ns=v:=by
 induction h with
 |zero=>exact ⟨0,Nat.two_pow_pos _,LH ns 0⟩
 |add hr _ ih=>
  obtain ⟨a,ha,rfl⟩:=ih
  obtain ⟨j,hj⟩:=List.getElem?_of_mem hr
  have hjl:j<ns.length:=(List.getElem?_eq_some_iff.1 hj).1
  have:=SY ns 0 j hj
  rw [Nat.zero_add] at this
  exact ⟨2 ^ j^^^a,Nat.xor_lt_two_pow (Nat.pow_lt_pow_right (by decide) hjl) ha,by rw [S9,this]⟩
def apP(ns:List Nat):List Nat:=(List.range (2 ^ ns.length)).map fun a=>oM a 0 ns
theorem aqY{ns:List Nat}{v:Nat}:v∈apP ns↔Sp ns v:=by
 unfold apP
 rw [List.mem_map]
 constructor
 ·rintro ⟨a,_,rfl⟩;exact akV a ns ns 0 fun x hx=>hx
 ·intro h
  obtain ⟨a,ha,rfl⟩:=auC h
  exact ⟨a,List.mem_range.2 ha,rfl⟩
theorem asF{ns:List Nat}(h:jm ns ns):(apP ns).Nodup:=by
 unfold apP
 rw [List.nodup_iff_pairwise_ne]
 refine List.pairwise_map.2 (List.Pairwise.imp_of_mem ?_ (List.nodup_iff_pairwise_ne.1 List.nodup_range))
 intro a b ha hb hab he
 exact hab (aqQ h (List.mem_range.1 ha) (List.mem_range.1 hb) he)
def ahT(m:Int×List Int×Unit):Bool:=inR m.1 1 10&&(decide (m.2.1.length≤10)&&m.2.1.all (inP m.1))
def agW (m:Int×List Int×Unit):Bool:=ahT m&&decide (TR m.2.1=m.2.1)
theorem aqK{m:Int×List Int×Unit}(h:ahT m=true):∃(c:Nat) (ns:List Nat),m=((c:Int),up ns,())∧1≤c∧c≤10∧ns.length≤10∧∀n∈ns,n<2 ^ c:=by
 obtain ⟨a,xs,_⟩:=m
 simp only [ahT,Bool.and_eq_true,iT,decide_eq_true_eq,List.all_eq_true] at h
 obtain ⟨⟨h1,h2⟩,h3,h4⟩:=h
 obtain ⟨c,rfl⟩:=Int.eq_ofNat_of_zero_le (show 0≤a by omega)
 have hc:c≤62:=by omega
 refine ⟨c,xs.map Int.toNat,?_,by omega,by omega,by simpa using h3,fun n hn=>?_⟩
 ·have:up (xs.map Int.toNat)=xs:=by
   unfold up
   rw [List.map_map]
   refine (List.map_congr_left fun x hx=>?_).trans (List.map_id xs)
   obtain ⟨n,rfl,_⟩:=aqb hc (h4 x hx)
   simp
  rw [this]
 ·obtain ⟨x,hx,rfl⟩:=List.mem_map.1 hn
  obtain ⟨k,rfl,hk⟩:=aqb hc (h4 x hx)
  simpa using hk
theorem aaJ{c b:Nat}{ns:List Nat}(hc:c≤b)(hl:ns.length≤1048576)(hn:∀n∈ns,n<2 ^ c):FY b (up ns)=true:=
 aaK hl fun n h=>Nat.lt_of_lt_of_le (hn n h) (wV hc)
def goV{α:Type}(bad:Nat→α→Bool):Nat→List α→Bool
 |_,[]=>true
 |i,x::l=>!bad i x&&goV bad (i+1) l
theorem arB{α:Type}{p:α→Bool}:∀(l:List α)(i:Nat),(zK (fun _ x=>cond (p x) (some (.inl false)) none) (.inr ()) i l:Bool ⊕ Unit)=cond (l.any p) (.inl false) (.inr ()):=by
 intro l
 induction l with
 |nil=>intro i;rfl
 |cons x l ih=>
  intro i
  simp only [zK,List.any_cons]
  cases p x
  ·simp only [cond_false,Bool.false_or];exact ih (i+1)
  ·rfl
theorem arC{α:Type}{bad:Nat→α→Bool}:∀(l:List α)(i:Nat),(zK (fun i x=>cond (bad i x) (some (.inl false)) none) (.inr ()) i l:Bool ⊕ Unit)=cond (goV bad i l) (.inr ()) (.inl false):=by
 intro l
 induction l with
 |nil=>intro i;rfl
 |cons x l ih=>
  intro i
  simp only [zK,goV]
  cases bad i x
  ·simp only [cond_false,Bool.not_false,Bool.true_and];exact ih (i+1)
  ·rfl
theorem ajC{α:Type}{bad:Nat→α→Bool}:∀(l:List α)(i:Nat),goV bad i l=true ↔ ∀j x,l[j]?=some x→bad (i+j) x=false:=by
 intro l
 induction l with
 |nil=>intro i;simp [goV]
 |cons x l ih=>
  intro i
  simp only [goV,Bool.and_eq_true,Bool.not_eq_true',ih]
  constructor
  ·rintro ⟨h1,h2⟩ j y hy
   cases j with
   |zero=>simp only [List.getElem?_cons_zero,Option.some.injEq] at hy;subst hy;exact h1
   |succ j=>have:=h2 j y (by simpa using hy);rwa [show i+1+j=i+(j+1) by omega] at this
  ·intro h
   refine ⟨h 0 x rfl,fun j y hy=>?_⟩
   have:=h (j+1) y (by simpa using hy)
   rwa [show i+1+j=i+(j+1) by omega]
theorem atA{α:Type}{b1 b2:Nat→α→Bool}{l:List α}(h:∀i x,l[i]?=some x→(∀j y,j<i→l[j]?=some y→b1 j y=false)→b1 i x=b2 i x):goV b1 0 l=goV b2 0 l:=by
 have key:goV b1 0 l=true↔goV b2 0 l=true:=by
  rw [ajC,ajC]
  simp only [Nat.zero_add]
  constructor
  ·intro h1 j x hx
   rw [←h j x hx fun k y _ hy=>h1 k y hy]
   exact h1 j x hx
  ·intro h2 j
   induction j using Nat.strongRecOn with
   |ind j ih=>
    intro x hx
    rw [h j x hx fun k y hk hy=>ih k hk y hy]
    exact h2 j x hx
 cases h1:goV b1 0 l<;>cases h2:goV b2 0 l<;>simp_all
theorem amd{k:Nat}(h:k≤10):rX .i64 1 (k:Int)=((2 ^ k:Nat):Int):=by
 have:∀k:Nat,k<11→rX .i64 1 (k:Int)=((2 ^ k:Nat):Int):=by decide
 exact this k (by omega)
def A8(ss:List (Int×List Int×Unit)):Int×List Int×Unit:=ss.headD (0,[],())
theorem aeu{ss:List (Int×List Int×Unit)}(h:0<ss.length):ss[0]?=some (A8 ss):=by
 cases ss with
 |nil=>simp at h
 |cons x l=>rfl
def alr (ss:List (Int×List Int×Unit)) (i:Nat) (x:Int×List Int×Unit):Bool:=
 !agW x||!decide (x.1=(A8 ss).1)||!decide ((x.2.1.length:Int)=((A8 ss).2.1.length:Int))||(ss.take i).any fun y=>decide (x.2.1=y.2.1)
def adU (ss:List (Int×List Int×Unit)):Bool:=inR (ss.length:Int) 1 400&&goV (alr ss) 0 ss
def adS(ss:List (Int×List Int×Unit)):Prop:=ss.length≤1048576∧∀x∈ss,x.2.1.length≤1048576
-- shared
def dY(n:Nat)(w:List Nat):List Nat:=w.mapIdx fun i x=>2 ^ i|||x <<< n
def rY(u w:List Nat):List Nat:=(u.zip w).map fun p=>p.1^^^p.2
theorem iU(n:Nat)(w:List Nat):(dY n w).length=w.length:=by simp [dY]
theorem sU{n:Nat}{w:List Nat}{i x:Nat}(h:w[i]?=some x):(dY n w)[i]?=some (2 ^ i|||x <<< n):=by simp [dY,h]
theorem GX{u w:List Nat}(h:u.length=w.length):(rY u w).length=u.length:=by simp [rY,h]
theorem Tg{u w:List Nat}{i x y:Nat}(hu:u[i]?=some x)(hw:w[i]?=some y):(rY u w)[i]?=some (x^^^y):=by
 unfold rY
 rw [List.getElem?_map,List.getElem?_zip_eq_some.2 (show u[i]?=some (x,y).1∧w[i]?=some (x,y).2 from ⟨hu,hw⟩)]
 rfl
theorem atQ{n i y:Nat}(hi:i<n):(2 ^ i|||y <<< n)&&&(2 ^ n-1)=2 ^ i:=by
 apply Nat.eq_of_testBit_eq
 intro q
 rw [Nat.testBit_and,Nat.testBit_or,Nat.testBit_two_pow_sub_one,Nat.testBit_two_pow,Nat.testBit_shiftLeft]
 by_cases hq:q<n
 ·rw [decide_eq_true hq,decide_eq_false (show ¬q ≥ n by omega)];simp
 ·rw [decide_eq_false hq,decide_eq_false (show ¬i=q by omega)];simp
theorem aiY{n i y:Nat}(hi:i<n):(2 ^ i|||y <<< n) >>> n=y:=by
 apply Nat.eq_of_testBit_eq
 intro q
 rw [Nat.testBit_shiftRight,Nat.testBit_or,Nat.testBit_two_pow,Nat.testBit_shiftLeft,decide_eq_false (show ¬i=n+q by omega),decide_eq_true (show n+q ≥ n by omega)]
 simp
theorem avK{n m i y:Nat}(hi:i<n)(hy:y<2 ^ m):2 ^ i|||y <<< n<2 ^ (n+m):=by
 refine Nat.or_lt_two_pow (Nat.pow_lt_pow_right (by decide) (by omega)) ?_
 rw [Nat.shiftLeft_eq,Nat.pow_add,Nat.mul_comm]
 exact Nat.mul_lt_mul_of_pos_left hy (Nat.two_pow_pos n)
theorem afr{n:Nat}{w:List Nat}{r:Nat}(h:r∈dY n w):∃i y,w[i]?=some y∧r=2 ^ i|||y <<< n:=by
 obtain ⟨i,hi⟩:=List.getElem?_of_mem h
 have hlt:i<w.length:=by have:=(List.getElem?_eq_some_iff.1 hi).1;rwa [iU] at this
 have hw:=List.getElem?_eq_getElem hlt
 rw [sU hw] at hi
 exact ⟨i,_,hw,(Option.some.inj hi).symm⟩
theorem afq{n:Nat}{w:List Nat}(h:w.length=n):Oi n (dY n w) where
 len:=by rw [iU,h]
 head:=fun i x hx=>by
  have hlt:i<w.length:=by have:=(List.getElem?_eq_some_iff.1 hx).1;rwa [iU] at this
  rw [sU (List.getElem?_eq_getElem hlt)] at hx
  rw [←Option.some.inj hx]
  exact atQ (by omega)
theorem atO{n:Nat}{w:List Nat}(h:w.length=n):jm (dY n w) (dY n w):=(afq h).ech
theorem ap1{rows E:List Nat}(h:jm rows E):jm E E:=by
 obtain ⟨P,c,h1,h2,_⟩:=h
 exact ⟨P,c,h1,h2,fun v=>Iff.rfl⟩
theorem akl{i n y:Nat}(hi:i<n):2 ^ i|||y <<< n=2 ^ i^^^y <<< n:=by
 apply Nat.eq_of_testBit_eq
 intro q
 rw [Nat.testBit_or,Nat.testBit_xor,Nat.testBit_two_pow,Nat.testBit_shiftLeft]
 by_cases hq:i=q
 ·subst hq;rw [decide_eq_false (show ¬i ≥ n by omega)];simp
 ·rw [decide_eq_false hq];simp
theorem adR(a b n:Nat):(a^^^b) <<< n=a <<< n^^^b <<< n:=by
 apply Nat.eq_of_testBit_eq
 intro q
 simp only [Nat.testBit_xor,Nat.testBit_shiftLeft]
 cases decide (q ≥ n)<;>simp
theorem auA{a n q:Nat}(hq:q<n):(a <<< n).testBit q=false:=by
 rw [Nat.testBit_shiftLeft,decide_eq_false (show ¬q ≥ n by omega),Bool.false_and]
theorem amk{n:Nat}{u w:List Nat}(hu:u.length=n)(hw:w.length=n){v:Nat} :
  Sp (dY n u++dY n w) v ↔ ∃a e,a<2 ^ n∧Sp (rY u w) e∧v=oM a 0 (dY n u)^^^e <<< n:=by
 constructor
 ·intro h
  induction h with
  |zero=>exact ⟨0,0,Nat.two_pow_pos n,.zero,by rw [LH];simp⟩
  |add hr _ ih=>
   obtain ⟨a,e,ha,he,rfl⟩:=ih
   rcases List.mem_append.1 hr with hr|hr
   ·obtain ⟨i,y,hi,rfl⟩:=afr hr
    have hin:i<n:=by have:=(List.getElem?_eq_some_iff.1 hi).1;omega
    have:=SY (dY n u) 0 i (sU hi)
    rw [Nat.zero_add] at this
    exact ⟨2 ^ i^^^a,e,Nat.xor_lt_two_pow (Nat.pow_lt_pow_right (by decide) hin) ha,he,by rw [S9,this,Nat.xor_assoc]⟩
   ·obtain ⟨i,y,hi,rfl⟩:=afr hr
    have hin:i<n:=by have:=(List.getElem?_eq_some_iff.1 hi).1;omega
    obtain ⟨x,hx⟩:∃x,u[i]?=some x:=⟨_,List.getElem?_eq_getElem (by omega)⟩
    have:=SY (dY n u) 0 i (sU hx)
    rw [Nat.zero_add] at this
    refine ⟨2 ^ i^^^a,(x^^^y)^^^e,Nat.xor_lt_two_pow (Nat.pow_lt_pow_right (by decide) hin) ha,(Sp.mem (List.mem_of_getElem? (Tg hx hi))).xor he,?_⟩
    rw [S9,this,akl hin,akl hin,adR,adR]
    rw [show (2 ^ i^^^x <<< n^^^oM a 0 (dY n u))^^^(x <<< n^^^y <<< n^^^e <<< n)=(x <<< n^^^x <<< n)^^^((2 ^ i^^^y <<< n)^^^(oM a 0 (dY n u)^^^e <<< n)) by ac_rfl,Nat.xor_self,Nat.zero_xor]
 ·rintro ⟨a,e,_,he,rfl⟩
  refine Sp.xor (akV a _ _ 0 fun x hx=>List.mem_append_left _ hx) ?_
  refine Sp.trans ?_ (Sp.map (f:=fun x=>x <<< n) (by simp) (fun a b=>adR a b n) he)
  intro r hr
  obtain ⟨z,hz,rfl⟩:=List.mem_map.1 hr
  obtain ⟨i,hi⟩:=List.getElem?_of_mem hz
  have hin:i<n:=by have:=(List.getElem?_eq_some_iff.1 hi).1;rw [GX (by omega)] at this;omega
  have hx:=List.getElem?_eq_getElem (show i<u.length by omega)
  have hy:=List.getElem?_eq_getElem (show i<w.length by omega)
  rw [Tg hx hy] at hi
  have h1:=(Sp.mem (List.mem_append_left (dY n w) (List.mem_of_getElem? (sU (n:=n) hx)))).xor (Sp.mem (List.mem_append_right (dY n u) (List.mem_of_getElem? (sU (n:=n) hy))))
  rw [akl hin,akl hin] at h1
  rw [←Option.some.inj hi]
  rw [adR]
  rwa [show (2 ^ i^^^u[i] <<< n)^^^(2 ^ i^^^w[i] <<< n)=(2 ^ i^^^2 ^ i)^^^(u[i] <<< n^^^w[i] <<< n) by ac_rfl,Nat.xor_self,Nat.zero_xor] at h1
theorem arN{n:Nat}{u w E D:List Nat}(hu:u.length=n)(hw:w.length=n)(hE:jm (dY n u++dY n w) E)(hD:jm (rY u w) D):E.length=n+D.length:=by
 have hsE:∀v,Sp (dY n u++dY n w) v↔Sp E v:=by obtain ⟨_,_,_,_,h⟩:=hE;exact h
 have hsD:∀v,Sp (rY u w) v↔Sp D v:=by obtain ⟨_,_,_,_,h⟩:=hD;exact h
 let g:Nat→Nat:=fun h=>oM (h%2 ^ n) 0 (dY n u)^^^(oM (h/2 ^ n) 0 D) <<< n
 have hlow:∀a e q,q<n→(oM a 0 (dY n u)^^^e <<< n).testBit q=a.testBit q:=by
  intro a e q hq
  rw [Nat.testBit_xor,auA hq,Bool.xor_false]
  have:=akW (p:=q) (h:=a) (dY n u) 0 q (fun j' x hx=>(afq hu).bit hx hq) (by rw [iU];omega)
  rwa [Nat.zero_add] at this
 have hlt:∀h,h<2 ^ (n+D.length)→h/2 ^ n<2 ^ D.length:=fun h hh=>Nat.div_lt_of_lt_mul (by rwa [Nat.pow_add] at hh)
 have hinj:∀a b,a<2 ^ (n+D.length)→b<2 ^ (n+D.length)→g a=g b→a=b:=by
  intro a b ha hb he
  have h1:a%2 ^ n=b%2 ^ n:=by
   apply Nat.eq_of_testBit_eq
   intro q
   by_cases hq:q<n
   ·have h1:=hlow (a%2 ^ n) (oM (a/2 ^ n) 0 D) q hq
    have h2:=hlow (b%2 ^ n) (oM (b/2 ^ n) 0 D) q hq
    rw [←h1,←h2]
    exact congrArg (·.testBit q) he
   ·rw [Nat.testBit_lt_two_pow (Nat.lt_of_lt_of_le (Nat.mod_lt a (Nat.two_pow_pos n)) (Nat.pow_le_pow_right (by decide) (by omega))),Nat.testBit_lt_two_pow (Nat.lt_of_lt_of_le (Nat.mod_lt b (Nat.two_pow_pos n)) (Nat.pow_le_pow_right (by decide) (by omega)))]
  have h2:oM (a/2 ^ n) 0 D=oM (b/2 ^ n) 0 D:=by
   have he':oM (a%2 ^ n) 0 (dY n u)^^^(oM (a/2 ^ n) 0 D) <<< n=oM (b%2 ^ n) 0 (dY n u)^^^(oM (b/2 ^ n) 0 D) <<< n:=he
   rw [h1] at he'
   have h3:=congrArg (oM (b%2 ^ n) 0 (dY n u) ^^^ ·) he'
   simp only [GY] at h3
   have h4:=congrArg (· >>> n) h3
   simpa using h4
  have h3:=aqQ (ap1 hD) (hlt a ha) (hlt b hb) h2
  have h4:=Nat.div_add_mod a (2 ^ n)
  have h5:=Nat.div_add_mod b (2 ^ n)
  rw [h3,h1] at h4
  omega
 have hnd:((List.range (2 ^ (n+D.length))).map g).Nodup:=by
  rw [List.nodup_iff_pairwise_ne]
  refine List.pairwise_map.2 (List.Pairwise.imp_of_mem ?_ (List.nodup_iff_pairwise_ne.1 List.nodup_range))
  intro a b ha hb hab he
  exact hab (hinj a b (List.mem_range.1 ha) (List.mem_range.1 hb) he)
 have h1:2 ^ (n+D.length)≤2 ^ E.length:=by
  have:=Yp hnd (l':=apP E) (fun v hv=>by
   obtain ⟨h,hh,rfl⟩:=List.mem_map.1 hv
   rw [aqY,←hsE]
   exact (amk hu hw).2 ⟨_,_,Nat.mod_lt _ (Nat.two_pow_pos n),(hsD _).2 (akV _ D D 0 fun x hx=>hx),rfl⟩)
  simpa [apP] using this
 have h2:2 ^ E.length≤2 ^ (n+D.length):=by
  have:=Yp (asF (ap1 hE)) (l':=(List.range (2 ^ (n+D.length))).map g) (fun v hv=>by
   rw [aqY,←hsE] at hv
   obtain ⟨a,e,ha,he,rfl⟩:=(amk hu hw).1 hv
   obtain ⟨b,hb,rfl⟩:=auC ((hsD e).1 he)
   refine List.mem_map.2 ⟨a+2 ^ n*b,List.mem_range.2 ?_,?_⟩
   ·rw [Nat.pow_add]
    have:2 ^ n*(b+1)≤2 ^ n*2 ^ D.length:=Nat.mul_le_mul_left _ hb
    rw [Nat.mul_add,Nat.mul_one] at this
    omega
   ·show oM ((a+2 ^ n*b)%2 ^ n) 0 (dY n u)^^^(oM ((a+2 ^ n*b)/2 ^ n) 0 D) <<< n=_
    rw [Nat.add_mul_mod_self_left,Nat.mod_eq_of_lt ha,Nat.add_mul_div_left _ _ (Nat.two_pow_pos n),Nat.div_eq_of_lt ha,Nat.zero_add])
  simpa [apP] using this
 have h3:=(Nat.pow_le_pow_iff_right (a:=2) (by decide)).1 h1
 have h4:=(Nat.pow_le_pow_iff_right (a:=2) (by decide)).1 h2
 omega
theorem avZ{a b:Nat}(ha:a<2 ^ 63)(hb:b<2 ^ 63):ior .i64 (a:Int) (b:Int)=((a|||b:Nat):Int):=by
 have hx:a|||b<2 ^ 63:=Nat.or_lt_two_pow ha hb
 have:(BitVec.ofInt 64 (a:Int)|||BitVec.ofInt 64 (b:Int)).toNat=a|||b:=by
  rw [BitVec.toNat_or,ES (by omega),ES (by omega)]
 unfold ior
 show aL .i64 (((BitVec.ofInt 64 (a:Int)|||BitVec.ofInt 64 (b:Int)).toNat:Nat):Int)=_
 rw [this,Aw (by omega)]
theorem anI{a j:Nat}(hj:j≤62)(h:a*2 ^ j<2 ^ 63):rX .i64 (a:Int) (j:Int)=((a <<< j:Nat):Int):=by
 rw [Nat.shiftLeft_eq]
 unfold rX
 rw [Int.toNat_natCast,show min j (IntKind.bits .i64)=j from Nat.min_eq_left (by show j≤64;omega)]
 have h2:((a:Int)*2 ^ j)=((a*2 ^ j:Nat):Int):=by push_cast;rfl
 rw [h2]
 exact Aw (by omega)
theorem amj{n m i x:Nat}(hi:i<n)(hn:n≤5)(hx:x<2 ^ m)(hm:m≤5):ior .i64 (rX .i64 1 (i:Int)) (rX .i64 (x:Int) (n:Int))=((2 ^ i|||x <<< n:Nat):Int):=by
 have p1:=wV (b:=i) (c:=5) (by omega)
 have p2:=wV (b:=n) (c:=5) hn
 have p3:=wV (b:=m) (c:=5) hm
 have p4:x*2 ^ n≤2 ^ 5*2 ^ 5:=Nat.mul_le_mul (by omega) p2
 have e1:rX .i64 1 (i:Int)=((1 <<< i:Nat):Int):=anI (a:=1) (by omega) (by omega)
 rw [e1,anI (by omega) (by omega),avZ (by rw [Nat.one_shiftLeft];omega) (by rw [Nat.shiftLeft_eq];omega),Nat.one_shiftLeft]
def liftM(f:TF3)(w:List Nat):Int×List Int×Unit:=((w.length:Int)+f.1,up (dY w.length w),())
theorem axB{l D:List Nat}(h:jm l D):TR (up l)=up D:=by unfold TR;rw [up_toNat,aen h]
theorem aj2{f:TF3}(hf:aQ f=true){w:List Nat}(hw:inL (FOf f hf) w):∀r∈dY w.length w,r<2 ^ (w.length+f.1.toNat):=by
 intro r hr
 obtain ⟨i,y,hi,rfl⟩:=afr hr
 exact avK (List.getElem?_eq_some_iff.1 hi).1 (hw y (List.mem_of_getElem? hi))
theorem Yf{f:TF3}(hf:aQ f=true){w:List Nat}(hw:inL (FOf f hf) w)(h5:w.length≤5):agW (liftM f w)=true:=by
 have hd:=dM hf
 unfold agW liftM
 rw [Bool.and_eq_true,decide_eq_true_eq]
 refine ⟨?_,axB (atO rfl)⟩
 unfold ahT
 simp only [Bool.and_eq_true,iT,decide_eq_true_eq,List.all_eq_true]
 refine ⟨by omega,by rw [eX,iU];omega,fun x hx=>?_⟩
 obtain ⟨y,hy,rfl⟩:=List.mem_map.1 hx
 have hq:=aj2 hf hw y hy
 unfold inP
 rw [show (w.length:Int)+f.1=((w.length+f.1.toNat:Nat):Int) by omega,anT (by omega),iT]
 omega
theorem adV{F:FO}{k:Nat}(hF:F.q=2 ^ k){u w:List Nat}(hu:inL F u)(hw:inL F w):inL F (rY u w):=by
 intro x hx
 obtain ⟨z,hz,rfl⟩:=List.mem_map.1 hx
 have:=List.of_mem_zip (a:=z.1) (b:=z.2) hz
 have h1:=hu _ this.1
 have h2:=hw _ this.2
 rw [hF] at h1 h2 ⊢
 exact Nat.xor_lt_two_pow h1 h2
theorem aiX{f:TF3}(hf:aQ f=true){u w:List Nat}(hu:inL (FOf f hf) u)(hw:inL (FOf f hf) w)(hl:u.length=w.length)(h5:w.length≤5):FY 62 (up (dY u.length u)++up (dY w.length w))=true∧(TR (up (dY u.length u)++up (dY w.length w))).length=w.length+rkN (rY u w)∧rkN (rY u w)≤5:=by
 have hd:=dM hf
 have hap:up (dY u.length u)++up (dY w.length w)=up (dY u.length u++dY w.length w):=by simp [up]
 have hok:FY 62 (up (dY u.length u++dY w.length w))=true:=aaK (by rw [List.length_append,iU,iU];omega) fun r hr=>by
  have hp:∀k,k≤62→2 ^ k≤2 ^ 62:=fun k hk=>wV hk
  rcases List.mem_append.1 hr with hr|hr
  ·exact Nat.lt_of_lt_of_le (aj2 hf hu r hr) (hp _ (by omega))
  ·exact Nat.lt_of_lt_of_le (aj2 hf hw r hr) (hp _ (by omega))
 rw [hap]
 have hx:inL (FOf f hf) (rY u w):=adV (Xn hf) hu hw
 have hxl:=GX hl
 have hD:=Yz hf hx (by omega)
 have hE:=aou (b:=62) (by omega) hok
 rw [up_toNat] at hE
 have:=arN (n:=w.length) (u:=u) (w:=w) hl rfl (by rw [hl] at hE;exact hE) hD
 have hle:=hD.le
 refine ⟨hok,?_,by unfold rkN;omega⟩
 rw [ael,up_toNat,hl]
 exact this
def mh (aX:Int) (bD:List Int) (dL:Int):(Int×aA)→Tre ((Int×aA) ⊕ aA):=fun s4=>
 .cond (decide (s4.1<dL))
  (.ite (0≤s4.1∧s4.1<(bD.length:Int))<|
  .mat (bD[s4.1.toNat]?) fun x2=>
  .ite (0≤s4.1)<|
  .ite (0≤aX)<|
  let v3:=ior .i64 (rX .i64 1 s4.1) (rX .i64 x2 aX)
  .ite ((s4.2.2.1.length+1)*8≤bQ∧1≤8)<|
  .ret (.inl (aL .i64 (s4.1+1),(s4.2.1,(s4.2.2.1++([v3]),s4.2.2.2)))))
  (.ret (.inr s4.2))
def MG (p0:(Int×(Int×Unit))) (p1:List Int):Tre (Int×(List Int)):=
 let v1:=aL .i64 ((p1.length:Int)+p0.1)
 .mat (aS (mh (p1.length:Int) p1 (p1.length:Int)) (0,(v1,([],())))) fun l4=>
 .ret (l4.1,l4.2.1)
def oq (p0:(Int×(Int×Unit))) (p1:List Int):Option (Int×(List Int)):=(MG p0 p1).run some
-- more
theorem afd{f:TF3}(hf:aQ f=true){w:List Nat}(hw:inL (FOf f hf) w)(h5:w.length≤5):oq f (up w)=some ((liftM f w).1,(liftM f w).2.1):=by
 have hd:=dM hf
 have hlen:(up w).length=w.length:=eX w
 have hwr:aL .i64 (((up w).length:Int)+f.1)=(w.length:Int)+f.1:=by rw [hlen,bY (by omega) (by omega)]
 unfold oq MG
 dsimp only
 rw [hwr,ah (show aS (mh ((up w).length:Int) (up w) ((up w).length:Int)) (0,((w.length:Int)+f.1,([],())))=some ((w.length:Int)+f.1,(up (dY w.length w),())) from ?_)]
 ·rfl
 refine fH (fun i=>((i:Int),((w.length:Int)+f.1,(up ((dY w.length w).take i),())))) w.length _ (fun i hi=>?_) ?_
 ·have hx:=aec hi
  have hlt:cf w i<2 ^ f.1.toNat:=aly hw i
  unfold mh
  dsimp only
  rw [eB (Tf hx),Tre.run_ite,if_pos (by omega),Tre.run_ite,if_pos (by omega)]
  rw [Tre.run_ite,if_pos (by unfold bQ;rw [eX,List.length_take];omega),Tre.aN,aY (by omega),hlen,amj hi h5 hlt (by omega),List.take_add_one,sU hx]
  simp [up]
 ·unfold mh
  dsimp only
  rw [hlen,dR,Tre.aN,List.take_of_length_le (by rw [iU];omega)]
def yx:Env:=⟨tau,[(67,lI)],[]⟩
def QE:Code:=(Tryz.f83.body).getD .skip
def Fp (iG:Bool) (aX:Int) (bD:List Int) (dL:Int) (jM:aA):(Int×aA)→St:=fun x=>bT [(4,(.ptr (6,0) [])),(5,(.i aX)),(6,(.ptr (8,0) [])),(16,(.imm iG .il bD)),(17,(.i dL)),(18,(.i x.1))] [((6,0),some ⟨true,aK,.own,jM⟩),((8,0),some ⟨true,aK,.own,x.2⟩)]
def DR (_:Bool) (_:Int) (_:List Int) (_:Int) (jM:aA):aA→Ex×St:=fun x=>(.exit 0,bT [(4,(.ptr (6,0) [])),(6,(.ptr (8,0) []))] [((6,0),some ⟨true,aK,.own,jM⟩),((8,0),some ⟨true,aK,.own,x⟩)])
def XF (s:St):Tre (Ex×St):=
 dH (6,0) [] (s.tmps 4)<|
 aF true .n (s.tmps 5) fun d3=>
 dH (8,0) [] (s.tmps 6)<|
 bB .il (s.tmps 16) fun z7 d6=>
 aF true .n (s.tmps 17) fun d9=>
 aF true .n (s.tmps 18) fun d11=>
 bq true aK (s.roots (6,0)) fun m13 d14=>
 asM .own m13<|
 bq true aK (s.roots (8,0)) fun m16 d17=>
 asM .own m16<|
 .mat (aS (mh d3 d6 d9) (d11,d17)) fun x=>.ret (DR z7 d3 d6 d9 d14 x)
def qX:bF:=⟨([4,5,6,16,17,18],[(6,0),(8,0)]),([4,6],[(6,0),(8,0)]),XF⟩
def Fj:List (Nat×bF):=[(4,qX)]
theorem QF:∀(iG:Bool)(aX:Int)(bD:List Int)(dL:Int)(jM:aA)(x:(Int×aA))(c:St→Option (Ex×St)),den yx Fj (aV QE 0) (Fp iG aX bD dL jM x) (bZ qX.kp qX.kx c)=(mh aX bD dL x).run (cu (Fp iG aX bD dL jM) (DR iG aX bD dL jM) c):=fun _ _ _ _ _ _ _=>by
 kernel_rfl
theorem VU:bU yx Fj (aV QE 0) qX:=dB fun _ _ _=>gy<|aO fun _=>gy<|dF fun _ _=>aO fun _=>aO fun _=>cO fun _ _=>tM<|cO fun _ _=>tM<|fun h _ e15 _ e12 e10 e8 e5 e4 e2 e1=>cK (QF _ _ _ _ _) h (by subst_vars;exact aT rfl rfl ⟨e1,e2,e4,e5,e8,e10,trivial⟩ ⟨e12,e15,trivial⟩)
def aeG:FnI:=fnI Tryz.f83 Fj
def Ky (_:Bool) (_:(Int×(Int×Unit))) (_:List Int):(Int×(List Int))→au:=fun r=>⟨(.pair (.i r.1) (.pair (.ref (1,0) []) (.imm true .unit ()))),[],[⟨false,.il,.own,r.2⟩]⟩
theorem acD:∀(zp0:Bool)(p0:(Int×(Int×Unit)))(p1:List Int),bH yx aeG ⟨[(.imm true aM p0),(.imm zp0 .il p1)],[]⟩=(MG p0 p1).run fun r=>some (Ky zp0 p0 p1 r):=fun _ _ _=>by kernel_rfl
def aeF (av:List AV) (rs:List Root):Tre au:=
 aB av fun a0_ av0=>
 aB av0 fun a1_ av1=>
 aJ av1<|
 aJ rs<|
 aF true aM a0_ fun d1=>
 bB .il a1_ fun z3 d2=>
 .mat (oq d1 d2) fun r=>.ret (Ky z3 d1 d2 r)
def yA:Ctr:=dx [] aeF
theorem Db:Contract Tryz.prog .none 83 yA:=aC (V:=yx) aR (ak mD aiI aH) Tryz.func83 (bM (n:=1) fun k hk=>by
 match k,hk with
 |0,_=>exact bP (id:=4) VU) fun _ _ _=>aI fun _ _=>aI fun _ _=>aZ<|aZ<|aO fun _=>dF fun _ _=>fun h=>by intros;subst_vars;exact aW (acD _ _ _) h
def V6 (p0:(Int×(Int×Unit))) (p1:List Int):Tre (Int×Int×(List Int)):=
 .mat (lD p0 ([p1])) fun r1=>
 .cond (!decide (r1=0))
  (.ret (0,r1,[]))
  (.mat (oq p0 p1) fun r2=>
  .ret (r2.1,0,r2.2))
def pI (p0:(Int×(Int×Unit))) (p1:List Int):Option (Int×Int×(List Int)):=(V6 p0 p1).run some
-- more
theorem aow{f:TF3}(hf:aQ f=true){w:List Nat}(hw:inL (FOf f hf) w):Qj f (up w)=true:=by
 have h0:=ak4 hf
 unfold Qj
 rw [List.all_eq_true]
 intro x hx
 obtain ⟨y,hy,rfl⟩:=List.mem_map.1 hx
 have:=hw y hy
 rw [Xn] at this
 rw [iT]
 refine ⟨by omega,?_⟩
 unfold EN
 have h2:((2:Int) ^ f.1.toNat)=((2 ^ f.1.toNat:Nat):Int):=by push_cast;rfl
 rw [h2];omega
theorem X5{f:TF3}(hf:aQ f=true){w:List Nat}(hw:inL (FOf f hf) w)(h1:1≤w.length)(h5:w.length≤5):pI f (up w)=some ((liftM f w).1,0,(liftM f w).2.1):=by
 unfold pI V6
 rw [ah (U1 hf (n:=w.length) (by simp) (by simp) (fun x hx=>by rw [List.mem_singleton] at hx;subst hx;exact ⟨eX w,aow hf hw⟩) ⟨h1,h5⟩),Tre.aD,decide_eq_true rfl,Bool.not_true,cond_false]
 rw [ah (afd hf hw h5),Tre.aN]
def XK:Env:=⟨tau,[(82,wP),(83,yA)],[]⟩
def ajG:FnI:=fnI Tryz.f24 []
def QL (_:Bool) (_:(Int×(Int×Unit))) (_:List Int):(Int×Int×(List Int))→au:=fun r=>⟨(.tcons (.pair (.i r.1) (.pair (.ref (1,0) []) (.imm true .unit ()))) (.tcons (.i r.2.1) .tnil)),[],[⟨false,.il,.own,r.2.2⟩]⟩
theorem ahA:∀(zp0:Bool)(p0:(Int×(Int×Unit)))(p1:List Int),bH XK ajG ⟨[(.imm true aM p0),(.imm zp0 .il p1)],[]⟩=(V6 p0 p1).run fun r=>some (QL zp0 p0 p1 r):=fun _ _ _=>by kernel_rfl
def ajF (av:List AV) (rs:List Root):Tre au:=
 aB av fun a0_ av0=>
 aB av0 fun a1_ av1=>
 aJ av1<|
 aJ rs<|
 aF true aM a0_ fun d1=>
 bB .il a1_ fun z3 d2=>
 .mat (pI d1 d2) fun r=>.ret (QL z3 d1 d2 r)
def XL:Ctr:=dx [] ajF
theorem ahB:Contract Tryz.prog .none 24 XL:=aC (V:=XK) aR (ak DU awV (ak Db atp aH)) Tryz.func24 bn fun _ _ _=>aI fun _ _=>aI fun _ _=>aZ<|aZ<|aO fun _=>dF fun _ _=>fun h=>by intros;subst_vars;exact aW (ahA _ _ _) h
def akC (p0:Int) (p1:Int) (p2:Int):Tre Bool:=
 .cond (decide (p0 ≥ p1))
  (.ret (decide (p0≤p2)))
  (.ret false)
def ai9 (p0:Int) (p1:Int) (p2:Int):Option Bool:=(akC p0 p1 p2).run some
theorem akD(n a b:Int):ai9 n a b=some (inR n a b):=by
 unfold ai9 akC inR
 by_cases h:a≤n
 ·simp [Tre.aD,Tre.aN,h]
 ·simp [Tre.aD,Tre.aN,h]
def aja:Env:=⟨tau,[],[]⟩
def asg:FnI:=fnI Tryz.f54 []
def abX (_:Int) (_:Int) (_:Int):Bool→au:=fun r=>⟨(.imm true .bool r),[],[]⟩
theorem apu:∀(p0 p1 p2:Int),bH aja asg ⟨[(.i p0),(.i p1),(.i p2)],[]⟩=(akC p0 p1 p2).run fun r=>some (abX p0 p1 p2 r):=fun _ _ _=>by kernel_rfl
def asf (av:List AV) (rs:List Root):Tre au:=
 aB av fun a0_ av0=>
 aB av0 fun a1_ av1=>
 aB av1 fun a2_ av2=>
 aJ av2<|
 aJ rs<|
 aF true .n a0_ fun d1=>
 aF true .n a1_ fun d2=>
 aF true .n a2_ fun d3=>
 .ret (abX d1 d2 d3 (inR d1 d2 d3))
def EU:Ctr:=dx [] asf
theorem Ga:Contract Tryz.prog .none 54 EU:=aC (V:=aja) aR aH Tryz.func54 bn fun _ _ _=>aI fun _ _=>aI fun _ _=>aI fun _ _=>aZ<|aZ<|aO fun _=>aO fun _=>aO fun _=>fun h=>by intros;subst_vars;exact yt (apu _ _ _) (akD _ _ _) h
def Dt (p0:Int):Tre Bool:=
 .cond (decide (p0>0))
  (.cond (decide (p0<64))
   (.mat (wZ p0) fun r1=>
   .ret r1)
   (.ret false))
  (.ret false)
def rF (p0:Int):Option Bool:=(Dt p0).run some
def Jb:Env:=⟨tau,[(217,w9)],[]⟩
def YH:FnI:=fnI Tryz.f198 []
def DZ (_:Int):Bool→au:=fun r=>⟨(.imm true .bool r),[],[]⟩
theorem WI:∀(p0:Int),bH Jb YH ⟨[(.i p0)],[]⟩=(Dt p0).run fun r=>some (DZ p0 r):=fun _=>by kernel_rfl
def YG (av:List AV) (rs:List Root):Tre au:=
 aB av fun a0_ av0=>
 aJ av0<|
 aJ rs<|
 aF true .n a0_ fun d1=>
 .mat (rF d1) fun r=>.ret (DZ d1 r)
def Jc:Ctr:=dx [] YG
theorem WJ:Contract Tryz.prog .none 198 Jc:=aC (V:=Jb) aR (ak D8 atm aH) Tryz.func198 bn fun _ _ _=>aI fun _ _=>aZ<|aZ<|aO fun _=>fun h=>by intros;subst_vars;exact aW (WI _) h
def adQ (p0:(Int×(Int×Unit))):Tre Bool:=
 .cond (inR p0.1 1 5)
  (.mat (rF p0.2.1) fun r1=>
  .cond r1
   (.mat (nN p0.2.1) fun r2=>
   .ret (decide (r2=p0.1)))
   (.ret false))
  (.ret false)
def EW (p0:(Int×(Int×Unit))):Option Bool:=(adQ p0).run some
-- more
theorem ags(f:Int×Int×Unit):EW f=some (aQ f):=by
 refine alQ ?_ ?_ (by kernel_rfl) f
 ·intro f h
  unfold EW adQ
  rw [Tre.aD,h];rfl
 ·intro f h
  unfold EW adQ
  rw [Tre.aD]
  have:rF f.2.1=some false:=by
   unfold rF Dt
   rw [Tre.aD]
   by_cases h1:f.2.1>0
   ·rw [decide_eq_true h1,cond_true,Tre.aD,decide_eq_false (by omega)];rfl
   ·rw [decide_eq_false h1];rfl
  rw [ah this]
  cases inR f.1 1 5<;>rfl
def ajb:Env:=⟨tau,[(54,EU),(198,Jc),(199,Bq)],[]⟩
def asi:FnI:=fnI Tryz.f132 []
def ab4 (_:(Int×(Int×Unit))):Bool→au:=fun r=>⟨(.imm true .bool r),[],[]⟩
theorem apC:∀(p0:(Int×(Int×Unit))),bH ajb asi ⟨[(.imm true aM p0)],[]⟩=(adQ p0).run fun r=>some (ab4 p0 r):=fun _=>by kernel_rfl
def ash (av:List AV) (rs:List Root):Tre au:=
 aB av fun a0_ av0=>
 aJ av0<|
 aJ rs<|
 aF true aM a0_ fun d1=>
 .mat (EW d1) fun r=>.ret (ab4 d1 r)
def aaX:Ctr:=dx [] ash
theorem agt:Contract Tryz.prog .none 132 aaX:=aC (V:=ajb) aR (ak Ga alO (ak WJ ax5 (ak Gf aoF aH))) Tryz.func132 bn fun _ _ _=>aI fun _ _=>aZ<|aZ<|aO fun _=>fun h=>by intros;subst_vars;exact aW (apC _) h
def lq (bC:List Int) (eH:(Int×(Int×Unit))):Int→Tre (Int ⊕ (Bool ⊕ Unit)):=fun s2=>
 .cond (decide (s2<(bC.length:Int)))
  (.ite (0≤s2∧s2<(bC.length:Int))<|
  .mat (bC[s2.toNat]?) fun x1=>
  .mat (iD eH) fun r2=>
  let v3:=inR x1 0 (aL .i64 (r2-1))
  .cond (!v3)
   (.ret (.inr (.inl false)))
   (.ret (.inl (aL .i64 (s2+1)))))
  (.ret (.inr (.inr ())))
def Kg (p0:(Int×(Int×Unit))) (p1:List Int):Tre Bool:=
 .mat (aS (lq p1 p0) 0) fun l4=>
 .alt l4
  (fun a5=>
   .ret a5)
  (fun _=>
   .ret true)
def qB (p0:(Int×(Int×Unit))) (p1:List Int):Option Bool:=(Kg p0 p1).run some
-- more
theorem akL{f:TF3}(hf:aQ f=true):iD f=some (rX .i64 1 (aL .u64 f.1)):=by
 have:=dM hf
 unfold iD TP
 rw [Tre.run_ite,if_pos (oD _)]
 rfl
theorem Lv{f:TF3}(hf:aQ f=true)(c:List Int)(hc:c.length<4611686018427387904):qB f c=some (Qj f c):=by
 unfold qB Kg Qj
 rw [Tre.mZ,air (xs:=c) (fun x=>inR x 0 (EN f)) (.inl false) (.inr ())]
 ·generalize List.all _ _=z
  cases z<;>rfl
 ·intro i x hx
  have hi:i<c.length:=(List.getElem?_eq_some_iff.1 hx).1
  unfold lq
  rw [eB hx,ah (akL hf),ak3 hf]
  dsimp only
  rw [Tre.aD]
  cases inR x 0 (EN f)
  ·rfl
  ·simp only [Bool.not_true,cond_false,cond_true,Tre.aN,aY (show i<4611686018427387904 by omega)]
 ·unfold lq
  exact dR
def wK:Env:=⟨tau,[(137,xR),(54,EU)],[]⟩
def O4:Code:=(Tryz.f56.body).getD .skip
def vg (oP:Bool) (bC:List Int) (eH:(Int×(Int×Unit))):Int→St:=fun x=>bT [(1,(.imm oP .il bC)),(2,(.ptr (4,0) [])),(5,(.i x))] [((4,0),some ⟨true,aM,.own,eH⟩)]
def nu (_:Bool) (_:List Int) (_:(Int×(Int×Unit))):(Bool ⊕ Unit)→Ex×St
 |.inl x=>(.ret,bT [(4,(.imm true .bool x))] [])
 |.inr _=>(.exit 0,bT [(4,.dead)] [])
def Gt (s:St):Tre (Ex×St):=
 bB .il (s.tmps 1) fun z3 d2=>
 dH (4,0) [] (s.tmps 2)<|
 aF true .n (s.tmps 5) fun d6=>
 bq true aM (s.roots (4,0)) fun m8 d9=>
 asM .own m8<|
 .mat (aS (lq d2 d9) d6) fun x=>.alt x (fun a0=>.ret (nu z3 d2 d9 (.inl a0))) (fun b0=>.ret (nu z3 d2 d9 (.inr b0)))
def lM:bF:=⟨([1,2,5],[(4,0)]),([4],[]),Gt⟩
def Dw:List (Nat×bF):=[(2,lM)]
theorem PY:∀(oP:Bool)(bC:List Int)(eH:(Int×(Int×Unit)))(x:Int)(c:St→Option (Ex×St)),den wK Dw (aV O4 0) (vg oP bC eH x) (bZ lM.kp lM.kx c)=(lq bC eH x).run (cu (vg oP bC eH) (nu oP bC eH) c):=fun _ _ _ _ _=>by
 kernel_rfl
theorem Uz:bU wK Dw (aV O4 0) lM:=fq fun s e s' h=>by
 generalize hs:restrict lM.kp s=s1 at h
 have h:(Gt s1).run some=some (e,s'):=h
 obtain ⟨z3,d2,e1,h_0⟩:=dJ h
 obtain ⟨e4,h_1⟩:=EY h_0
 obtain ⟨d6,e5,h_2⟩:=bO h_1
 obtain ⟨m8,d9,e7,h_3⟩:=gG h_2
 obtain ⟨rfl,h_4⟩:=vD h_3
 obtain ⟨y,hy,hz⟩:=iA h_4
 refine ⟨_,_,vg z3 d2 d9,nu z3 d2 d9,lq d2 d9,d6,y,?_,hy,?_,PY z3 d2 d9⟩
 ·subst hs;exact aT (T:=[(1,(.imm z3 .il d2)),(2,(.ptr (4,0) [])),(5,(.i d6))]) (U:=[((4,0),some ⟨true,aM,.own,d9⟩)]) rfl rfl ⟨e1,e4,e5,trivial⟩ ⟨e7,trivial⟩
 ·rcases y with x|x<;>exact Option.some.inj hz
def ady:FnI:=fnI Tryz.f56 Dw
def Jr (_:Bool) (_:(Int×(Int×Unit))) (_:List Int):Bool→au:=fun r=>⟨(.imm true .bool r),[],[]⟩
theorem aa1:∀(zp0:Bool)(p0:(Int×(Int×Unit)))(p1:List Int),bH wK ady ⟨[(.imm true aM p0),(.imm zp0 .il p1)],[]⟩=(Kg p0 p1).run fun r=>some (Jr zp0 p0 p1 r):=fun _ _ _=>by kernel_rfl
def adx (av:List AV) (rs:List Root):Tre au:=
 aB av fun a0_ av0=>
 aB av0 fun a1_ av1=>
 aJ av1<|
 aJ rs<|
 aF true aM a0_ fun d1=>
 bB .il a1_ fun z3 d2=>
 .mat (qB d1 d2) fun r=>.ret (Jr z3 d1 d2 r)
def Dx:Ctr:=dx [] adx
theorem Lx:Contract Tryz.prog .none 56 Dx:=aC (V:=wK) aR (ak zf aeo (ak Ga alO aH)) Tryz.func56 (bM (n:=1) fun k hk=>by
 match k,hk with
 |0,_=>exact bP (id:=2) Uz) fun _ _ _=>aI fun _ _=>aI fun _ _=>aZ<|aZ<|aO fun _=>dF fun _ _=>fun h=>by intros;subst_vars;exact aW (aa1 _ _ _) h
def aa7 (p0:(Int×(Int×Unit))) (p1:List Int):Tre Bool:=
 let v1:=inR (p1.length:Int) 1 5
 .cond v1
  (.mat (qB p0 p1) fun r2=>
  .ret r2)
  (.ret false)
def Jw (p0:(Int×(Int×Unit))) (p1:List Int):Option Bool:=(aa7 p0 p1).run some
def ace:Env:=⟨tau,[(54,EU),(56,Dx)],[]⟩
def anF:FnI:=fnI Tryz.f134 []
def Vn (_:Bool) (_:(Int×(Int×Unit))) (_:List Int):Bool→au:=fun r=>⟨(.imm true .bool r),[],[]⟩
theorem akS:∀(zp0:Bool)(p0:(Int×(Int×Unit)))(p1:List Int),bH ace anF ⟨[(.imm true aM p0),(.imm zp0 .il p1)],[]⟩=(aa7 p0 p1).run fun r=>some (Vn zp0 p0 p1 r):=fun _ _ _=>by kernel_rfl
def anE (av:List AV) (rs:List Root):Tre au:=
 aB av fun a0_ av0=>
 aB av0 fun a1_ av1=>
 aJ av1<|
 aJ rs<|
 aF true aM a0_ fun d1=>
 bB .il a1_ fun z3 d2=>
 .mat (Jw d1 d2) fun r=>.ret (Vn z3 d1 d2 r)
def acf:Ctr:=dx [] anE
theorem akT:Contract Tryz.prog .none 134 acf:=aC (V:=ace) aR (ak Ga alO (ak Lx awR aH)) Tryz.func134 bn fun _ _ _=>aI fun _ _=>aI fun _ _=>aZ<|aZ<|aO fun _=>dF fun _ _=>fun h=>by intros;subst_vars;exact aW (akS _ _ _) h
def Xg (p0:(Int×(Int×Unit))) (p1:List Int):Tre Int:=
 .mat (EW p0) fun r1=>
 .cond (!r1)
  (.ret 1)
  (.mat (Jw p0 p1) fun r2=>
  .cond (!r2)
   (.ret 2)
   (.ret 0))
def EL (p0:(Int×(Int×Unit))) (p1:List Int):Option Int:=(Xg p0 p1).run some
def Zd:Env:=⟨tau,[(132,aaX),(134,acf)],[]⟩
def akP:FnI:=fnI Tryz.f84 []
def SC (_:Bool) (_:(Int×(Int×Unit))) (_:List Int):Int→au:=fun r=>⟨(.i r),[],[]⟩
theorem aif:∀(zp0:Bool)(p0:(Int×(Int×Unit)))(p1:List Int),bH Zd akP ⟨[(.imm true aM p0),(.imm zp0 .il p1)],[]⟩=(Xg p0 p1).run fun r=>some (SC zp0 p0 p1 r):=fun _ _ _=>by kernel_rfl
def akO (av:List AV) (rs:List Root):Tre au:=
 aB av fun a0_ av0=>
 aB av0 fun a1_ av1=>
 aJ av1<|
 aJ rs<|
 aF true aM a0_ fun d1=>
 bB .il a1_ fun z3 d2=>
 .mat (EL d1 d2) fun r=>.ret (SC z3 d1 d2 r)
def Ze:Ctr:=dx [] akO
theorem aii:Contract Tryz.prog .none 84 Ze:=aC (V:=Zd) aR (ak agt atf (ak akT axJ aH)) Tryz.func84 bn fun _ _ _=>aI fun _ _=>aI fun _ _=>aZ<|aZ<|aO fun _=>dF fun _ _=>fun h=>by intros;subst_vars;exact aW (aif _ _ _) h
def uG (aX:List Int) (bD:Int):(Int×aA)→Tre ((Int×aA) ⊕ aA):=fun s4=>
 .cond (decide (s4.1<bD))
  (.ite (0≤aL .u64 s4.1)<|
  let v2:=rX .i64 1 (aL .u64 s4.1)
  .ite (0≤s4.1∧s4.1<(aX.length:Int))<|
  .mat (aX[s4.1.toNat]?) fun x3=>
  .ite (0≤aL .u64 bD)<|
  let v4:=rX .i64 x3 (aL .u64 bD)
  .ite ((s4.2.2.1.length+1)*8≤bQ∧1≤8)<|
  let v5:=s4.2.2.1++([ior .i64 v2 v4])
  .ret (.inl (aL .i64 (s4.1+1),(s4.2.1,(v5,s4.2.2.2)))))
  (.ret (.inr s4.2))
def aa8 (p0:(Int×(Int×Unit))) (p1:List Int):Tre (Int×(List Int)):=
 let v1:=aL .i64 ((p1.length:Int)+p0.1)
 .mat (aS (uG p1 (p1.length:Int)) (0,(v1,([],())))) fun l6=>
 .ret (l6.1,l6.2.1)
def CV (p0:(Int×(Int×Unit))) (p1:List Int):Option (Int×(List Int)):=(aa8 p0 p1).run some
-- more
theorem anK{f:TF3}(hf:aQ f=true){w:List Nat}(hw:inL (FOf f hf) w)(h5:w.length≤5):CV f (up w)=some ((liftM f w).1,(liftM f w).2.1):=by
 have hd:=dM hf
 have hlen:(up w).length=w.length:=eX w
 have hwr:aL .i64 (((up w).length:Int)+f.1)=(w.length:Int)+f.1:=by rw [hlen,bY (by omega) (by omega)]
 unfold CV aa8
 dsimp only
 rw [hwr,ah (show aS (uG (up w) ((up w).length:Int)) (0,((w.length:Int)+f.1,([],())))=some ((w.length:Int)+f.1,(up (dY w.length w),())) from ?_)]
 ·rfl
 refine fH (fun i=>((i:Int),((w.length:Int)+f.1,(up ((dY w.length w).take i),())))) w.length _ (fun i hi=>?_) ?_
 ·have hx:=aec hi
  have hlt:cf w i<2 ^ f.1.toNat:=aly hw i
  unfold uG
  dsimp only
  rw [Tre.aD,decide_eq_true (by omega),cond_true,Tre.run_ite,if_pos (oD _),gu (Tf hx),Tre.run_ite,if_pos (oD _)]
  rw [Tre.run_ite,if_pos (by unfold bQ;rw [eX,List.length_take];omega),Tre.aN,aY (by omega),hlen,ER (by omega) (by omega),ER (by omega) (by omega),amj hi h5 hlt (by omega),List.take_add_one,sU hx]
  simp [up]
 ·unfold uG
  dsimp only
  rw [hlen,dR,Tre.aN,List.take_of_length_le (by rw [iU];omega)]
def JA:Env:=⟨tau,[],[]⟩
def acg:Code:=(Tryz.f85.body).getD .skip
def O7 (iG:Bool) (aX:List Int) (bD:Int) (lu:aA):(Int×aA)→St:=fun x=>bT [(1,(.imm iG .il aX)),(4,(.ptr (6,0) [])),(5,(.i bD)),(6,(.ptr (8,0) [])),(7,(.i x.1))] [((6,0),some ⟨true,aK,.own,lu⟩),((8,0),some ⟨true,aK,.own,x.2⟩)]
def LG (_:Bool) (_:List Int) (_:Int) (lu:aA):aA→Ex×St:=fun x=>(.exit 0,bT [(4,(.ptr (6,0) [])),(6,(.ptr (8,0) []))] [((6,0),some ⟨true,aK,.own,lu⟩),((8,0),some ⟨true,aK,.own,x⟩)])
def agP (s:St):Tre (Ex×St):=
 bB .il (s.tmps 1) fun z3 d2=>
 dH (6,0) [] (s.tmps 4)<|
 aF true .n (s.tmps 5) fun d6=>
 dH (8,0) [] (s.tmps 6)<|
 aF true .n (s.tmps 7) fun d9=>
 bq true aK (s.roots (6,0)) fun m11 d12=>
 asM .own m11<|
 bq true aK (s.roots (8,0)) fun m14 d15=>
 asM .own m14<|
 .mat (aS (uG d2 d6) (d9,d15)) fun x=>.ret (LG z3 d2 d6 d12 x)
def zF:bF:=⟨([1,4,5,6,7],[(6,0),(8,0)]),([4,6],[(6,0),(8,0)]),agP⟩
def SS:List (Nat×bF):=[(4,zF)]
theorem Zk:∀(iG:Bool)(aX:List Int)(bD:Int)(lu:aA)(x:(Int×aA))(c:St→Option (Ex×St)),den JA SS (aV acg 0) (O7 iG aX bD lu x) (bZ zF.kp zF.kx c)=(uG aX bD x).run (cu (O7 iG aX bD lu) (LG iG aX bD lu) c):=fun _ _ _ _ _ _=>by
 kernel_rfl
theorem adG:bU JA SS (aV acg 0) zF:=dB fun _ _ _=>dF fun _ _=>gy<|aO fun _=>gy<|aO fun _=>cO fun _ _=>tM<|cO fun _ _=>tM<|fun h _ e13 _ e10 e8 e7 e5 e4 e1=>cK (Zk _ _ _ _) h (by subst_vars;exact aT rfl rfl ⟨e1,e4,e5,e7,e8,trivial⟩ ⟨e10,e13,trivial⟩)
def anH:FnI:=fnI Tryz.f85 SS
def Vo (_:Bool) (_:(Int×(Int×Unit))) (_:List Int):(Int×(List Int))→au:=fun r=>⟨(.pair (.i r.1) (.pair (.ref (1,0) []) (.imm true .unit ()))),[],[⟨false,.il,.own,r.2⟩]⟩
theorem akU:∀(zp0:Bool)(p0:(Int×(Int×Unit)))(p1:List Int),bH JA anH ⟨[(.imm true aM p0),(.imm zp0 .il p1)],[]⟩=(aa8 p0 p1).run fun r=>some (Vo zp0 p0 p1 r):=fun _ _ _=>by kernel_rfl
def anG (av:List AV) (rs:List Root):Tre au:=
 aB av fun a0_ av0=>
 aB av0 fun a1_ av1=>
 aJ av1<|
 aJ rs<|
 aF true aM a0_ fun d1=>
 bB .il a1_ fun z3 d2=>
 .mat (CV d1 d2) fun r=>.ret (Vo z3 d1 d2 r)
def SV:Ctr:=dx [] anG
theorem Zl:Contract Tryz.prog .none 85 SV:=aC (V:=JA) aR aH Tryz.func85 (bM (n:=1) fun k hk=>by
 match k,hk with
 |0,_=>exact bP (id:=4) adG) fun _ _ _=>aI fun _ _=>aI fun _ _=>aZ<|aZ<|aO fun _=>dF fun _ _=>fun h=>by intros;subst_vars;exact aW (akU _ _ _) h
-- shared
structure Rre(f:TF3)(n:Nat)(C:List (List Int))(p:List Nat):Prop where
 gr:GR f n C
 pl:p.length=C.length
 plt:∀q∈p,q<n
 pinc:p.Pairwise (· < ·)
 dia:∀i q,p[i]?=some q→∀j,j<C.length→cell C j q=if j=i then 1 else 0
 lead:∀i q,p[i]?=some q→∀e,e<q→cell C i e=0
theorem aiB{G:List (List Int)}{a j:Nat}(h:j<a)(e:Nat):cell (G.take a) j e=cell G j e:=by
 unfold cell
 have:(G.take a).getD j []=G.getD j []:=by rw [List.getD_eq_getElem?_getD,List.getElem?_take_of_lt h,List.getD_eq_getElem?_getD]
 rw [this]
theorem ay9{f:TF3}(hf:aQ f=true){n:Nat}{L:List (List Int)}(h:GR f n L):∃p,Rre f n (VG f n L) p:=by
 obtain ⟨p,hI,_⟩:=Vt.all hf (Nat.le_refl n) h
 have hal:=hI.al
 have hlen:(VG f n L).length=(jW f 0 n (0,L)).1:=alN hf h
 refine ⟨p,au8 hf h,by rw [hlen];exact hI.pl,hI.plt,hI.pinc,fun i q hq j hj=>?_,fun i q hq e he=>?_⟩
 ·rw [hlen] at hj
  unfold VG
  rw [aiB hj]
  exact hI.dia i q hq j (by omega)
 ·have hi:=(List.getElem?_eq_some_iff.1 hq).1
  have:=hI.pl
  unfold VG
  rw [aiB (by omega)]
  exact hI.lead i q hq e he
section
variable {f : TF3} {n : Nat} {C : List (List Int)} {p : List Nat}
theorem Rre.row(h:Rre f n C p){i:Nat}(hi:i<C.length):∃r,C[i]?=some r∧okV f n r∧∀e,e<n→r[e]?=some (cell C i e):=by
 have hr:=List.getElem?_eq_getElem hi
 have hok:=BA h.gr hr
 refine ⟨_,hr,hok,fun e he=>?_⟩
 have:=List.getElem?_eq_getElem (show e<C[i].length by rw [hok.1];exact he)
 rw [alx hr,jX this]
 exact this
theorem inv_one(hf:aQ f=true):yT f 1=1:=by
 have hq:=(FOf f hf).hq
 obtain ⟨b,h1,h2,h3⟩:=ayr hf (a:=1) hq
 have h4:=h3 (by decide)
 have h1:yT f 1=(b:Int):=h1
 rw [FO.comm,FO.one _ _ h2] at h4
 rw [h1,h4];rfl
theorem Rre.hit(hf:aQ f=true)(h:Rre f n C p){a c:Nat}(hq:p[a]?=some c):iM f c (a,C)=(a+1,C):=by
 have ha:a<C.length:=by have:=(List.getElem?_eq_some_iff.1 hq).1;have:=h.pl;omega
 have hc:=h.plt c (List.mem_of_getElem? hq)
 obtain ⟨r,hr,hrok,hrc⟩:=h.row ha
 have h1:cell C a c=1:=by rw [h.dia a c hq a ha,if_pos rfl]
 have hr1:r[c]?=some 1:=by rw [hrc c hc,h1]
 have hidx:lW (u6 c) a (C.drop a)=(a:Int):=by
  have:C.drop a=r::C.drop (a+1):=by
   obtain ⟨h2,h3⟩:=List.getElem?_eq_some_iff.1 hr
   rw [List.drop_eq_getElem_cons h2,h3]
  rw [this,lW]
  have hz:u6 c r=true:=by unfold u6;rw [hr1];rfl
  rw [hz];rfl
 have hs:Kj f c r=r:=by
  unfold Kj
  rw [hr1]
  show (r.map fun y=>gX f y (yT f 1))=r
  rw [inv_one hf]
  conv=>rhs;rw [←List.map_id r]
  exact List.map_congr_left fun y hy=>afB hf (hrok.2 y hy)
 have hset:C.set a r=C:=by
  obtain ⟨h2,h3⟩:=List.getElem?_eq_some_iff.1 hr
  rw [←h3,List.set_getElem_self]
 have hp:K9 f c a a C=C:=by
  unfold K9
  rw [hr]
  show (C.set a r).set a (Kj f c r)=C
  rw [hs,hset,hset]
 have hcl:yg f c a C=C:=by
  unfold yg
  rw [hr]
  show C.mapIdx (kK f c a r)=C
  apply List.ext_getElem?
  intro i
  rw [List.getElem?_mapIdx]
  cases hi:C[i]? with
  |none=>rfl
  |some x=>
   have hil:=(List.getElem?_eq_some_iff.1 hi).1
   obtain ⟨x',hx',_,hxc⟩:=h.row hil
   rw [hi] at hx'
   obtain rfl:=Option.some.inj hx'
   show some (kK f c a r i x)=some x
   unfold kK
   rw [hxc c hc,h.dia a c hq i hil]
   by_cases hia:i=a
   ·subst hia;simp
   ·rw [if_neg hia];simp
 unfold iM
 dsimp only
 rw [hidx,decide_eq_false (by omega),cond_false,Int.toNat_natCast,hp,hcl]
theorem Rre.miss(h:Rre f n C p){a c:Nat}(hc:c<n)(hgt:∀i q,a≤i→p[i]?=some q→c<q):iM f c (a,C)=(a,C):=by
 have hidx:lW (u6 c) a (C.drop a) = -1:=by
  rcases wT (u6 c) (C.drop a) a with h1|⟨k,x,hx,hp,_⟩
  ·exact h1.1
  ·exfalso
   rw [List.getElem?_drop] at hx
   have hil:=(List.getElem?_eq_some_iff.1 hx).1
   obtain ⟨x',hx',_,hxc⟩:=h.row hil
   rw [hx] at hx'
   obtain rfl:=Option.some.inj hx'
   have hq:=List.getElem?_eq_getElem (show a+k<p.length by rw [h.pl];exact hil)
   have h0:=h.lead (a+k) _ hq c (hgt _ _ (by omega) hq)
   have h2:=hxc c hc
   unfold u6 at hp
   rw [h2,h0] at hp
   exact absurd hp (by simp)
 unfold iM
 dsimp only
 rw [hidx,decide_eq_true (by decide),cond_true]
theorem Rre.idem(hf:aQ f=true)(h:Rre f n C p):VG f n C=C:=by
 have key:∀(m c a:Nat),c+m=n→a≤C.length→(∀i q,p[i]?=some q→(q<c↔i<a))→jW f c m (a,C)=(C.length,C):=by
  intro m
  induction m with
  |zero=>
   intro c a hcm ha hI
   have hac:a=C.length:=by
    rcases Nat.lt_or_ge a C.length with hlt|hge
    ·exfalso
     have hq:=List.getElem?_eq_getElem (show a<p.length by rw [h.pl];exact hlt)
     have h1:=h.plt _ (List.mem_of_getElem? hq)
     have h2:=(hI a _ hq).1 (by omega)
     omega
    ·omega
   rw [hac];rfl
  |succ m ih=>
   intro c a hcm ha hI
   unfold jW
   by_cases hq:p[a]?=some c
   ·rw [h.hit hf hq]
    have hal:a<C.length:=by have:=(List.getElem?_eq_some_iff.1 hq).1;have:=h.pl;omega
    refine ih (c+1) (a+1) (by omega) (by omega) fun i q hi=>?_
    have hI':=hI i q hi
    obtain ⟨h1,h1'⟩:=List.getElem?_eq_some_iff.1 hi
    obtain ⟨h2,h2'⟩:=List.getElem?_eq_some_iff.1 hq
    constructor
    ·intro hqc
     rcases Nat.lt_or_ge q c with hl|hl
     ·have:=hI'.1 hl;omega
     ·have hqe:q=c:=by omega
      rcases Nat.lt_trichotomy i a with hia|hia|hia
      ·omega
      ·omega
      ·have:=List.pairwise_iff_getElem.1 h.pinc a i h2 h1 hia
       omega
    ·intro hia
     rcases Nat.lt_or_ge i a with hl|hl
     ·have:=hI'.2 hl;omega
     ·have:i=a:=by omega
      subst this
      omega
   ·rw [h.miss (by omega) fun i q hai hi=>?_]
    ·refine ih (c+1) a (by omega) ha fun i q hi=>?_
     have hI':=hI i q hi
     constructor
     ·intro hqc
      rcases Nat.lt_or_ge q c with hl|hl
      ·exact hI'.1 hl
      ·exfalso
       have hqe:q=c:=by omega
       subst hqe
       have hia:¬i<a:=fun hh=>by have:=hI'.2 hh;omega
       have hne:i≠a:=fun hh=>hq (by rw [←hh];exact hi)
       have hap:a<p.length:=by have:=(List.getElem?_eq_some_iff.1 hi).1;omega
       have h3:=List.getElem?_eq_getElem hap
       have h4:=hI a _ h3
       obtain ⟨h1,h1'⟩:=List.getElem?_eq_some_iff.1 hi
       have:=List.pairwise_iff_getElem.1 h.pinc a i hap h1 (by omega)
       have:=h4.1 (by omega)
       omega
     ·intro hia
      have:=hI'.2 hia;omega
    ·have hI':=hI i q hi
     rcases Nat.lt_trichotomy c q with hl|hl|hl
     ·exact hl
     ·exfalso
      subst hl
      have hne:i≠a:=fun hh=>hq (by rw [←hh];exact hi)
      have hap:a<p.length:=by have:=(List.getElem?_eq_some_iff.1 hi).1;omega
      have h3:=List.getElem?_eq_getElem hap
      have h4:=hI a _ h3
      obtain ⟨h1,h1'⟩:=List.getElem?_eq_some_iff.1 hi
      have:=List.pairwise_iff_getElem.1 h.pinc a i hap h1 (by omega)
      have:=h4.1 (by omega)
      omega
     ·have:=hI'.1 hl;omega
 unfold VG
 rw [key n 0 0 (by omega) (Nat.zero_le _) fun i q _=>by omega]
 show C.take C.length=C
 exact List.take_length
def acv(f:TF3)(n:Nat)(C:List (List Int))(m:List Int):List Int:=BG f (fun i=>C.getD i []) 0 (List.replicate n 0) m
def C8(u w:List Int):List Int:=(u.zip w).map fun p=>jT .i64 p.1 p.2
theorem rows_ok(h:GR f n C){j:Nat}(hj:j<C.length):okV f n (C.getD j []):=by
 have hr:=List.getElem?_eq_getElem hj
 rw [jX hr]
 exact BA h hr
theorem ata(hf:aQ f=true)(h:GR f n C){m:List Int}(hm:okV f C.length m):okV f n (acv f n C m):=
 aee hf m 0 _ (C9 n) hm.2 fun j _ hj=>rows_ok h (by rw [hm.1] at hj;omega)
theorem Rre.as9(hf:aQ f=true)(h:Rre f n C p){m:List Int}(hm:okV f C.length m){i q:Nat}(hq:p[i]?=some q):(acv f n C m).getD q 0=m.getD i 0:=by
 have hqn:=h.plt q (List.mem_of_getElem? hq)
 have hi:i<C.length:=by have:=(List.getElem?_eq_some_iff.1 hq).1;have:=h.pl;omega
 have hu:=ag4 hf n q
 have he:=ata hf h.gr hm
 have h1:=ZM hf n q he.2 he.1.symm hqn
 rw [ZL hf hu.2 he.2] at h1
 rw [←h1]
 unfold acv
 rw [aos hf hu.2 m 0 _ (C9 n) hm.2 fun j _ hj=>rows_ok h.gr (by rw [hm.1] at hj;omega),aiG hf n hu.2]
 have hl:(List.range' 0 m.length).map (fun j=>Ep f (C.getD j []) (JB n q))=JB m.length i:=by
  apply List.ext_getElem?
  intro j
  rw [List.getElem?_map]
  by_cases hj:j<m.length
  ·rw [List.getElem?_range' hj,Option.map_some,Nat.zero_add,Nat.one_mul]
   have hok:=rows_ok h.gr (show j<C.length by rw [←hm.1];exact hj)
   rw [ZL hf hok.2 hu.2,ZM hf n q hok.2 hok.1.symm hqn]
   have hcell:(C.getD j []).getD q 0=cell C j q:=rfl
   rw [hcell,h.dia i q hq j (by rw [←hm.1];exact hj)]
   unfold JB
   rw [List.getElem?_set]
   by_cases hji:j=i
   ·subst hji;rw [if_pos rfl,if_pos rfl,if_pos (by simp;exact hj)]
   ·rw [if_neg hji,if_neg (fun hh=>hji hh.symm),List.getElem?_replicate,if_pos hj]
  ·rw [List.getElem?_eq_none (by simp;omega),List.getElem?_eq_none (by unfold JB;simp;omega)]
   rfl
 rw [hl,ZL hf hm.2 (ag4 hf _ _).2,ZM hf m.length i hm.2 rfl (by rw [hm.1];exact hi)]
 exact AX hf (by
  rcases Nat.lt_or_ge i m.length with hlt|hge
  ·have:=List.getElem?_eq_getElem hlt
   rw [jX this];exact hm.2 _ (List.mem_of_getElem? this)
  ·rw [hm.1] at hge;omega)
theorem Rre.au9(hf:aQ f=true)(h:Rre f n C p){m m':List Int}(hm:okV f C.length m)(hm':okV f C.length m')(he:acv f n C m=acv f n C m'):m=m':=by
 apply List.ext_getElem?
 intro i
 by_cases hi:i<C.length
 ·have hq:=List.getElem?_eq_getElem (show i<p.length by rw [h.pl];exact hi)
  have h1:=h.as9 hf hm hq
  have h2:=h.as9 hf hm' hq
  rw [he,h2] at h1
  have h3:=List.getElem?_eq_getElem (show i<m.length by rw [hm.1];exact hi)
  have h4:=List.getElem?_eq_getElem (show i<m'.length by rw [hm'.1];exact hi)
  rw [jX h3,jX h4] at h1
  rw [h3,h4,h1]
 ·rw [List.getElem?_eq_none (by rw [hm.1];omega),List.getElem?_eq_none (by rw [hm'.1];omega)]
theorem awM(hf:aQ f=true){k:Nat}{u w:List Int}(hu:okV f k u)(hw:okV f k w):okV f k (C8 u w):=by
 refine ⟨by unfold C8;simp [hu.1,hw.1],fun y hy=>?_⟩
 obtain ⟨z,hz,rfl⟩:=List.mem_map.1 hy
 have:=List.of_mem_zip (a:=z.1) (b:=z.2) hz
 exact Nc hf (hu.2 _ this.1) (hw.2 _ this.2)
theorem asN(hf:aQ f=true){x y:Int}(hx:inF f x)(hy:inF f y):∀{a b r:List Int},(∀z∈a,inF f z)→(∀z∈b,inF f z)→(∀z∈r,inF f z)→vC f (C8 a b) r (jT .i64 x y)=C8 (vC f a r x) (vC f b r y):=by
 intro a
 induction a with
 |nil=>intro b r _ _ _;simp [vC,C8]
 |cons a0 a ih=>
  intro b r ha hb hr
  cases b with
  |nil=>simp [vC,C8]
  |cons b0 b=>
   cases r with
   |nil=>simp [vC,C8]
   |cons r0 r=>
    have ha0:=ha a0 (.head _)
    have hb0:=hb b0 (.head _)
    have hr0:=hr r0 (.head _)
    have:=ih (b:=b) (r:=r) (fun z hz=>ha z (.tail _ hz)) (fun z hz=>hb z (.tail _ hz)) (fun z hz=>hr z (.tail _ hz))
    unfold vC C8 at this ⊢
    simp only [List.zip_cons_cons,List.map_cons]
    rw [this,afC hf hr0 hx hy,aAm hf ha0 hb0 (yV hf hr0 hx) (yV hf hr0 hy)]
theorem aef{src:Nat→List Int}(hf:aQ f=true):∀(cs ds:List Int)(k:Nat)(a b:List Int),cs.length=ds.length→okV f n a→okV f n b→(∀x∈cs,inF f x)→(∀x∈ds,inF f x)→(∀j,k≤j→j<k+cs.length→okV f n (src j)) →
  BG f src k (C8 a b) (C8 cs ds)=C8 (BG f src k a cs) (BG f src k b ds):=by
 intro cs
 induction cs with
 |nil=>
  intro ds k a b hl _ _ _ _ _
  cases ds with
  |nil=>rfl
  |cons d ds=>simp at hl
 |cons c cs ih=>
  intro ds k a b hl ha hb hc hd hs
  cases ds with
  |nil=>simp at hl
  |cons d ds=>
   have hk:=hs k (Nat.le_refl _) (by simp)
   have hc0:=hc c (.head _)
   have hd0:=hd d (.head _)
   have hx:C8 (c::cs) (d::ds)=jT .i64 c d::C8 cs ds:=rfl
   rw [hx]
   unfold BG
   rw [asN hf hc0 hd0 ha.2 hb.2 hk.2]
   exact ih ds (k+1) _ _ (by simpa using hl) (Xo hf ha hk hc0) (Xo hf hb hk hd0) (fun x hx=>hc x (.tail _ hx)) (fun x hx=>hd x (.tail _ hx)) (fun j h1 h2=>hs j (by omega) (by simp;omega))
theorem ava(hf:aQ f=true)(h:GR f n C){m m':List Int}(hm:okV f C.length m)(hm':okV f C.length m'):acv f n C (C8 m m')=C8 (acv f n C m) (acv f n C m'):=by
 unfold acv
 rw [←aef hf m m' 0 _ _ (by rw [hm.1,hm'.1]) (C9 n) (C9 n) hm.2 hm'.2 fun j _ hj=>rows_ok h (by rw [hm.1] at hj;omega)]
 congr 1
 unfold C8
 apply List.ext_getElem?
 intro j
 rw [List.getElem?_map]
 by_cases hj:j<n
 ·rw [List.getElem?_zip_eq_some.2 (show (List.replicate n (0:Int))[j]?=some ((0:Int),(0:Int)).1∧(List.replicate n (0:Int))[j]?=some ((0:Int),(0:Int)).2 from ⟨by rw [List.getElem?_replicate,if_pos hj],by rw [List.getElem?_replicate,if_pos hj]⟩),List.getElem?_replicate,if_pos hj]
  rfl
 ·rw [List.getElem?_eq_none (by simp;omega),List.getElem?_eq_none (by simp;omega)]
  rfl
end
-- shared
def zY(M:Int):List Int→Option (List Int)
 |[]=>none
 |c::t=>match zY M t with
  |some t'=>some (c::t')
  |none=>cond (decide (c=M-1)) none (some ((c+1)::List.replicate t.length 0))
theorem aaw(M:Int):∀n:Nat,zY M (List.replicate n (M-1))=none:=by
 intro n
 induction n with
 |zero=>rfl
 |succ n ih=>simp only [List.replicate_succ,zY,ih,decide_true,cond_true]
theorem ai0(M c:Int)(hc:c≠M-1)(k:Nat):∀zs:List Int,zY M (zs++c::List.replicate k (M-1))=some (zs++(c+1)::List.replicate k 0):=by
 intro zs
 induction zs with
 |nil=>simp only [List.nil_append,zY,aaw,decide_eq_false hc,cond_false,List.length_replicate]
 |cons z zs ih=>simp only [List.cons_append,zY,ih]
theorem abH(M:Int):∀xs:List Int,xs=List.replicate xs.length (M-1)∨∃zs c k,c≠M-1∧xs=zs++c::List.replicate k (M-1):=by
 intro xs
 induction xs with
 |nil=>exact .inl rfl
 |cons x xs ih=>
  rcases ih with h|⟨zs,c,k,hc,h⟩
  ·by_cases hx:x=M-1
   ·refine .inl ?_
    rw [List.length_cons,List.replicate_succ,←h,hx]
   ·exact .inr ⟨[],x,xs.length,hx,by rw [List.nil_append,←h]⟩
  ·exact .inr ⟨x::zs,c,k,hc,by rw [h];rfl⟩
section
variable {step : Int × List Int → Tre ((Int × List Int) ⊕ (Int × List Int))} {M : Int} {N : Nat}
theorem aiA(h1:∀l,(step (-1,l)).run some=some (.inr (-1,l)))(h2:∀(i:Nat)(l:List Int)(x:Int),l[i]?=some x→l.length≤N→(step ((i:Int),l)).run some=some (cond (decide (x=M-1)) (.inl ((i:Int)-1,l.set i 0)) (.inr ((i:Int),l)))) :
  ∀k j:Nat,k+j≤N→aS step ((k:Int)-1,List.replicate k (M-1)++List.replicate j 0)=some (-1,List.replicate (k+j) 0):=by
 intro k
 induction k with
 |zero=>intro j _;rw [show ((0:Nat):Int)-1 = -1 from rfl,eO (h1 _)];simp
 |succ k ih=>
  intro j hN
  have hx:(List.replicate (k+1) (M-1)++List.replicate j 0)[k]?=some (M-1):=by
   rw [List.getElem?_append_left (by simp),List.getElem?_replicate];simp
  have hs:(List.replicate (k+1) (M-1)++List.replicate j 0).set k 0=List.replicate k (M-1)++List.replicate (j+1) 0:=by
   rw [List.replicate_succ',List.append_assoc,List.set_append_right _ _ (by simp)]
   simp [List.replicate_succ]
  have h:=h2 k _ _ hx (by simp;omega)
  rw [decide_eq_true rfl,cond_true,hs] at h
  rw [show ((k+1:Nat):Int)-1=(k:Int) by omega,iq h,ih (j+1) (by omega),show k+(j+1)=k+1+j by omega]
theorem aiz(h2:∀(i:Nat)(l:List Int)(x:Int),l[i]?=some x→l.length≤N→(step ((i:Int),l)).run some=some (cond (decide (x=M-1)) (.inl ((i:Int)-1,l.set i 0)) (.inr ((i:Int),l)))){zs:List Int}{c:Int}(hc:c≠M-1) :
  ∀k j:Nat,zs.length+k+j+1≤N→aS step (((zs.length+k:Nat):Int),zs++c::(List.replicate k (M-1)++List.replicate j 0))=some ((zs.length:Int),zs++c::List.replicate (k+j) 0):=by
 intro k
 induction k with
 |zero=>
  intro j hN
  have h:=h2 zs.length (zs++c::(List.replicate 0 (M-1)++List.replicate j 0)) c (by simp) (by simp;omega)
  rw [decide_eq_false hc,cond_false] at h
  rw [Nat.add_zero,eO h]
  simp
 |succ k ih=>
  intro j hN
  have hx:(zs++c::(List.replicate (k+1) (M-1)++List.replicate j 0))[zs.length+(k+1)]?=some (M-1):=by
   rw [List.getElem?_append_right (by omega),show zs.length+(k+1)-zs.length=k+1 by omega,List.getElem?_cons_succ,List.getElem?_append_left (by simp),List.getElem?_replicate]
   simp
  have hs:(zs++c::(List.replicate (k+1) (M-1)++List.replicate j 0)).set (zs.length+(k+1)) 0=zs++c::(List.replicate k (M-1)++List.replicate (j+1) 0):=by
   rw [List.set_append_right _ _ (by omega),show zs.length+(k+1)-zs.length=k+1 by omega,List.set_cons_succ,List.replicate_succ',List.append_assoc,List.set_append_right _ _ (by simp)]
   simp [List.replicate_succ]
  have h:=h2 _ _ _ hx (by simp;omega)
  rw [decide_eq_true rfl,cond_true,hs,show ((zs.length+(k+1):Nat):Int)-1=((zs.length+k:Nat):Int) by omega] at h
  rw [iq h,ih (j+1) (by omega),show k+(j+1)=k+1+j by omega]
end
inductive Oj {α:Type} (nx:α→Option α):α→List α→Option α→Prop
 |last {x:α} {e:Option α}:nx x=e→Oj nx x [x] e
 |next {x y:α} {L:List α} {e:Option α}:nx x=some y→Oj nx y L e→Oj nx x (x::L) e
theorem Oj.app{α:Type}{nx:α→Option α}{x y:α}{L L':List α}{e:Option α}(h:Oj nx x L (some y))(k:Oj nx y L' e):Oj nx x (L++L') e:=by
 generalize he:some y=e' at h
 induction h with
 |last h1=>subst he;exact .next h1 k
 |next h1 _ ih=>exact .next h1 (ih he)
def PD(M:Nat):Nat→List (List Int)
 |0=>[[]]
 |n+1=>(List.range M).flatMap fun c:Nat=>(PD M n).map fun t=>(c:Int)::t
theorem Ye(M:Nat):∀(n:Nat)(t:List Int),t∈PD M n↔t.length=n∧∀x∈t,∃k:Nat,x=(k:Int)∧k<M:=by
 intro n
 induction n with
 |zero=>
  intro t
  simp only [PD,List.mem_singleton]
  constructor
  ·rintro rfl;exact ⟨rfl,fun x hx=>by cases hx⟩
  ·exact fun h=>List.eq_nil_of_length_eq_zero h.1
 |succ n ih=>
  intro t
  simp only [PD,List.mem_flatMap,List.mem_map,List.mem_range]
  constructor
  ·rintro ⟨c,hc,u,hu,rfl⟩
   obtain ⟨h1,h2⟩:=(ih u).1 hu
   refine ⟨by simp [h1],fun x hx=>?_⟩
   rcases List.mem_cons.1 hx with rfl|hx
   ·exact ⟨c,rfl,hc⟩
   ·exact h2 x hx
  ·rintro ⟨h1,h2⟩
   cases t with
   |nil=>simp at h1
   |cons x u=>
    obtain ⟨k,rfl,hk⟩:=h2 x (List.mem_cons_self)
    exact ⟨k,hk,u,(ih u).2 ⟨by simpa using h1,fun y hy=>h2 y (List.mem_cons_of_mem _ hy)⟩,rfl⟩
theorem TA(M:Nat):∀n:Nat,(PD M n).Nodup:=by
 intro n
 induction n with
 |zero=>simp [PD]
 |succ n ih=>
  unfold PD List.Nodup
  rw [List.pairwise_flatMap]
  refine ⟨fun c _=>?_,?_⟩
  ·rw [List.pairwise_map]
   exact List.Pairwise.imp (fun h h2=>h (List.cons.inj h2).2) ih
  ·refine List.Pairwise.imp ?_ (List.nodup_range (n:=M))
   intro a b hab x hx y hy hxy
   obtain ⟨u,_,rfl⟩:=List.mem_map.1 hx
   obtain ⟨v,_,rfl⟩:=List.mem_map.1 hy
   have:=(List.cons.inj hxy).1
   omega
theorem aqf(M:Nat):∀n:Nat,(PD M n).length=M ^ n:=by
 intro n
 induction n with
 |zero=>rfl
 |succ n ih=>
  have key:∀l:List Nat,(l.flatMap fun c:Nat=>(PD M n).map fun t=>(c:Int)::t).length=l.length*M ^ n:=by
   intro l
   induction l with
   |nil=>simp
   |cons c l ihl=>rw [List.flatMap_cons,List.length_append,List.length_map,ih,ihl,List.length_cons,Nat.add_mul,Nat.one_mul,Nat.add_comm]
  rw [PD,key,List.length_range,Nat.pow_succ,Nat.mul_comm]
theorem amV{M c n:Nat}{x:List Int}{L:List (List Int)}(h:Oj (zY M) x L none)(hl:∀t∈L,t.length=n) :
  Oj (zY M) ((c:Int)::x) (L.map fun t=>(c:Int)::t) (cond (decide ((c:Int)=(M:Int)-1)) none (some (((c+1:Nat):Int)::List.replicate n 0))):=by
 generalize he:none=e at h
 induction h with
 |last h1=>
  subst he
  refine .last ?_
  simp only [zY,h1]
  rw [hl _ (List.mem_singleton_self _)]
  rfl
 |next h1 _ ih=>
  refine .next ?_ (ih (fun t ht=>hl t (List.mem_cons_of_mem _ ht)) he)
  simp only [zY,h1]
theorem aqO{M:Nat}(hM:1≤M):∀n:Nat,Oj (zY M) (List.replicate n 0) (PD M n) none:=by
 intro n
 induction n with
 |zero=>exact .last rfl
 |succ n ih=>
  have hl:∀t∈PD M n,t.length=n:=fun t ht=>((Ye M n t).1 ht).1
  have key:∀k c:Nat,c+(k+1)=M→Oj (zY M) ((c:Int)::List.replicate n 0) ((List.range' c (k+1)).flatMap fun c:Nat=>(PD M n).map fun t=>(c:Int)::t) none:=by
   intro k
   induction k with
   |zero=>
    intro c hc
    have h:=amV (c:=c) ih hl
    rw [decide_eq_true (by omega),cond_true] at h
    simpa using h
   |succ k ihk=>
    intro c hc
    have h:=amV (c:=c) ih hl
    rw [decide_eq_false (by omega),cond_false] at h
    rw [List.range'_succ,List.flatMap_cons]
    exact h.app (ihk (c+1) (by omega))
  obtain ⟨m,rfl⟩:∃m,M=m+1:=⟨M-1,by omega⟩
  rw [PD,List.range_eq_range',List.replicate_succ]
  exact key m 0 (by omega)
theorem amP{α β γ σ:Type}{nx:α→Option α}{step:σ→Tre (σ ⊕ β)}(mk:γ→α→σ)(fin:γ→β)(F:γ→α→γ)(I:List α→γ→Prop){all:List α}
  (hs:∀(pre:List α)(x:α)(g:γ),x∈all→x ∉ pre→pre.length<all.length→I pre g→(step (mk g x)).run some=some (match nx x with
   |some t=>.inl (mk (F g x) t)
   |none=>.inr (fin (F g x)))∧I (pre++[x]) (F g x)) :
  ∀{x:α}{L:List α},Oj nx x L none→∀(pre:List α)(g:γ),pre++L=all→all.Nodup→I pre g→∃g',aS step (mk g x)=some (fin g')∧I all g':=by
 intro x L h
 generalize he:none=e at h
 induction h with
 |last h1=>
  rename_i x e
  intro pre g ha hn hI
  subst he
  have hx:x ∉ pre:=fun hx=>by
   rw [←ha,List.nodup_append] at hn
   exact hn.2.2 x hx x (List.mem_singleton_self _) rfl
  obtain ⟨h2,h3⟩:=hs pre x g (by rw [←ha];simp) hx (by rw [←ha];simp) hI
  rw [h1] at h2
  rw [ha] at h3
  exact ⟨_,eO h2,h3⟩
 |next h1 _ ih=>
  rename_i x y L e _
  intro pre g ha hn hI
  have hx:x ∉ pre:=fun hx=>by
   rw [←ha,List.nodup_append] at hn
   exact hn.2.2 x hx x (List.mem_cons_self) rfl
  obtain ⟨h2,h3⟩:=hs pre x g (by rw [←ha];simp) hx (by rw [←ha];simp) hI
  rw [h1] at h2
  obtain ⟨g',h4,h5⟩:=ih he (pre++[x]) (F g x) (by rw [List.append_assoc];exact ha) hn h3
  exact ⟨g',by rw [iq h2];exact h4,h5⟩
structure Best{α:Type}(m:α→Int)(L:List α)(least:Int)(best:α)(many:Bool):Prop where
 mem:best∈L
 at_:m best=least
 low:∀y∈L,least≤m y
 many:many=true ↔ ∃y∈L,y≠best∧m y=least
theorem Best.first{α:Type}(m:α→Int)(x:α):Best m [x] (m x) x false:=
 ⟨List.mem_singleton_self _,rfl,fun y hy=>by rw [List.mem_singleton.1 hy];exact Int.le_refl _,by
  constructor
  ·intro h;cases h
  ·rintro ⟨y,hy,h,_⟩;exact absurd (List.mem_singleton.1 hy) h⟩
theorem Best.more{α:Type}{m:α→Int}{L:List α}{a:Int}{b:α}{c:Bool}{x:α}(h:Best m L a b c)(hx:a<m x):Best m (L++[x]) a b c:=by
 refine ⟨by simp [h.mem],h.at_,fun y hy=>?_,?_⟩
 ·rcases List.mem_append.1 hy with hy|hy
  ·exact h.low y hy
  ·rw [List.mem_singleton.1 hy];omega
 ·rw [h.many]
  constructor
  ·rintro ⟨y,hy,h1,h2⟩;exact ⟨y,by simp [hy],h1,h2⟩
  ·rintro ⟨y,hy,h1,h2⟩
   rcases List.mem_append.1 hy with hy|hy
   ·exact ⟨y,hy,h1,h2⟩
   ·rw [List.mem_singleton.1 hy] at h2;omega
theorem Best.eq{α:Type}{m:α→Int}{L L':List α}{a a':Int}{b b':α}{c c':Bool}(h:Best m L a b c)(h':Best m L' a' b' c')(hL:∀y,y∈L↔y∈L'):a=a'∧c=c'∧(c=false→b=b'):=by
 have h1:=h.low b' ((hL _).2 h'.mem)
 have h2:=h'.low b ((hL _).1 h.mem)
 have e1:=h.at_
 have e2:=h'.at_
 have ha:a=a':=by omega
 subst ha
 have key:∀{L L':List α}{b b':α}{c c':Bool},Best m L a b c→Best m L' a b' c'→(∀y,y∈L↔y∈L')→c=true→c'=true:=by
  intro L L' b b' c c' h h' hL hc
  obtain ⟨y,hy,h3,h4⟩:=h.many.1 hc
  by_cases hb:y=b'
  ·exact h'.many.2 ⟨b,(hL _).1 h.mem,fun e=>h3 (by rw [hb,←e]),h.at_⟩
  ·exact h'.many.2 ⟨y,(hL _).1 hy,hb,h4⟩
 have hc:c=c':=by
  cases hc:c
  ·cases hc':c'
   ·rfl
   ·subst hc;subst hc'
    exact absurd (key h' h (fun y=>(hL y).symm) rfl) (by simp)
  ·subst hc;exact (key h h' hL rfl).symm
 refine ⟨rfl,hc,fun hf=>?_⟩
 by_cases hb:b'=b
 ·exact hb.symm
 ·have:=h.many.2 ⟨b',(hL _).2 h'.mem,hb,h'.at_⟩
  rw [hf] at this
  cases this
-- shared
abbrev TRC:=TF3×Int×List (List Int)×Unit
structure lX(c:TRC)(n:Nat)(p:List Nat):Prop where
 hf:aQ c.1=true
 len:c.2.1=(n:Int)
 h1:1≤n
 h5:n≤5
 r10:c.2.2.1.length≤10
 rre:Rre c.1 n c.2.2.1 p
theorem aox{f:TF3}(_:aQ f=true){w:List Int}(hw:∀x∈w,inF f x):Qj f w=true:=by
 unfold Qj
 rw [List.all_eq_true]
 intro x hx
 have:=hw x hx
 unfold inF at this
 rw [iT]
 refine ⟨this.1,?_⟩
 unfold EN
 have h2:((2:Int) ^ f.1.toNat)=((2 ^ f.1.toNat:Nat):Int):=by push_cast;rfl
 rw [h2];omega
def qF(f:TF3):Nat:=2 ^ f.1.toNat
theorem J4(f:TF3):1≤qF f:=Nat.two_pow_pos _
def Hu(q:Nat):Nat→Nat→List Int
 |0,_=>[]
 |t+1,n=>((n/q ^ t%q:Nat):Int)::Hu q t n
theorem avN(q:Nat):∀t n,(Hu q t n).length=t:=by
 intro t
 induction t with
 |zero=>intro n;rfl
 |succ t ih=>intro n;simp [Hu,ih]
theorem avO{q k:Nat}(hq:1≤q)(c r:Nat):∀t,t≤k→Hu q t (c*q ^ k+r)=Hu q t r:=by
 intro t
 induction t with
 |zero=>intro _;rfl
 |succ t ih=>
  intro ht
  unfold Hu
  rw [ih (by omega)]
  have hp:0<q ^ t:=Nat.pow_pos hq
  have e:c*q ^ k+r=r+q ^ t*(q*(c*q ^ (k-t-1))):=by
   have:q ^ k=q ^ t*(q*q ^ (k-t-1)):=by rw [←Nat.pow_succ',←Nat.pow_add];congr 1;omega
   rw [this,Nat.add_comm]
   congr 1
   rw [Nat.mul_left_comm,Nat.mul_left_comm c q]
  rw [e,Nat.add_mul_div_left _ _ hp,Nat.add_mul_mod_self_left]
theorem ar4(q m:Nat):List.range (q*m)=(List.range q).flatMap fun c=>(List.range m).map fun r=>c*m+r:=by
 induction q with
 |zero=>simp
 |succ q ih=>rw [Nat.succ_mul,List.range_add,ih,List.range_succ,List.flatMap_append];simp
theorem avJ{q:Nat}(hq:1≤q):∀k,PD q k=(List.range (q ^ k)).map (Hu q k):=by
 intro k
 induction k with
 |zero=>simp [PD,Hu]
 |succ k ih=>
  have hp:0<q ^ k:=Nat.pow_pos hq
  unfold PD
  rw [ih,Nat.pow_succ',ar4,List.map_flatMap]
  have:∀(l:List Nat),(∀c∈l,c<q)→(l.flatMap fun c:Nat=>((List.range (q ^ k)).map (Hu q k)).map fun t=>(c:Int)::t)=l.flatMap fun c=>((List.range (q ^ k)).map fun r=>c*q ^ k+r).map (Hu q (k+1)):=by
   intro l
   induction l with
   |nil=>intro _;rfl
   |cons c l ihl=>
    intro hl
    simp only [List.flatMap_cons]
    rw [ihl fun x hx=>hl x (.tail _ hx)]
    congr 1
    rw [List.map_map,List.map_map]
    refine List.map_congr_left fun r hr=>?_
    have hr:=List.mem_range.1 hr
    show (c:Int)::Hu q k r=(((c*q ^ k+r)/q ^ k%q:Nat):Int)::Hu q k (c*q ^ k+r)
    rw [avO hq c r k (Nat.le_refl _)]
    congr 2
    rw [Nat.add_comm,Nat.add_mul_div_right _ _ hp,Nat.div_eq_of_lt hr,Nat.zero_add,Nat.mod_eq_of_lt (hl c (.head _))]
  exact this _ fun c hc=>List.mem_range.1 hc
def dA(c:TRC):List (List Int):=PD (qF c.1) c.2.2.1.length
def tX(c:TRC)(m:List Int):List Int:=acv c.1 c.2.1.toNat c.2.2.1 m
def fF(c:TRC)(m:List Int):List Nat:=(tX c m).map Int.toNat
section
variable {c : TRC} {n : Nat} {p : List Nat}
theorem lZ{m:List Int}(hm:m∈dA c):okV c.1 c.2.2.1.length m:=by
 obtain ⟨h1,h2⟩:=(Ye _ _ _).1 hm
 refine ⟨h1,fun x hx=>?_⟩
 obtain ⟨k,rfl,hk⟩:=h2 x hx
 unfold inF
 unfold qF at hk
 omega
theorem apb{m:List Int}(hm:okV c.1 c.2.2.1.length m):m∈dA c:=by
 refine (Ye _ _ _).2 ⟨hm.1,fun x hx=>?_⟩
 have:=hm.2 x hx
 unfold inF at this
 exact ⟨x.toNat,by omega,by unfold qF;omega⟩
theorem ala(h:lX c n p){m:List Int}(hm:okV c.1 c.2.2.1.length m):okV c.1 n (tX c m):=by
 unfold tX
 rw [h.len,Int.toNat_natCast]
 exact ata h.hf h.rre.gr hm
theorem fO(h:lX c n p){m:List Int}(hm:okV c.1 c.2.2.1.length m):up (fF c m)=tX c m∧inL (FOf c.1 h.hf) (fF c m)∧(fF c m).length=n:=by
 have hw:=ala h hm
 obtain ⟨L,hL,hi⟩:=ajS h.hf hw.2
 have:fF c m=L:=by unfold fF;rw [hL];exact afg L
 refine ⟨by rw [this,hL];rfl,by rw [this];exact hi,by unfold fF;rw [List.length_map,hw.1]⟩
theorem word_inj(h:lX c n p){m m':List Int}(hm:okV c.1 c.2.2.1.length m)(hm':okV c.1 c.2.2.1.length m')(he:fF c m=fF c m'):m=m':=by
 have h1:=(fO h hm).1
 have h2:=(fO h hm').1
 rw [he,h2] at h1
 unfold tX at h1
 rw [h.len,Int.toNat_natCast] at h1
 exact (h.rre.au9 h.hf hm' hm h1).symm
theorem ag5(h:lX c n p){m m':List Int}(hm:okV c.1 c.2.2.1.length m)(hm':okV c.1 c.2.2.1.length m'):fF c (C8 m m')=rY (fF c m) (fF c m'):=by
 have h1:=fO h hm
 have h2:=fO h hm'
 have h3:=ava h.hf h.rre.gr hm hm'
 have h4:tX c (C8 m m')=C8 (tX c m) (tX c m'):=by
  unfold tX
  rw [h.len,Int.toNat_natCast]
  exact h3
 unfold fF at h1 h2 ⊢
 rw [h4]
 unfold C8 rY
 rw [List.map_map,List.zip_map,List.map_map]
 refine List.map_congr_left fun z hz=>?_
 have hz':=List.of_mem_zip (a:=z.1) (b:=z.2) hz
 have hu:=(ala h hm).2 _ hz'.1
 have hw:=(ala h hm').2 _ hz'.2
 obtain ⟨x,hx,_,hx63⟩:=wH h.hf hu
 obtain ⟨y,hy,_,hy63⟩:=wH h.hf hw
 show (jT .i64 z.1 z.2).toNat=z.1.toNat^^^z.2.toNat
 rw [hx,hy,lJ hx63 hy63]
 rfl
end
theorem aiD(f:TF3)(src:Nat→List Int)(x:Int):∀(cs:List Int)(k:Nat)(acc:List Int),BG f src k acc (cs++[x])=vC f (BG f src k acc cs) (src (k+cs.length)) x:=by
 intro cs
 induction cs with
 |nil=>intro k acc;rfl
 |cons y cs ih=>
  intro k acc
  rw [List.cons_append]
  unfold BG
  rw [ih]
  congr 2
  simp only [List.length_cons];omega
def WK (p0:(Int×(Int×Unit))) (p1:List Int):Tre (Int×Int×(List Int)):=
 .mat (EL p0 p1) fun r1=>
 .cond (!decide (r1=0))
  (.ret (0,r1,[]))
  (.mat (CV p0 p1) fun r2=>
  .ret (r2.1,0,r2.2))
def y5 (p0:(Int×(Int×Unit))) (p1:List Int):Option (Int×Int×(List Int)):=(WK p0 p1).run some
-- more
theorem akX{f:TF3}(hf:aQ f=true){w:List Nat}(hw:inL (FOf f hf) w)(h1:1≤w.length)(h5:w.length≤5):y5 f (up w)=some ((liftM f w).1,0,(liftM f w).2.1):=by
 have hin:∀x∈up w,inF f x:=fun x hx=>avF hf hw x hx
 have h2:Jw f (up w)=some true:=by
  unfold Jw aa7
  dsimp only
  rw [iT.2 (by rw [eX];omega),Tre.aD,cond_true,ah (Lv hf (up w) (by rw [eX];omega)),aox hf hin,Tre.aN]
 have h3:EL f (up w)=some 0:=by
  unfold EL Xg
  rw [ah (ags f),hf,Tre.aD,Bool.not_true,cond_false,ah h2,Tre.aD]
  rfl
 unfold y5 WK
 rw [ah h3,Tre.aD,decide_eq_true rfl,Bool.not_true,cond_false,ah (anK hf hw h5),Tre.aN]
def YI:Env:=⟨tau,[(84,Ze),(85,SV)],[]⟩
def akw:FnI:=fnI Tryz.f25 []
def RJ (_:Bool) (_:(Int×(Int×Unit))) (_:List Int):(Int×Int×(List Int))→au:=fun r=>⟨(.tcons (.pair (.i r.1) (.pair (.ref (1,0) []) (.imm true .unit ()))) (.tcons (.i r.2.1) .tnil)),[],[⟨false,.il,.own,r.2.2⟩]⟩
theorem ah1:∀(zp0:Bool)(p0:(Int×(Int×Unit)))(p1:List Int),bH YI akw ⟨[(.imm true aM p0),(.imm zp0 .il p1)],[]⟩=(WK p0 p1).run fun r=>some (RJ zp0 p0 p1 r):=fun _ _ _=>by kernel_rfl
def akv (av:List AV) (rs:List Root):Tre au:=
 aB av fun a0_ av0=>
 aB av0 fun a1_ av1=>
 aJ av1<|
 aJ rs<|
 aF true aM a0_ fun d1=>
 bB .il a1_ fun z3 d2=>
 .mat (y5 d1 d2) fun r=>.ret (RJ z3 d1 d2 r)
def YJ:Ctr:=dx [] akv
theorem ah2:Contract Tryz.prog .none 25 YJ:=aC (V:=YI) aR (ak aii azP (ak Zl awW aH)) Tryz.func25 bn fun _ _ _=>aI fun _ _=>aI fun _ _=>aZ<|aZ<|aO fun _=>dF fun _ _=>fun h=>by intros;subst_vars;exact aW (ah1 _ _ _) h
def uw (aX:List Int) (bD:List Int):Int→Tre (Int ⊕ (Bool ⊕ Unit)):=fun s4=>
 .cond (decide (s4<(aX.length:Int)))
  (.ite (0≤s4∧s4<(aX.length:Int))<|
  .mat (aX[s4.toNat]?) fun x1=>
  .ite (0≤s4∧s4<(bD.length:Int))<|
  .mat (bD[s4.toNat]?) fun x2=>
  .cond (!decide (x1=x2))
   (.ret (.inr (.inl false)))
   (.ret (.inl (aL .i64 (s4+1)))))
  (.ret (.inr (.inr ())))
def aaT (p0:List Int) (p1:List Int):Tre Bool:=
 .cond (!decide ((p0.length:Int)=(p1.length:Int)))
  (.ret false)
  (.mat (aS (uw p0 p1) 0) fun l3=>
  .alt l3
   (fun a4=>
    .ret a4)
   (fun _=>
    .ret true))
def ab0 (p0:List Int) (p1:List Int):Option Bool:=(aaT p0 p1).run some
def zG(a b:List Int):Option Bool:=alo (decide (a.length≤1048576)&&decide (b.length≤1048576)) (decide (a=b))
def sameAt(b:List Int)(i:Nat)(x:Int):Option (Bool ⊕ Unit):=match b[i]? with
 |some y=>cond (decide (x=y)) none (some (.inl false))
 |none=>none
theorem aes(b:List Int):∀(l:List Int)(i:Nat),l.length=(b.drop i).length→zK (β:=Bool ⊕ Unit) (sameAt b) (.inr ()) i l=cond (decide (l=b.drop i)) (.inr ()) (.inl false):=by
 intro l
 induction l with
 |nil=>
  intro i h
  have:b.drop i=[]:=List.eq_nil_of_length_eq_zero h.symm
  rw [this];rfl
 |cons x l ih=>
  intro i h
  have hi:i<b.length:=by rw [List.length_drop,List.length_cons] at h;omega
  have hd:b.drop i=b[i]::b.drop (i+1):=List.drop_eq_getElem_cons hi
  have hlen:l.length=(b.drop (i+1)).length:=by rw [hd,List.length_cons,List.length_cons] at h;omega
  have hih:=ih (i+1) hlen
  simp only [zK,sameAt]
  rw [List.getElem?_eq_getElem hi]
  simp only
  by_cases hx:x=b[i]
  ·rw [decide_eq_true hx,cond_true,hih]
   by_cases hl:l=b.drop (i+1)
   ·rw [decide_eq_true hl,decide_eq_true (show x::l=b.drop i by rw [hd,hx,hl])]
   ·rw [decide_eq_false hl,decide_eq_false (fun h2=>hl (by rw [hd] at h2;exact (List.cons.inj h2).2))]
  ·rw [decide_eq_false hx,cond_false,decide_eq_false (fun h2=>hx (by rw [hd] at h2;exact (List.cons.inj h2).1))]
   rfl
theorem agj(p0 p1:List Int)(y:Bool)(h:zG p0 p1=some y):ab0 p0 p1=some y:=by
 obtain ⟨hok,rfl⟩:=Ah h
 simp only [Bool.and_eq_true,decide_eq_true_eq] at hok
 unfold ab0 aaT
 rw [Tre.aD]
 by_cases hl:p0.length=p1.length
 ·rw [decide_eq_true (show (p0.length:Int)=(p1.length:Int) by omega),Bool.not_true,cond_false,Tre.mZ,tZ (xs:=p0) (sameAt p1) (.inr ()),aes p1 p0 0 (by simpa using hl)]
  ·rw [List.drop_zero]
   cases decide (p0=p1)<;>rfl
  ·intro i x hx
   have hi:i<p0.length:=(List.getElem?_eq_some_iff.1 hx).1
   have hy:p1[i]?=some p1[i]:=List.getElem?_eq_getElem (by omega)
   unfold uw
   unfold sameAt
   rw [eB hx,gu hy,Tre.aD,hy]
   dsimp only
   cases decide (x=p1[i])
   ·rfl
   ·simp only [Bool.not_true,cond_true,cond_false,Tre.aN,aY (show i<4611686018427387904 by omega)]
  ·unfold uw
   exact dR
 ·rw [decide_eq_false (show ¬(p0.length:Int)=(p1.length:Int) by omega),Bool.not_false,cond_true,Tre.aN,decide_eq_false (fun h=>hl (by rw [h]))]
def Jf:Env:=⟨tau,[],[]⟩
def ab1:Code:=(Tryz.f86.body).getD .skip
def Du (iG:Bool) (oQ:Bool) (aX:List Int) (bD:List Int):Int→St:=fun x=>bT [(0,(.imm iG .il aX)),(1,(.imm oQ .il bD)),(5,(.i x))] []
def uy (_:Bool) (_:Bool) (_:List Int) (_:List Int):(Bool ⊕ Unit)→Ex×St
 |.inl x=>(.ret,bT [(4,(.imm true .bool x))] [])
 |.inr _=>(.exit 0,bT [(4,.dead)] [])
def RS (s:St):Tre (Ex×St):=
 bB .il (s.tmps 0) fun z3 d2=>
 bB .il (s.tmps 1) fun z6 d5=>
 aF true .n (s.tmps 5) fun d8=>
 .mat (aS (uw d2 d5) d8) fun x=>.alt x (fun a0=>.ret (uy z3 z6 d2 d5 (.inl a0))) (fun b0=>.ret (uy z3 z6 d2 d5 (.inr b0)))
def tu:bF:=⟨([0,1,5],[]),([4],[]),RS⟩
def RQ:List (Nat×bF):=[(4,tu)]
theorem YP:∀(iG oQ:Bool)(aX bD:List Int)(x:Int)(c:St→Option (Ex×St)),den Jf RQ (aV ab1 0) (Du iG oQ aX bD x) (bZ tu.kp tu.kx c)=(uw aX bD x).run (cu (Du iG oQ aX bD) (uy iG oQ aX bD) c):=fun _ _ _ _ _ _=>by
 kernel_rfl
theorem adk:bU Jf RQ (aV ab1 0) tu:=fq fun s e s' h=>by
 generalize hs:restrict tu.kp s=s1 at h
 have h:(RS s1).run some=some (e,s'):=h
 obtain ⟨z3,d2,e1,h_0⟩:=dJ h
 obtain ⟨z6,d5,e4,h_1⟩:=dJ h_0
 obtain ⟨d8,e7,h_2⟩:=bO h_1
 obtain ⟨y,hy,hz⟩:=iA h_2
 refine ⟨_,_,Du z3 z6 d2 d5,uy z3 z6 d2 d5,uw d2 d5,d8,y,?_,hy,?_,YP z3 z6 d2 d5⟩
 ·subst hs;exact aT (T:=[(0,(.imm z3 .il d2)),(1,(.imm z6 .il d5)),(5,(.i d8))]) (U:=[]) rfl rfl ⟨e1,e4,e7,trivial⟩ trivial
 ·rcases y with x|x<;>exact Option.some.inj hz
def anl:FnI:=fnI Tryz.f86 RQ
def Vf (_:Bool) (_:Bool) (_:List Int) (_:List Int):Bool→au:=fun r=>⟨(.imm true .bool r),[],[]⟩
theorem akG:∀(zp0 zp1:Bool)(p0 p1:List Int),bH Jf anl ⟨[(.imm zp0 .il p0),(.imm zp1 .il p1)],[]⟩=(aaT p0 p1).run fun r=>some (Vf zp0 zp1 p0 p1 r):=fun _ _ _ _=>by kernel_rfl
def ank (av:List AV) (rs:List Root):Tre au:=
 aB av fun a0_ av0=>
 aB av0 fun a1_ av1=>
 aJ av1<|
 aJ rs<|
 bB .il a0_ fun z2 d1=>
 bB .il a1_ fun z4 d3=>
 .mat (zG d1 d3) fun r=>.ret (Vf z2 z4 d1 d3 r)
def Jg:Ctr:=dx [] ank
theorem ND:Contract Tryz.prog .none 86 Jg:=aC (V:=Jf) aR aH Tryz.func86 (bM (n:=1) fun k hk=>by
 match k,hk with
 |0,_=>exact bP (id:=4) adk) fun _ _ _=>aI fun _ _=>aI fun _ _=>aZ<|aZ<|dF fun _ _=>dF fun _ _=>fun h=>by intros;subst_vars;exact Es (akG _ _ _ _) (agj _ _) h
def NC (p0:aA) (p1:aA):Tre Bool:=
 .cond (decide (p0.1=p1.1))
  (.mat (zG p0.2.1 p1.2.1) fun r1=>
  .ret r1)
  (.ret false)
def oI (p0:aA) (p1:aA):Option Bool:=(NC p0 p1).run some
def RP:Env:=⟨tau,[(86,Jg)],[]⟩
def af9:FnI:=fnI Tryz.f26 []
def Lf (_:Bool) (_:Bool) (_:aA) (_:aA):Bool→au:=fun r=>⟨(.imm true .bool r),[],[]⟩
theorem adj:∀(zp0 zp1:Bool)(p0 p1:aA),bH RP af9 ⟨[(.imm zp0 aK p0),(.imm zp1 aK p1)],[]⟩=(NC p0 p1).run fun r=>some (Lf zp0 zp1 p0 p1 r):=fun _ _ _ _=>by kernel_rfl
def af8 (av:List AV) (rs:List Root):Tre au:=
 aB av fun a0_ av0=>
 aB av0 fun a1_ av1=>
 aJ av1<|
 aJ rs<|
 bB aK a0_ fun z2 d1=>
 bB aK a1_ fun z4 d3=>
 .mat (oI d1 d3) fun r=>.ret (Lf z2 z4 d1 d3 r)
def F9:Ctr:=dx [] af8
theorem OT:Contract Tryz.prog .none 26 F9:=aC (V:=RP) aR (ak ND atq aH) Tryz.func26 bn fun _ _ _=>aI fun _ _=>aI fun _ _=>aZ<|aZ<|dF fun _ _=>dF fun _ _=>fun h=>by intros;subst_vars;exact aW (adj _ _ _ _) h
def mG (bD:aA):Int→Tre (Int ⊕ (Bool ⊕ Unit)):=fun s4=>
 .cond (decide (s4<(bD.2.1.length:Int)))
  (.ite (0≤s4∧s4<(bD.2.1.length:Int))<|
  .mat (bD.2.1[s4.toNat]?) fun x1=>
  .ite (0≤aL .u64 bD.1)<|
  let v2:=rX .i64 1 (aL .u64 bD.1)
  let v3:=inR x1 0 (aL .i64 (v2-1))
  .cond (!v3)
   (.ret (.inr (.inl false)))
   (.ret (.inl (aL .i64 (s4+1)))))
  (.ret (.inr (.inr ())))
def NP (p0:aA):Tre Bool:=
 .cond (!(inR p0.1 1 10))
  (.ret false)
  (.cond (decide ((p0.2.1.length:Int)>10))
   (.ret false)
   (.mat (aS (mG p0) 0) fun l4=>
   .alt l4
    (fun a5=>
     .ret a5)
    (fun _=>
     .ret true)))
def zi (p0:aA):Option Bool:=(NP p0).run some
def zk:Env:=⟨tau,[(54,EU)],[]⟩
def Sl:Code:=(Tryz.f140.body).getD .skip
def xg (iG:Bool) (bD:aA):Int→St:=fun x=>bT [(0,(.ptr (0,0) [])),(3,(.i x))] [((0,0),some ⟨true,aK,(.imm iG),bD⟩)]
def nZ (iG:Bool) (bD:aA):(Bool ⊕ Unit)→Ex×St
 |.inl x=>(.ret,bT [(2,(.imm true .bool x))] [((0,0),some ⟨true,aK,(.imm iG),bD⟩)])
 |.inr _=>(.exit 0,bT [(2,.dead)] [((0,0),some ⟨true,aK,(.imm iG),bD⟩)])
def Jm (s:St):Tre (Ex×St):=
 dH (0,0) [] (s.tmps 0)<|
 aF true .n (s.tmps 3) fun d3=>
 bq true aK (s.roots (0,0)) fun m5 d6=>
 fI m5 fun z7=>
 .mat (aS (mG d6) d3) fun x=>.alt x (fun a0=>.ret (nZ z7 d6 (.inl a0))) (fun b0=>.ret (nZ z7 d6 (.inr b0)))
def ng:bF:=⟨([0,3],[(0,0)]),([2],[(0,0)]),Jm⟩
def Gm:List (Nat×bF):=[(4,ng)]
theorem Sn:∀(iG:Bool)(bD:aA)(x:Int)(c:St→Option (Ex×St)),den zk Gm (aV Sl 0) (xg iG bD x) (bZ ng.kp ng.kx c)=(mG bD x).run (cu (xg iG bD) (nZ iG bD) c):=fun _ _ _ _=>by
 kernel_rfl
theorem WW:bU zk Gm (aV Sl 0) ng:=fq fun s e s' h=>by
 generalize hs:restrict ng.kp s=s1 at h
 have h:(Jm s1).run some=some (e,s'):=h
 obtain ⟨e1,h_0⟩:=EY h
 obtain ⟨d3,e2,h_1⟩:=bO h_0
 obtain ⟨m5,d6,e4,h_2⟩:=gG h_1
 obtain ⟨z7,rfl,h_3⟩:=BF h_2
 obtain ⟨y,hy,hz⟩:=iA h_3
 refine ⟨_,_,xg z7 d6,nZ z7 d6,mG d6,d3,y,?_,hy,?_,Sn z7 d6⟩
 ·subst hs;exact aT (T:=[(0,(.ptr (0,0) [])),(3,(.i d3))]) (U:=[((0,0),some ⟨true,aK,(.imm z7),d6⟩)]) rfl rfl ⟨e1,e2,trivial⟩ ⟨e4,trivial⟩
 ·rcases y with x|x<;>exact Option.some.inj hz
def agD:FnI:=fnI Tryz.f140 Gm
def Lm (zp0:Bool) (p0:aA):Bool→au:=fun r=>⟨(.imm true .bool r),[⟨true,aK,(.imm zp0),p0⟩],[]⟩
theorem ads:∀(zp0:Bool)(p0:aA),bH zk agD ⟨[(.ptr (0,0) [])],[⟨true,aK,(.imm zp0),p0⟩]⟩=(NP p0).run fun r=>some (Lm zp0 p0 r):=fun _ _=>by kernel_rfl
def agC (av:List AV) (rs:List Root):Tre au:=
 aB av fun a0_ av0=>
 aJ av0<|
 aB rs fun r0_ rs0=>
 aJ rs0<|
 dH (0,0) [] a0_<|
 iL true aK r0_ fun m1 d2=>
 fI m1 fun z3=>
 .mat (zi d2) fun r=>.ret (Lm z3 d2 r)
def Sm:Ctr:=dx [] agC
theorem adu:Contract Tryz.prog .none 140 Sm:=aC (V:=zk) aR (ak Ga alO aH) Tryz.func140 (bM (n:=1) fun k hk=>by
 match k,hk with
 |0,_=>exact bP (id:=4) WW) fun _ _ _=>aI fun _ _=>aZ<|aI fun _ _=>aZ<|gy<|tRt fun _ _=>nQ fun _=>fun h=>by intros;subst_vars;exact aW (ads _ _) h
def MQ (p0:aA) (p1:Int):Tre Bool:=
 .ite (0≤p0.1)<|
 let v1:=aL .i64 ((rX .i64 1 p0.1)-1)
 .ret (inR p1 0 v1)
def yI (p0:aA) (p1:Int):Option Bool:=(MQ p0 p1).run some
def QS:Env:=⟨tau,[(90,pW)],[]⟩
def aeN:FnI:=fnI Tryz.f221 []
def KL (_:Bool) (_:aA) (_:Int):Bool→au:=fun r=>⟨(.imm true .bool r),[],[]⟩
theorem acI:∀(zp0:Bool)(p0:aA)(p1:Int),bH QS aeN ⟨[(.imm zp0 aK p0),(.i p1)],[]⟩=(MQ p0 p1).run fun r=>some (KL zp0 p0 p1 r):=fun _ _ _=>by kernel_rfl
def aeM (av:List AV) (rs:List Root):Tre au:=
 aB av fun a0_ av0=>
 aB av0 fun a1_ av1=>
 aJ av1<|
 aJ rs<|
 bB aK a0_ fun z2 d1=>
 aF true .n a1_ fun d3=>
 .mat (yI d1 d3) fun r=>.ret (KL z2 d1 d3 r)
def QT:Ctr:=dx [] aeM
theorem acK:Contract Tryz.prog .none 221 QT:=aC (V:=QS) aR (ak oV abr aH) Tryz.func221 bn fun _ _ _=>aI fun _ _=>aI fun _ _=>aZ<|aZ<|dF fun _ _=>aO fun _=>fun h=>by intros;subst_vars;exact aW (acI _ _ _) h
def sO (p0:Int) (p1:aA):Tre Bool:=
 .mat (yI p1 p0) fun r1=>
 .ret (!r1)
def kS (p0:Int) (p1:aA):Option Bool:=(sO p0 p1).run some
def yN:Env:=⟨tau,[(221,QT)],[]⟩
def M5:FnI:=fnI Tryz.f220 []
def vR (zp0:Bool) (_:Int) (p1:aA):Bool→au:=fun r=>⟨(.imm true .bool r),[⟨true,aK,(.imm zp0),p1⟩],[]⟩
theorem KR:∀(zp0:Bool)(p0:Int)(p1:aA),bH yN M5 ⟨[(.i p0),(.ptr (0,0) [])],[⟨true,aK,(.imm zp0),p1⟩]⟩=(sO p0 p1).run fun r=>some (vR zp0 p0 p1 r):=fun _ _ _=>by kernel_rfl
def M4 (av:List AV) (rs:List Root):Tre au:=
 aB av fun a0_ av0=>
 aB av0 fun a1_ av1=>
 aJ av1<|
 aB rs fun r0_ rs0=>
 aJ rs0<|
 aF true .n a0_ fun d1=>
 dH (0,0) [] a1_<|
 iL true aK r0_ fun m2 d3=>
 fI m2 fun z4=>
 .mat (kS d1 d3) fun r=>.ret (vR z4 d1 d3 r)
def yO:Ctr:=dx [] M4
theorem KT:Contract Tryz.prog .none 220 yO:=aC (V:=yN) aR (ak acK ax9 aH) Tryz.func220 bn fun _ _ _=>aI fun _ _=>aI fun _ _=>aZ<|aI fun _ _=>aZ<|aO fun _=>gy<|tRt fun _ _=>nQ fun _=>fun h=>by intros;subst_vars;exact aW (KR _ _ _) h
def aaE (bC:List Int) (bK:Int) (bA:aA):Int→Tre (Int ⊕ (Int ⊕ Unit)):=fun s2=>
 .cond (decide (s2<bK))
  (.ite (0≤s2∧s2<(bC.length:Int))<|
  .mat (bC[s2.toNat]?) fun x1=>
  .mat (kS x1 bA) fun r2=>
  .cond r2
   (.ret (.inr (.inl s2)))
   (.ret (.inl (aL .i64 (s2+1)))))
  (.ret (.inr (.inr ())))
def nm8 (p0:List Int) (p1:aA):Tre Int:=
 .mat (aS (aaE p0 (p0.length:Int) p1) 0) fun l3=>
 .alt l3
  (fun a4=>
   .ret a4)
  (fun _=>
   .ret (-1))
def aqE (p0:List Int) (p1:aA):Option Int:=(nm8 p0 p1).run some
def aqF:Env:=⟨tau,[(220,yO)],[]⟩
def axk:Code:=(Tryz.f187.body).getD .skip
def aaF (oP:Bool) (Ti:Bool) (bC:List Int) (bK:Int) (bA:aA):Int→St:=fun x=>bT [(0,(.imm oP .il bC)),(1,(.fn 220 [(0,0)])),(7,(.i bK)),(8,(.i x))] [((0,0),some ⟨true,aK,(.imm Ti),bA⟩)]
def Nu (_:Bool) (Ti:Bool) (_:List Int) (_:Int) (bA:aA):(Int ⊕ Unit)→Ex×St
 |.inl x=>(.ret,bT [(4,(.i x))] [((0,0),some ⟨true,aK,(.imm Ti),bA⟩)])
 |.inr _=>(.exit 0,bT [(4,.dead)] [((0,0),some ⟨true,aK,(.imm Ti),bA⟩)])
def amL (s:St):Tre (Ex×St):=
 bB .il (s.tmps 0) fun z3 d2=>
 xY 220 [(0,0)] (s.tmps 1)<|
 aF true .n (s.tmps 7) fun d6=>
 aF true .n (s.tmps 8) fun d8=>
 bq true aK (s.roots (0,0)) fun m10 d11=>
 fI m10 fun z12=>
 .mat (aS (aaE d2 d6 d11) d8) fun x=>.alt x (fun a0=>.ret (Nu z3 z12 d2 d6 d11 (.inl a0))) (fun b0=>.ret (Nu z3 z12 d2 d6 d11 (.inr b0)))
def Rq:bF:=⟨([0,1,7,8],[(0,0)]),([4],[(0,0)]),amL⟩
def aue:List (Nat×bF):=[(2,Rq)]
theorem amM:∀(oP Ti:Bool)(bC:List Int)(bK:Int)(bA:aA)(x:Int)(c:St→Option (Ex×St)),den aqF aue (aV axk 0) (aaF oP Ti bC bK bA x) (bZ Rq.kp Rq.kx c)=(aaE bC bK bA x).run (cu (aaF oP Ti bC bK bA) (Nu oP Ti bC bK bA) c):=fun _ _ _ _ _ _ _=>by
 kernel_rfl
theorem arY:bU aqF aue (aV axk 0) Rq:=fq fun s e s' h=>by
 generalize hs:restrict Rq.kp s=s1 at h
 have h:(amL s1).run some=some (e,s'):=h
 obtain ⟨z3,d2,e1,h_0⟩:=dJ h
 obtain ⟨e4,h_1⟩:=xB h_0
 obtain ⟨d6,e5,h_2⟩:=bO h_1
 obtain ⟨d8,e7,h_3⟩:=bO h_2
 obtain ⟨m10,d11,e9,h_4⟩:=gG h_3
 obtain ⟨z12,rfl,h_5⟩:=BF h_4
 obtain ⟨y,hy,hz⟩:=iA h_5
 refine ⟨_,_,aaF z3 z12 d2 d6 d11,Nu z3 z12 d2 d6 d11,aaE d2 d6 d11,d8,y,?_,hy,?_,amM z3 z12 d2 d6 d11⟩
 ·subst hs;exact aT (T:=[(0,(.imm z3 .il d2)),(1,(.fn 220 [(0,0)])),(7,(.i d6)),(8,(.i d8))]) (U:=[((0,0),some ⟨true,aK,(.imm z12),d11⟩)]) rfl rfl ⟨e1,e4,e5,e7,trivial⟩ ⟨e9,trivial⟩
 ·rcases y with x|x<;>exact Option.some.inj hz
def aAf:FnI:=fnI Tryz.f187 aue
def aqG (_:Bool) (zp1:Bool) (_:List Int) (p1:aA):Int→au:=fun r=>⟨(.i r),[⟨true,aK,(.imm zp1),p1⟩],[]⟩
theorem ay1:∀(zp0 zp1:Bool)(p0:List Int)(p1:aA),bH aqF aAf ⟨[(.imm zp0 .il p0),(.fn 220 [(0,0)])],[⟨true,aK,(.imm zp1),p1⟩]⟩=(nm8 p0 p1).run fun r=>some (aqG zp0 zp1 p0 p1 r):=fun _ _ _ _=>by kernel_rfl
def aAe (av:List AV) (rs:List Root):Tre au:=
 aB av fun a0_ av0=>
 aB av0 fun a1_ av1=>
 aJ av1<|
 aB rs fun r0_ rs0=>
 aJ rs0<|
 bB .il a0_ fun z2 d1=>
 xY 220 [(0,0)] a1_<|
 iL true aK r0_ fun m3 d4=>
 fI m3 fun z5=>
 .mat (aqE d1 d4) fun r=>.ret (aqG z2 z5 d1 d4 r)
def axl:Ctr:=dx [] aAe
theorem ay2:Contract Tryz.prog .none 187 axl:=aC (V:=aqF) aR (ak KT ax8 aH) Tryz.func187 (bM (n:=1) fun k hk=>by
 match k,hk with
 |0,_=>exact bP (id:=2) arY) fun _ _ _=>aI fun _ _=>aI fun _ _=>aZ<|aI fun _ _=>aZ<|dF fun _ _=>tFn<|tRt fun _ _=>nQ fun _=>fun h=>by intros;subst_vars;exact aW (ay1 _ _ _ _) h
def nm3 (p0:List Int) (p1:aA):Tre Bool:=
 .mat (aqE p0 p1) fun r1=>
 .ret (decide (r1 ≥ 0))
def aqr (p0:List Int) (p1:aA):Option Bool:=(nm3 p0 p1).run some
def axa:Env:=⟨tau,[(187,axl)],[]⟩
def az5:FnI:=fnI Tryz.f152 []
def aqs (_:Bool) (zp1:Bool) (_:List Int) (p1:aA):Bool→au:=fun r=>⟨(.imm true .bool r),[⟨true,aK,(.imm zp1),p1⟩],[]⟩
theorem ayR:∀(zp0 zp1:Bool)(p0:List Int)(p1:aA),bH axa az5 ⟨[(.imm zp0 .il p0),(.fn 220 [(0,0)])],[⟨true,aK,(.imm zp1),p1⟩]⟩=(nm3 p0 p1).run fun r=>some (aqs zp0 zp1 p0 p1 r):=fun _ _ _ _=>by kernel_rfl
def az4 (av:List AV) (rs:List Root):Tre au:=
 aB av fun a0_ av0=>
 aB av0 fun a1_ av1=>
 aJ av1<|
 aB rs fun r0_ rs0=>
 aJ rs0<|
 bB .il a0_ fun z2 d1=>
 xY 220 [(0,0)] a1_<|
 iL true aK r0_ fun m3 d4=>
 fI m3 fun z5=>
 .mat (aqr d1 d4) fun r=>.ret (aqs z2 z5 d1 d4 r)
def axb:Ctr:=dx [] az4
theorem ayS:Contract Tryz.prog .none 152 axb:=aC (V:=axa) aR (ak ay2 aoC aH) Tryz.func152 bn fun _ _ _=>aI fun _ _=>aI fun _ _=>aZ<|aI fun _ _=>aZ<|dF fun _ _=>tFn<|tRt fun _ _=>nQ fun _=>fun h=>by intros;subst_vars;exact aW (ayR _ _ _ _) h
def JW (p0:aA):Tre Bool:=
 .cond (inR p0.1 1 10)
  (.cond (decide ((p0.2.1.length:Int)≤10))
   (.mat (aqr p0.2.1 p0) fun r1=>
   .ret (!r1))
   (.ret false))
  (.ret false)
def wC (p0:aA):Option Bool:=(JW p0).run some
-- more
theorem acJ(m:Int×List Int×Unit)(x:Int)(h:0≤m.1):yI m x=some (inP m.1 x):=by
 unfold yI MQ
 rw [Tre.run_ite,if_pos h]
 rfl
theorem KS(m:Int×List Int×Unit)(x:Int)(h:0≤m.1):kS x m=some (!inP m.1 x):=by
 unfold kS sO
 rw [ah (acJ m x h)]
 rfl
theorem XO(xs:List Int)(m:Int×List Int×Unit)(h:0≤m.1)(hl:xs.length≤1048576):aqE xs m=some (lW (fun x=>!inP m.1 x) 0 xs):=by
 unfold aqE nm8
 rw [Tre.mZ,tZ (xs:=xs) (fun i x=>cond (!inP m.1 x) (some (.inl (i:Int))) none) (.inr ())]
 ·rw [Option.bind_some,←Tk (p:=fun x=>!inP m.1 x)]
  generalize zK _ _ _ _=r
  cases r<;>rfl
 ·intro i x hx
  have hi:i<xs.length:=(List.getElem?_eq_some_iff.1 hx).1
  unfold aaE
  rw [eB hx,ah (KS m x h),Tre.aD]
  cases inP m.1 x
  ·rfl
  ·simp only [Bool.not_true,cond_false,Tre.aN,aY (show i<4611686018427387904 by omega)]
 ·unfold aaE
  exact dR
theorem XM(xs:List Int)(m:Int×List Int×Unit)(h:0≤m.1)(hl:xs.length≤1048576):aqr xs m=some (xs.any fun x=>!inP m.1 x):=by
 unfold aqr nm3
 rw [ah (XO xs m h hl),Tre.aN,al8]
theorem Z7(m:Int×List Int×Unit)(hl:m.2.1.length≤1048576):wC m=some (ahT m):=by
 unfold wC JW ahT
 rw [Tre.aD]
 cases h1:inR m.1 1 10
 ·rfl
 rw [cond_true,Tre.aD,Bool.true_and]
 rw [iT] at h1
 by_cases h2:(m.2.1.length:Int)≤10
 ·rw [decide_eq_true h2,cond_true,ah (XM m.2.1 m (by omega) hl),Tre.aN,decide_eq_true (show m.2.1.length≤10 by omega),Bool.true_and,List.not_any_eq_all_not]
  simp only [Bool.not_not]
 ·rw [decide_eq_false h2,decide_eq_false (show ¬m.2.1.length≤10 by omega)];rfl
def OC:Env:=⟨tau,[(90,pW),(152,axb)],[]⟩
def acS:FnI:=fnI Tryz.f173 []
def IL (_:Bool) (_:aA):Bool→au:=fun r=>⟨(.imm true .bool r),[],[]⟩
theorem Z6:∀(zp0:Bool)(p0:aA),bH OC acS ⟨[(.imm zp0 aK p0)],[]⟩=(JW p0).run fun r=>some (IL zp0 p0 r):=fun _ _=>by kernel_rfl
def acR (av:List AV) (rs:List Root):Tre au:=
 aB av fun a0_ av0=>
 aJ av0<|
 aJ rs<|
 bB aK a0_ fun z2 d1=>
 .mat (wC d1) fun r=>.ret (IL z2 d1 r)
def OD:Ctr:=dx [] acR
theorem Z8:Contract Tryz.prog .none 173 OD:=aC (V:=OC) aR (ak oV abr (ak ayS ath aH)) Tryz.func173 bn fun _ _ _=>aI fun _ _=>aZ<|aZ<|dF fun _ _=>fun h=>by intros;subst_vars;exact aW (Z6 _ _) h
def xV:Tre (List Int):=
 .ret []
def HV:Option (List Int):=(xV).run some
theorem DK:HV=some []:=rfl
def uQ:Env:=⟨tau,[],[]⟩
def HZ:FnI:=fnI Tryz.f159 []
def rV:(List Int)→au:=fun r=>⟨(.ref (1,0) []),[],[⟨false,.il,.own,r⟩]⟩
theorem GK:bH uQ HZ ⟨[.nil],[]⟩=(xV).run fun r=>some (rV r):=by kernel_rfl
def HY (av:List AV) (rs:List Root):Tre au:=
 aB av fun a0_ av0=>
 aJ av0<|
 aJ rs<|
 alm a0_<|
 .ret (rV [])
def H6:Ctr:=dx [] HY
theorem GL:Contract Tryz.prog .none 159 H6:=aC (V:=uQ) aR aH Tryz.func159 bn fun _ _ _=>aI fun _ _=>aZ<|aZ<|aAl<|fun h=>by intros;subst_vars;exact yt GK DK h
def oN (p0:List Int):Tre (List Int):=
 .ite ((0+p0.length)*8≤bQ∧1≤8)<|
 .ret ([]++p0)
def uO (p0:List Int):Option (List Int):=(oN p0).run some
theorem DJ(p0 y:List Int)(h:yh p0=some y):uO p0=some y:=by
 obtain ⟨hl,rfl⟩:=afu h
 have hb:(0+p0.length)*8≤bQ∧1≤8:=by unfold bQ;omega
 unfold uO oN
 rw [Tre.run_ite,if_pos hb]
 rfl
def uP:Env:=⟨tau,[],[]⟩
def Hy:FnI:=fnI Tryz.f159 []
def rU (_:Bool) (_:List Int):(List Int)→au:=fun r=>⟨(.ref (1,0) []),[],[⟨false,.il,.own,r⟩]⟩
theorem GI:∀(zp0:Bool)(p0:List Int),bH uP Hy ⟨[(.nn zp0 .n p0)],[]⟩=(oN p0).run fun r=>some (rU zp0 p0 r):=fun _ _=>by kernel_rfl
def Hw (av:List AV) (rs:List Root):Tre au:=
 aB av fun a0_ av0=>
 aJ av0<|
 aJ rs<|
 au2 .n a0_ fun z1 d2=>
 .mat (yh d2) fun r=>.ret (rU z1 d2 r)
def Hz:Ctr:=dx [] Hw
theorem GJ:Contract Tryz.prog .none 159 Hz:=aC (V:=uP) aR aH Tryz.func159 bn fun _ _ _=>aI fun _ _=>aZ<|aZ<|tNn fun _ _=>fun h=>by intros;subst_vars;exact Es (GI _ _) (DJ _) h
theorem N7(y:List Int)(h:yh ([]:List Int)=some y):y=[]:=(afu h).2.symm
def CW (av:List AV) (rs:List Root):Tre au:=
 aB av fun a0_ av0=>
 aJ av0<|
 aJ rs<|
 bB .il a0_ fun _ d1=>
 .mat (yh d1) fun r=>.ret ⟨(.ref (1,0) []),[],[⟨false,.il,.own,r⟩]⟩
def nC:Ctr:=⟨[],fun ci=>CW ci.args ci.roots,false⟩
theorem qP:Contract Tryz.prog .none 159 nC:=by
 refine aju (e:=.n) GL GJ ?_
 rintro ⟨av,rs⟩ co h
 have h:(CW av rs).run some=some co:=h
 obtain ⟨a0_,av0,rfl,h_0⟩:=abl h
 obtain ⟨rfl,h_1⟩:=Vw h_0
 obtain ⟨rfl,h_2⟩:=Vw h_1
 obtain ⟨z2,d1,rfl,h_3⟩:=dJ h_2
 refine ⟨z2,d1,rfl,?_,?_⟩
 ·exact h_3
 ·rintro rfl
  obtain ⟨y,h1,h2⟩:=adM h_3
  have hy:y=[]:=by
   have:=N7 y h1
   exact this
  subst hy
  rw [←h2];rfl
def Au (p0:Int) (p1:Int):Tre Bool:=
 .ite (0≤p1)<|
 let v1:=Nb .i64 (Pz .i64 p0 p1) 1
 .ret (decide (v1=1))
def FR (p0:Int) (p1:Int):Option Bool:=(Au p0 p1).run some
def au4(x j:Int):Option Bool:=alo (decide (0≤j)) (zJ x j)
theorem Py(p0 p1:Int)(y:Bool)(h:au4 p0 p1=some y):FR p0 p1=some y:=by
 obtain ⟨hl,rfl⟩:=Ah h
 unfold FR Au
 rw [Tre.run_ite,if_pos (of_decide_eq_true hl)]
 rfl
def FT:Env:=⟨tau,[],[]⟩
def Wj:FnI:=fnI Tryz.f212 []
def Cj (_:Int) (p1:Int):Bool→au:=fun r=>⟨(.imm true .bool r),[⟨true,.n,.own,p1⟩],[]⟩
theorem Ui:∀(p0 p1:Int),bH FT Wj ⟨[(.i p0),(.ptr (0,0) [])],[⟨true,.n,.own,p1⟩]⟩=(Au p0 p1).run fun r=>some (Cj p0 p1 r):=fun _ _=>by kernel_rfl
def Wi (av:List AV) (rs:List Root):Tre au:=
 aB av fun a0_ av0=>
 aB av0 fun a1_ av1=>
 aJ av1<|
 aB rs fun r0_ rs0=>
 aJ rs0<|
 aF true .n a0_ fun d1=>
 dH (0,0) [] a1_<|
 iL true .n r0_ fun m2 d3=>
 asM .own m2<|
 .mat (au4 d1 d3) fun r=>.ret (Cj d1 d3 r)
def FV:Ctr:=dx [] Wi
theorem Uj:Contract Tryz.prog .none 212 FV:=aC (V:=FT) aR aH Tryz.func212 bn fun _ _ _=>aI fun _ _=>aI fun _ _=>aZ<|aI fun _ _=>aZ<|aO fun _=>gy<|tRt fun _ _=>tM<|fun h=>by intros;subst_vars;exact Es (Ui _ _) (Py _ _) h
def TJ (bC:List Int) (bK:Int) (bA:Int):Int→Tre (Int ⊕ (Int ⊕ Unit)):=fun s2=>
 .cond (decide (s2<bK))
  (.ite (0≤s2∧s2<(bC.length:Int))<|
  .mat (bC[s2.toNat]?) fun x1=>
  .mat (au4 x1 bA) fun r2=>
  .cond r2
   (.ret (.inr (.inl s2)))
   (.ret (.inl (aL .i64 (s2+1)))))
  (.ret (.inr (.inr ())))
def ayE (p0:List Int) (p1:Int):Tre Int:=
 .mat (aS (TJ p0 (p0.length:Int) p1) 0) fun l3=>
 .alt l3
  (fun a4=>
   .ret a4)
  (fun _=>
   .ret (-1))
def atY (p0:List Int) (p1:Int):Option Int:=(ayE p0 p1).run some
def avd(xs:List Int)(j:Int):Option Int:=alo (decide (0≤j)&&decide (xs.length≤1048576)) (lW (fun x=>zJ x j) 0 xs)
theorem arR(p0:List Int)(p1 y:Int)(h:avd p0 p1=some y):atY p0 p1=some y:=by
 obtain ⟨hl,rfl⟩:=Ah h
 rw [Bool.and_eq_true] at hl
 obtain ⟨hm,hl⟩:=hl
 have hl:=of_decide_eq_true hl
 unfold atY ayE
 rw [Tre.mZ,tZ (xs:=p0) (fun i x=>cond (zJ x p1) (some (.inl (i:Int))) none) (.inr ())]
 ·rw [Option.bind_some,←Tk (p:=fun x=>zJ x p1)]
  generalize zK _ _ _ _=r
  cases r<;>rfl
 ·intro i x hx
  have hi:i<p0.length:=(List.getElem?_eq_some_iff.1 hx).1
  unfold TJ
  rw [eB hx,ah (show au4 x p1=some _ from kX hm),Tre.aD]
  cases zJ x p1
  ·simp only [cond_false,Tre.aN,aY (show i<4611686018427387904 by omega)]
  ·rfl
 ·unfold TJ
  exact dR
def akd:Env:=⟨tau,[(212,FV)],[]⟩
def atZ:Code:=(Tryz.f187.body).getD .skip
def WA (oP:Bool) (bC:List Int) (bK:Int) (bA:Int):Int→St:=fun x=>bT [(0,(.imm oP .il bC)),(1,(.fn 212 [(0,0)])),(7,(.i bK)),(8,(.i x))] [((0,0),some ⟨true,.n,.own,bA⟩)]
def I8 (_:Bool) (_:List Int) (_:Int) (bA:Int):(Int ⊕ Unit)→Ex×St
 |.inl x=>(.ret,bT [(4,(.i x))] [((0,0),some ⟨true,.n,.own,bA⟩)])
 |.inr _=>(.exit 0,bT [(4,.dead)] [((0,0),some ⟨true,.n,.own,bA⟩)])
def ai1 (s:St):Tre (Ex×St):=
 bB .il (s.tmps 0) fun z3 d2=>
 xY 212 [(0,0)] (s.tmps 1)<|
 aF true .n (s.tmps 7) fun d6=>
 aF true .n (s.tmps 8) fun d8=>
 bq true .n (s.roots (0,0)) fun m10 d11=>
 asM .own m10<|
 .mat (aS (TJ d2 d6 d11) d8) fun x=>.alt x (fun a0=>.ret (I8 z3 d2 d6 d11 (.inl a0))) (fun b0=>.ret (I8 z3 d2 d6 d11 (.inr b0)))
def K7:bF:=⟨([0,1,7,8],[(0,0)]),([4],[(0,0)]),ai1⟩
def ape:List (Nat×bF):=[(2,K7)]
theorem ake:∀(oP:Bool)(bC:List Int)(bK bA x:Int)(c:St→Option (Ex×St)),den akd ape (aV atZ 0) (WA oP bC bK bA x) (bZ K7.kp K7.kx c)=(TJ bC bK bA x).run (cu (WA oP bC bK bA) (I8 oP bC bK bA) c):=fun _ _ _ _ _ _=>by
 kernel_rfl
theorem apf:bU akd ape (aV atZ 0) K7:=fq fun s e s' h=>by
 generalize hs:restrict K7.kp s=s1 at h
 have h:(ai1 s1).run some=some (e,s'):=h
 obtain ⟨z3,d2,e1,h_0⟩:=dJ h
 obtain ⟨e4,h_1⟩:=xB h_0
 obtain ⟨d6,e5,h_2⟩:=bO h_1
 obtain ⟨d8,e7,h_3⟩:=bO h_2
 obtain ⟨m10,d11,e9,h_4⟩:=gG h_3
 obtain ⟨rfl,h_5⟩:=vD h_4
 obtain ⟨y,hy,hz⟩:=iA h_5
 refine ⟨_,_,WA z3 d2 d6 d11,I8 z3 d2 d6 d11,TJ d2 d6 d11,d8,y,?_,hy,?_,ake z3 d2 d6 d11⟩
 ·subst hs;exact aT (T:=[(0,(.imm z3 .il d2)),(1,(.fn 212 [(0,0)])),(7,(.i d6)),(8,(.i d8))]) (U:=[((0,0),some ⟨true,.n,.own,d11⟩)]) rfl rfl ⟨e1,e4,e5,e7,trivial⟩ ⟨e9,trivial⟩
 ·rcases y with x|x<;>exact Option.some.inj hz
def ayG:FnI:=fnI Tryz.f187 ape
def amA (_:Bool) (_:List Int) (p1:Int):Int→au:=fun r=>⟨(.i r),[⟨true,.n,.own,p1⟩],[]⟩
theorem avT:∀(zp0:Bool)(p0:List Int)(p1:Int),bH akd ayG ⟨[(.imm zp0 .il p0),(.fn 212 [(0,0)])],[⟨true,.n,.own,p1⟩]⟩=(ayE p0 p1).run fun r=>some (amA zp0 p0 p1 r):=fun _ _ _=>by kernel_rfl
def ayF (av:List AV) (rs:List Root):Tre au:=
 aB av fun a0_ av0=>
 aB av0 fun a1_ av1=>
 aJ av1<|
 aB rs fun r0_ rs0=>
 aJ rs0<|
 bB .il a0_ fun z2 d1=>
 xY 212 [(0,0)] a1_<|
 iL true .n r0_ fun m3 d4=>
 asM .own m3<|
 .mat (avd d1 d4) fun r=>.ret (amA z2 d1 d4 r)
def at1:Ctr:=dx [] ayF
theorem avU:Contract Tryz.prog .none 187 at1:=aC (V:=akd) aR (ak Uj ax6 aH) Tryz.func187 (bM (n:=1) fun k hk=>by
 match k,hk with
 |0,_=>exact bP (id:=2) apf) fun _ _ _=>aI fun _ _=>aI fun _ _=>aZ<|aI fun _ _=>aZ<|dF fun _ _=>tFn<|tRt fun _ _=>tM<|fun h=>by intros;subst_vars;exact Es (avT _ _ _) (arR _ _) h
def nK (jH:Int) (Ij:Int) (kM:Int):(Int×(List Int))→Tre ((Int×(List Int)) ⊕ (List Int)):=fun s10=>
 .cond (decide (s10.1<Ij))
  (.cond (!decide (s10.1=jH))
   (.ite (0≤s10.1∧s10.1<(s10.2.length:Int))<|
   .mat (s10.2[s10.1.toNat]?) fun x9=>
   .ite (0≤kM)<|
   let v10:=Nb .i64 (Pz .i64 x9 kM) 1
   .cond (decide (v10=1))
    (.ite (0≤s10.1∧s10.1<(s10.2.length:Int))<|
    .mat (s10.2[s10.1.toNat]?) fun x11=>
    .ite (0≤jH∧jH<(s10.2.length:Int))<|
    .mat (s10.2[jH.toNat]?) fun x12=>
    .ite (0≤s10.1∧s10.1<(s10.2.length:Int))<|
    .mat (s10.2[s10.1.toNat]?) fun _=>
    let v14:=s10.2.set s10.1.toNat (jT .i64 x11 x12)
    .ret (.inl (aL .i64 (s10.1+1),v14)))
    (.ret (.inl (aL .i64 (s10.1+1),s10.2))))
   (.ret (.inl (aL .i64 (s10.1+1),s10.2))))
  (.ret (.inr s10.2))
def iR:(Int×(List Int)×Int)→Tre ((Int×(List Int)×Int) ⊕ (Int×(List Int))):=fun s4=>
 .cond (decide (s4.2.2<62))
  (.cond (decide (s4.1<(s4.2.1.length:Int)))
   (.ite (0≤s4.1∧s4.1≤(s4.2.1.length:Int)∧(s4.2.1.length:Int)≤(s4.2.1.length:Int))<|
   .mat (avd ((s4.2.1.drop s4.1.toNat).take (((s4.2.1.length:Int)-s4.1).toNat)) s4.2.2) fun r2=>
   .cond (decide (r2<0))
    (.ret (.inl (s4.1,s4.2.1,aL .i64 (s4.2.2+1))))
    (.ite (0≤aL .i64 (s4.1+r2)∧aL .i64 (s4.1+r2)<(s4.2.1.length:Int))<|
    .mat (s4.2.1[(aL .i64 (s4.1+r2)).toNat]?) fun x3=>
    .ite (0≤s4.1∧s4.1<(s4.2.1.length:Int))<|
    .mat (s4.2.1[s4.1.toNat]?) fun x4=>
    .ite (0≤s4.1∧s4.1<(s4.2.1.length:Int))<|
    .mat (s4.2.1[s4.1.toNat]?) fun _=>
    let v6:=s4.2.1.set s4.1.toNat x3
    .ite (0≤aL .i64 (s4.1+r2)∧aL .i64 (s4.1+r2)<(v6.length:Int))<|
    .mat (v6[(aL .i64 (s4.1+r2)).toNat]?) fun _=>
    let v8:=v6.set ((aL .i64 (s4.1+r2)).toNat) x4
    .mat (aS (nK s4.1 (v8.length:Int) s4.2.2) (0,v8)) fun l15=>
    .ret (.inl (aL .i64 (s4.1+1),l15,aL .i64 (s4.2.2+1)))))
   (.ret (.inr (s4.1,s4.2.1))))
  (.ret (.inr (s4.1,s4.2.1)))
def aai (p0:List Int):Tre (List Int):=
 .mat (yh p0) fun r1=>
 .mat (aS iR (0,r1,0)) fun l16=>
 .ite (0≤(0:Int)∧(0:Int)≤l16.1∧l16.1≤(l16.2.length:Int))<|
 .ret ((l16.2.drop 0).take ((l16.1-0).toNat))
def aby (p0:List Int):Option (List Int):=(aai p0).run some
def alM (xs:List Int):Option (List Int):=alo (FY 62 xs) (TR xs)
theorem aeW(k c r:Nat)(hc:c≤62)(hr:r<2 ^ 62)(A B:List Nat)(hk:A.length=k)(hb:∀n∈A++r::B,n<2 ^ 62)(hl:(A++r::B).length≤1048576) :
  aS (nK (k:Int) ((A++r::B).length:Int) (c:Int)) (0,up (A++r::B))=some (up (A.map (gM c r)++r::B.map (gM c r))):=by
 have hkr:(A++r::B)[k]?=some r:=by rw [List.getElem?_append_right (by omega),hk];simp
 generalize hL:A++r::B=l at *
 have:=ai5 (step:=nK (k:Int) (l.length:Int) (c:Int)) (fun i x=>if i=k then x else gM c r x) l id (by
  intro i x hx
  have hi:i<l.length:=(List.getElem?_eq_some_iff.1 hx).1
  have hx2:=Tf (adN (g:=fun i x=>if i=k then x else gM c r x) (i:=i) hx)
  rw [if_neg (Nat.lt_irrefl i)] at hx2
  have hr2:=Tf (adN (g:=fun i x=>if i=k then x else gM c r x) (i:=i) hkr)
  simp only [if_true,ite_self] at hr2
  have hxb:=hb x (List.mem_of_getElem? hx)
  rw [←amR hx]
  generalize hP:xP (fun i x=>if i=k then x else gM c r x) i l=P at *
  have hset:(up P).set i (x:Int)=up P:=List.ext_getElem? fun j=>by
   rw [List.getElem?_set]
   by_cases hj:i=j
   ·subst hj;rw [if_pos rfl,hx2,if_pos (List.getElem?_eq_some_iff.1 hx2).1]
   ·rw [if_neg hj]
  unfold nK
  rw [Tre.aD]
  show cond (decide ((i:Int)<(l.length:Int))) _ _=_
  rw [show decide ((i:Int)<(l.length:Int))=true from by simpa using hi,cond_true,Tre.aD]
  show cond (!decide ((i:Int)=(k:Int))) _ _=_
  by_cases hik:i=k
  ·rw [show decide ((i:Int)=(k:Int))=true from decide_eq_true (by omega),Bool.not_true,cond_false,Tre.aN,aY (by omega),if_pos hik,←Og,hset]
  ·rw [show decide ((i:Int)=(k:Int))=false from decide_eq_false (by omega),Bool.not_false,cond_true,gu hx2,Tre.run_ite,if_pos (by omega),Tre.aD,if_neg hik]
   show cond (zJ (x:Int) (c:Int)) _ _=_
   rw [EO (by omega) (by omega)]
   have he:gM c r x=cond (x.testBit c) (x^^^r) x:=rfl
   rw [he]
   cases x.testBit c
   ·rw [cond_false,Tre.aN,aY (by omega),cond_false,←Og,hset]
   ·rw [cond_true,gu hx2,gu hr2,gu hx2,Tre.aN,aY (by omega),lJ (by omega) (by omega),Int.toNat_natCast,cond_true,←Og])
  (by
  unfold nK
  exact dR)
 rw [this,←hL,aj5 (f:=gM c r) (g:=fun i x=>if i=k then x else gM c r x) (r:=r) (B:=B) hk (fun i x h=>if_neg h) (if_pos rfl)]
 rfl
theorem aeY(orig:List Nat):∀(n c:Nat)(E:List (Nat×Nat))(R:List Nat),c+n=62→Inv orig c E R→E.length+R.length≤1048576→(∀x∈R,x<2 ^ 62)→(∀a∈E,a.2<2 ^ 62) →
  ∃(E' L:List Nat),aS iR ((E.length:Int),up (E.map (·.2)++R),(c:Int))=some ((E'.length:Int),up (E'++L))∧jm orig E':=by
 intro n
 induction n with
 |zero=>
  intro c E R hc hI _ hR _
  have:c=62:=hc
  subst this
  refine ⟨E.map (·.2),R,eO ?_,hI.done fun x hx=>Oh (hR x hx) (hI.low x hx)⟩
  unfold iR
  simp [Tre.aD,Tre.aN]
 |succ n ih=>
  intro c E R hc hI hl hR hEb
  have hcm:c<62:=by omega
  have hlen:(up (E.map (·.2)++R)).length=E.length+R.length:=by rw [eX];simp
  by_cases hR0:R=[]
  ·subst hR0
   refine ⟨E.map (·.2),[],eO ?_,hI.done fun x hx=>by cases hx⟩
   unfold iR
   simp [Tre.aD,Tre.aN]
  have hRl:0<R.length:=List.length_pos_iff.2 hR0
  have hstep:∀E2 R2,Inv orig (c+1) E2 R2→E2.length+R2.length≤1048576→(∀x∈R2,x<2 ^ 62)→(∀a∈E2,a.2<2 ^ 62)→(iR ((E.length:Int),up (E.map (·.2)++R),(c:Int))).run some=some (.inl ((E2.length:Int),up (E2.map (·.2)++R2),((c+1:Nat):Int))) →
    ∃(E' L:List Nat),aS iR ((E.length:Int),up (E.map (·.2)++R),(c:Int))=some ((E'.length:Int),up (E'++L))∧jm orig E':=by
   intro E2 R2 h1 h2 h3 h4 h5
   rw [iq h5]
   exact ih (c+1) E2 R2 (by omega) h1 h2 h3 h4
  have hsub:((up (E.map (·.2)++R)).drop E.length).take (((E.length+R.length:Nat):Int)-(E.length:Int)).toNat=up R:=by
   rw [show (((E.length+R.length:Nat):Int)-(E.length:Int)).toNat=R.length from by omega]
   unfold up
   rw [List.map_append,List.drop_append_of_le_length (by simp),List.drop_of_length_le (by simp),List.nil_append,List.take_of_length_le (by simp)]
  have hfind:avd (up R) (c:Int)=some _:=kX (by rw [eX];simp;omega)
  have hw:aL .i64 ((c:Int)+1)=((c+1:Nat):Int):=aY (by omega)
  have hdec:decide ((c:Int)<62)=true:=by simp;omega
  have hdec2:decide ((E.length:Int)<((E.length+R.length:Nat):Int))=true:=by simp;omega
  rcases wT (fun x=>zJ x (c:Int)) (up R) 0 with ⟨h1,h2⟩|⟨j,x,h1,h2,h3⟩
  ·refine hstep E R (hI.skip fun x hx=>?_) hl hR hEb ?_
   ·have:=h2 (x:Int) (List.mem_map.2 ⟨x,hx,rfl⟩)
    have hxb:=hR x hx
    rwa [EO (by omega) (by omega)] at this
   ·unfold iR
    dsimp only
    rw [hlen,Tre.aD,hdec,cond_true,Tre.aD,hdec2,cond_true,Tre.run_ite,if_pos (by omega),Int.toNat_natCast,hsub,ah (hfind.trans (by rw [h1])),Tre.aD]
    simp only [show decide ((-1:Int)<0)=true from rfl,cond_true,Tre.aN,hw]
  ·obtain ⟨r,hr1,rfl⟩:∃r:Nat,R[j]?=some r∧(r:Int)=x:=by
    simp only [up,List.getElem?_map,Option.map_eq_some_iff] at h1
    exact h1
   have hrm:r∈R:=List.mem_of_getElem? hr1
   have hrb:=hR r hrm
   rw [EO (by omega) (by omega)] at h2
   rw [Nat.zero_add] at h3
   have hj:j<R.length:=(List.getElem?_eq_some_iff.1 hr1).1
   obtain ⟨y,R',rfl⟩:∃y R',R=y::R':=by
    cases R with
    |nil=>exact absurd rfl hR0
    |cons y R'=>exact ⟨y,R',rfl⟩
-- the rows behind the swap
   obtain ⟨B,hB,hB1,hB2,hBl⟩:∃B,((y::R').set 0 r).set j y=r::B∧(∀x∈B,x∈y::R')∧(∀x∈y::R',x=r∨x∈B)∧B.length=R'.length:=by
    cases j with
    |zero=>
     have hyr:y=r:=by simpa using hr1
     subst hyr
     exact ⟨R',by simp,fun x hx=>.tail _ hx,fun x hx=>by
      cases hx with
      |head=>exact .inl rfl
      |tail _ hx=>exact .inr hx,rfl⟩
    |succ j=>
     have hr1:R'[j]?=some r:=by simpa using hr1
     have hj':j<R'.length:=(List.getElem?_eq_some_iff.1 hr1).1
     refine ⟨R'.set j y,by simp,fun x hx=>?_,fun x hx=>?_,by simp⟩
     ·rcases List.mem_or_eq_of_mem_set hx with hx|rfl
      ·exact .tail _ hx
      ·exact .head _
     ·cases hx with
      |head=>exact .inr (List.mem_set hj' _)
      |tail _ hx=>
       obtain ⟨i,hi⟩:=List.getElem?_of_mem hx
       by_cases hij:j=i
       ·subst hij;rw [hr1] at hi;exact .inl (Option.some.inj hi).symm
       ·exact .inr (List.mem_of_getElem? (i:=i) (by rw [List.getElem?_set,if_neg hij,hi]))
   have hE2:((E.map fun a=>(a.1,gM c r a.2))++[(c,r)]).map (·.2)=(E.map (·.2)).map (gM c r)++[r]:=by simp [List.map_map,Function.comp_def]
   have hRB:(E.map (·.2)++r::B).length=E.length+(y::R').length:=by simp [hBl]
   have hall:∀x∈E.map (·.2)++r::B,x<2 ^ 62:=by
    intro x hx
    rcases List.mem_append.1 hx with hx|hx
    ·obtain ⟨a,ha,rfl⟩:=List.mem_map.1 hx;exact hEb a ha
    ·cases hx with
     |head=>exact hrb
     |tail _ hx=>exact hR x (hB1 x hx)
   refine hstep (E.map (fun a=>(a.1,gM c r a.2))++[(c,r)]) (B.map (gM c r)) (hI.step hrm h2 ?_ ?_) (by simp [hBl] at hl ⊢;omega) ?_ ?_ ?_
   ·intro z hz
    obtain ⟨x,hx,rfl⟩:=List.mem_map.1 hz
    exact .inr ⟨x,hB1 x hx,rfl⟩
   ·intro x hx
    rcases hB2 x hx with h|h
    ·exact .inl h
    ·exact .inr (List.mem_map.2 ⟨x,h,rfl⟩)
   ·intro z hz
    obtain ⟨x,hx,rfl⟩:=List.mem_map.1 hz
    exact Qi hrb (hR x (hB1 x hx))
   ·intro a ha
    rcases List.mem_append.1 ha with ha|ha
    ·obtain ⟨b,hb,rfl⟩:=List.mem_map.1 ha
     exact Qi hrb (hEb b hb)
    ·simp only [List.mem_singleton] at ha;subst ha;exact hrb
   ·have e1:=aeW E.length c r (by omega) hrb (E.map (·.2)) B (by simp) hall (by rw [hRB];exact hl)
    have hkj:aL .i64 ((E.length:Int)+(j:Int))=((E.length+j:Nat):Int):=by rw [bY (by omega) (by omega)];omega
    have hat1:(up (E.map (·.2)++y::R'))[E.length+j]?=some (r:Int):=Tf (by rw [List.getElem?_append_right (by simp)];simpa using hr1)
    have hat2:(up (E.map (·.2)++y::R'))[E.length]?=some (y:Int):=Tf (by rw [List.getElem?_append_right (by simp)];simp)
    have hs1:(up (E.map (·.2)++y::R')).set E.length (r:Int)=up (E.map (·.2)++(y::R').set 0 r):=by
     rw [Og,List.set_append_right _ _ (by simp)]
     simp
    have hs2:(up (E.map (·.2)++(y::R').set 0 r)).set (E.length+j) (y:Int)=up (E.map (·.2)++r::B):=by
     rw [Og,List.set_append_right _ _ (by simp),←hB]
     simp
    have hat3:∃z,(up (E.map (·.2)++(y::R').set 0 r))[E.length+j]?=some z:=⟨_,List.getElem?_eq_getElem (by rw [eX];simp at hj ⊢;omega)⟩
    obtain ⟨z,hat3⟩:=hat3
    have hlen3:((up (E.map (·.2)++r::B)).length:Int)=((E.map (·.2)++r::B).length:Int):=by rw [eX]
    unfold iR
    dsimp only
    rw [hlen,Tre.aD,hdec,cond_true,Tre.aD,hdec2,cond_true,Tre.run_ite,if_pos (by omega),Int.toNat_natCast,hsub,ah (hfind.trans (by rw [h3])),Tre.aD]
    rw [show decide ((j:Int)<0)=false from by simp,cond_false,hkj,←hlen,gu hat1,akr hat2,akr hat2]
    rw [Int.toNat_natCast,hs1,akr hat3,hs2,hlen3,ah e1,Tre.aN,aY (by omega),hw,hE2]
    simp [List.append_assoc]
theorem aeZ(p0 y:List Int)(h:alM p0=some y):aby p0=some y:=by
 obtain ⟨hl,rfl⟩:=Ah h
 obtain ⟨ns,rfl,hlen,hb,hn⟩:=aaL hl
 obtain ⟨E,L,h1,h2⟩:=aeY ns 62 0 [] ns (by omega) (Inv.start ns) (by simpa using hlen) hb (fun a ha=>by cases ha)
 unfold aby aai
 have e1:yh (up ns)=some (up ns):=aj3 (by rw [eX];exact hlen)
 have h1:aS iR (0,up ns,0)=some ((E.length:Int),up (E++L)):=h1
 rw [ah e1,ah h1,Tre.run_ite,if_pos (by rw [eX];simp;omega),Tre.aN]
 unfold TR
 rw [hn,aen h2]
 simp [up]
def xM:Env:=⟨tau,[(159,nC),(187,at1)],[]⟩
def IV:Code:=(Tryz.f162.body).getD .skip
def KY (jH:Int) (Ij:Int) (kM:Int):(Int×(List Int))→St:=fun x=>bT [(0,(.ref (2,0) [])),(3,(.i jH)),(4,(.ptr (6,0) [])),(45,(.i Ij)),(46,(.i x.1))] [((2,0),some ⟨false,.il,.own,x.2⟩),((6,0),some ⟨true,.n,.own,kM⟩)]
def IX (jH:Int) (_:Int) (kM:Int):(List Int)→Ex×St:=fun x=>(.exit 2,bT [(0,(.ref (2,0) [])),(3,(.i jH)),(4,(.ptr (6,0) []))] [((2,0),some ⟨false,.il,.own,x⟩),((6,0),some ⟨true,.n,.own,kM⟩)])
def acX (s:St):Tre (Ex×St):=
 fQ (2,0) [] (s.tmps 0)<|
 aF true .n (s.tmps 3) fun d3=>
 dH (6,0) [] (s.tmps 4)<|
 aF true .n (s.tmps 45) fun d6=>
 aF true .n (s.tmps 46) fun d8=>
 bq false .il (s.roots (2,0)) fun m10 d11=>
 asM .own m10<|
 bq true .n (s.roots (6,0)) fun m13 d14=>
 asM .own m13<|
 .mat (aS (nK d3 d6 d14) (d8,d11)) fun x=>.ret (IX d3 d6 d14 x)
def wG:bF:=⟨([0,3,4,45,46],[(2,0),(6,0)]),([0,3,4],[(2,0),(6,0)]),acX⟩
def OG:(Int×(List Int)×Int)→St:=fun x=>bT [(0,(.ref (2,0) [])),(3,(.i x.1)),(4,(.ptr (6,0) []))] [((2,0),some ⟨false,.il,.own,x.2.1⟩),((6,0),some ⟨true,.n,.own,x.2.2⟩)]
def KZ:(Int×(List Int))→Ex×St:=fun x=>(.exit 0,bT [(0,(.ref (2,0) [])),(3,(.i x.1))] [((2,0),some ⟨false,.il,.own,x.2⟩)])
def aeX (s:St):Tre (Ex×St):=
 fQ (2,0) [] (s.tmps 0)<|
 aF true .n (s.tmps 3) fun d3=>
 dH (6,0) [] (s.tmps 4)<|
 bq false .il (s.roots (2,0)) fun m6 d7=>
 asM .own m6<|
 bq true .n (s.roots (6,0)) fun m9 d10=>
 asM .own m9<|
 .mat (aS iR (d3,d7,d10)) fun x=>.ret (KZ x)
def yP:bF:=⟨([0,3,4],[(2,0),(6,0)]),([0,3],[(2,0)]),aeX⟩
def Ci:List (Nat×bF):=[(10,wG),(4,yP)]
theorem Wh:∀(jH Ij kM:Int)(x:(Int×(List Int)))(c:St→Option (Ex×St)),den xM Ci (aV IV 1) (KY jH Ij kM x) (bZ wG.kp wG.kx c)=(nK jH Ij kM x).run (cu (KY jH Ij kM) (IX jH Ij kM) c):=fun _ _ _ _ _=>by
 kernel_rfl
theorem aaj:bU xM Ci (aV IV 1) wG:=dB fun _ _ _=>nR<|aO fun _=>gy<|aO fun _=>aO fun _=>cO fun _ _=>tM<|cO fun _ _=>tM<|fun h _ e12 _ e9 e7 e5 e4 e2 e1=>cK (Wh _ _ _) h (by subst_vars;exact aT rfl rfl ⟨e1,e2,e4,e5,e7,trivial⟩ ⟨e9,e12,trivial⟩)
theorem XT:∀(x:(Int×(List Int)×Int))(c:St→Option (Ex×St)),den xM Ci (aV IV 0) (OG x) (bZ yP.kp yP.kx c)=(iR x).run (cu (OG) (KZ) c):=fun _ _=>by
 kernel_rfl
theorem acY:bU xM Ci (aV IV 0) yP:=dB fun _ _ _=>nR<|aO fun _=>gy<|cO fun _ _=>tM<|cO fun _ _=>tM<|fun h _ e8 _ e5 e4 e2 e1=>cK XT h (by subst_vars;exact aT rfl rfl ⟨e1,e2,e4,trivial⟩ ⟨e5,e8,trivial⟩)
def alZ:FnI:=fnI Tryz.f162 Ci
def UW (_:Bool) (_:List Int):(List Int)→au:=fun r=>⟨(.ref (1,0) []),[],[⟨false,.il,.own,r⟩]⟩
theorem ajL:∀(zp0:Bool)(p0:List Int),bH xM alZ ⟨[(.imm zp0 .il p0)],[]⟩=(aai p0).run fun r=>some (UW zp0 p0 r):=fun _ _=>by kernel_rfl
def alY (av:List AV) (rs:List Root):Tre au:=
 aB av fun a0_ av0=>
 aJ av0<|
 aJ rs<|
 bB .il a0_ fun z2 d1=>
 .mat (alM d1) fun r=>.ret (UW z2 d1 r)
def IW:Ctr:=dx [] alY
theorem M7:Contract Tryz.prog .none 162 IW:=aC (V:=xM) aR (ak qP aoz (ak avU aoC aH)) Tryz.func162 (bM (n:=2) fun k hk=>by
 match k,hk with
 |0,_=>exact bP (id:=4) acY
 |1,_=>exact bP (id:=10) aaj) fun _ _ _=>aI fun _ _=>aZ<|aZ<|dF fun _ _=>fun h=>by intros;subst_vars;exact Es (ajL _ _) (aeZ _) h
end Go.Proofs.YtmilokkchghpjaaGreat
