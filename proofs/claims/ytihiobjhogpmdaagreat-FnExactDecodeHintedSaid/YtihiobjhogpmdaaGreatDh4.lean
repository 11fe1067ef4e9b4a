/- Part 4 of the proof of FnExactDecodeHinted. -/
import Derived.Test.YtihiobjhogpmdaaGreatDh3
set_option maxRecDepth 100000
noncomputable section
namespace Go.Proofs.YtihiobjhogpmdaaGreat
open Go Go.Abs Go.Proofs
def aft (aU:List Int) (bG:Int) (bK:bB):Int→Tre (Int ⊕ (Int ⊕ Unit)):=fun s2=>
 .cond (decide (s2<bG))
  (.ite (0≤s2∧s2<(aU.length:Int))<|
  .mat (aU[s2.toNat]?) fun x1=>
  .mat (lT x1 bK) fun r2=>
  .cond r2
   (.ret (.inr (.inl s2)))
   (.ret (.inl (aI .i64 (s2+1)))))
  (.ret (.inr (.inr ())))
def nm6 (p0:List Int) (p1:bB):Tre Int:=
 .mat (aO (aft p0 (p0.length:Int) p1) 0) fun l3=>
 .alt l3
  (fun a4=>
   .ret a4)
  (fun _=>
   .ret (-1))
def awl (p0:List Int) (p1:bB):Option Int:=(nm6 p0 p1).run some
def awm:Env:=⟨tau,[(131,Av)],[]⟩
def aCG:Code:=(Tryz.f99.body).getD .skip
def afu (eH:Bool) (Xr:Bool) (aU:List Int) (bG:Int) (bK:bB):Int→St:=fun x=>bP [(0,(.imm eH .il aU)),(1,(.fn 131 [(0,0)])),(7,(.i bG)),(8,(.i x))] [((0,0),some ⟨true,bZ,(.imm Xr),bK⟩)]
def Q8 (_:Bool) (Xr:Bool) (_:List Int) (_:Int) (bK:bB):(Int ⊕ Unit)→Ex×St
 |.inl x=>(.ret,bP [(4,(.i x))] [((0,0),some ⟨true,bZ,(.imm Xr),bK⟩)])
 |.inr _=>(.exit 0,bP [(4,.dead)] [((0,0),some ⟨true,bZ,(.imm Xr),bK⟩)])
def aso (s:St):Tre (Ex×St):=
 aZ .il (s.tmps 0) fun z3 d2=>
 Tk 131 [(0,0)] (s.tmps 1)<|
 ay true .n (s.tmps 7) fun d6=>
 ay true .n (s.tmps 8) fun d8=>
 bg true bZ (s.roots (0,0)) fun m10 d11=>
 lu m10 fun z12=>
 .mat (aO (aft d2 d6 d11) d8) fun x=>.alt x (fun a0=>.ret (Q8 z3 z12 d2 d6 d11 (.inl a0))) (fun b0=>.ret (Q8 z3 z12 d2 d6 d11 (.inr b0)))
def V4:bq:=⟨([0,1,7,8],[(0,0)]),([4],[(0,0)]),aso⟩
def azO:List (Nat×bq):=[(2,V4)]
theorem asq:∀(eH Xr:Bool)(aU:List Int)(bG:Int)(bK:bB)(x:Int)(c:St→Option (Ex×St)),den awm azO (aT aCG 0) (afu eH Xr aU bG bK x) (bR V4.kp V4.kx c)=(aft aU bG bK x).run (bS (afu eH Xr aU bG bK) (Q8 eH Xr aU bG bK) c):=fun _ _ _ _ _ _ _=>by
 kernel_rfl
theorem axM:bQ awm azO (aT aCG 0) V4:=fK fun s e s' h=>by
 generalize hs:restrict V4.kp s=s1 at h
 have h:(aso s1).run some=some (e,s'):=h
 obtain ⟨z3,d2,e1,h_0⟩:=fA h
 obtain ⟨e4,h_1⟩:=Cq h_0
 obtain ⟨d6,e5,h_2⟩:=cu h_1
 obtain ⟨d8,e7,h_3⟩:=cu h_2
 obtain ⟨m10,d11,e9,h_4⟩:=fQ h_3
 obtain ⟨z12,rfl,h_5⟩:=KM h_4
 obtain ⟨y,hy,hz⟩:=gN h_5
 refine ⟨_,_,afu z3 z12 d2 d6 d11,Q8 z3 z12 d2 d6 d11,aft d2 d6 d11,d8,y,?_,hy,?_,asq z3 z12 d2 d6 d11⟩
 ·subst hs;exact aP (T:=[(0,(.imm z3 .il d2)),(1,(.fn 131 [(0,0)])),(7,(.i d6)),(8,(.i d8))]) (U:=[((0,0),some ⟨true,bZ,(.imm z12),d11⟩)]) rfl rfl ⟨e1,e4,e5,e7,trivial⟩ ⟨e9,trivial⟩
 ·rcases y with x|x<;>exact Option.some.inj hz
def aFe:FnI:=fnI Tryz.f99 azO
def awn (_:Bool) (zp1:Bool) (_:List Int) (p1:bB):Int→au:=fun r=>⟨(.i r),[⟨true,bZ,(.imm zp1),p1⟩],[]⟩
theorem aDL:∀(zp0 zp1:Bool)(p0:List Int)(p1:bB),bJ awm aFe ⟨[(.imm zp0 .il p0),(.fn 131 [(0,0)])],[⟨true,bZ,(.imm zp1),p1⟩]⟩=(nm6 p0 p1).run fun r=>some (awn zp0 zp1 p0 p1 r):=fun _ _ _ _=>by kernel_rfl
def aFd (av:List AV) (rs:List Root):Tre au:=
 aC av fun a0_ av0=>
 aC av0 fun a1_ av1=>
 aM av1<|
 aC rs fun r0_ rs0=>
 aM rs0<|
 aZ .il a0_ fun z2 d1=>
 Tk 131 [(0,0)] a1_<|
 wV true bZ r0_ fun m3 d4=>
 lu m3 fun z5=>
 .mat (awl d1 d4) fun r=>.ret (awn z2 z5 d1 d4 r)
def aCH:Ctr:=dD [] aFd
theorem aDM:Contract Tryz.prog .none 99 aCH:=aD (V:=awm) aW (ak Oq aDi aH) Tryz.func99 (bF (n:=1) fun k hk=>by
 match k,hk with
 |0,_=>exact bH (id:=2) axM) fun _ _ _=>aK fun _ _=>aK fun _ _=>bf<|aK fun _ _=>bf<|bY fun _ _=>tFn<|tRt fun _ _=>BA fun _=>fun h=>by intros;subst_vars;exact bn (aDL _ _ _ _) h
def nm1 (p0:List Int) (p1:bB):Tre Bool:=
 .mat (awl p0 p1) fun r1=>
 .ret (decide (r1 ≥ 0))
def av6 (p0:List Int) (p1:bB):Option Bool:=(nm1 p0 p1).run some
def aCw:Env:=⟨tau,[(99,aCH)],[]⟩
def aE4:FnI:=fnI Tryz.f93 []
def av7 (_:Bool) (zp1:Bool) (_:List Int) (p1:bB):Bool→au:=fun r=>⟨(.imm true .bool r),[⟨true,bZ,(.imm zp1),p1⟩],[]⟩
theorem aDB:∀(zp0 zp1:Bool)(p0:List Int)(p1:bB),bJ aCw aE4 ⟨[(.imm zp0 .il p0),(.fn 131 [(0,0)])],[⟨true,bZ,(.imm zp1),p1⟩]⟩=(nm1 p0 p1).run fun r=>some (av7 zp0 zp1 p0 p1 r):=fun _ _ _ _=>by kernel_rfl
def aE3 (av:List AV) (rs:List Root):Tre au:=
 aC av fun a0_ av0=>
 aC av0 fun a1_ av1=>
 aM av1<|
 aC rs fun r0_ rs0=>
 aM rs0<|
 aZ .il a0_ fun z2 d1=>
 Tk 131 [(0,0)] a1_<|
 wV true bZ r0_ fun m3 d4=>
 lu m3 fun z5=>
 .mat (av6 d1 d4) fun r=>.ret (av7 z2 z5 d1 d4 r)
def aCx:Ctr:=dD [] aE3
theorem aDC:Contract Tryz.prog .none 93 aCx:=aD (V:=aCw) aW (ak aDM avJ aH) Tryz.func93 bI fun _ _ _=>aK fun _ _=>aK fun _ _=>bf<|aK fun _ _=>bf<|bY fun _ _=>tFn<|tRt fun _ _=>BA fun _=>fun h=>by intros;subst_vars;exact bn (aDB _ _ _ _) h
-- shared
theorem auj{b:Nat}{xs:List Int}(hb:b≤62)(h:FJ b xs=true):rM (xs.map Int.toNat) (ech (xs.map Int.toNat)):=by
 obtain ⟨ns,rfl,hlen,hn,he⟩:=afA h
 obtain ⟨E,_,h2⟩:=Mc b hb ns b 0 [] ns (by omega) (Inv.start ns) (Nat.zero_le _) hlen hn (fun a ha=>by cases ha)
 rw [he,auk h2];exact h2
theorem arb(xs:List Int):(Tm xs).length=(ech (xs.map Int.toNat)).length:=by unfold Tm;rw [wS]
theorem al9:∀(l:List (Nat×Nat))(lo b:Nat),(l.Pairwise fun a b=>a.1<b.1)→(∀a∈l,lo≤a.1∧a.1<b)→l.length≤b-lo:=by
 intro l
 induction l with
 |nil=>intro lo b _ _;exact Nat.zero_le _
 |cons a l ih=>
  intro lo b h hb
  obtain ⟨h1,h2⟩:=List.pairwise_cons.1 h
  have:=ih (a.1+1) b h2 fun x hx=>⟨h1 x hx,(hb x (.tail _ hx)).2⟩
  have h0:=hb a (.head _)
  simp only [List.length_cons]
  omega
-- shared
def apH(m:Int×List Int×Unit):Bool:=inR m.1 1 10&&(decide (m.2.1.length≤10)&&m.2.1.all (inP m.1))
def ai2 (m:Int×List Int×Unit):Bool:=apH m&&decide (Tm m.2.1=m.2.1)
theorem apI{m:Int×List Int×Unit}(h:apH m=true):∃(c:Nat) (ns:List Nat),m=((c:Int),up ns,())∧1≤c∧c≤10∧ns.length≤10∧∀n∈ns,n<2 ^ c:=by
 obtain ⟨a,xs,_⟩:=m
 simp only [apH,Bool.and_eq_true,gV,decide_eq_true_eq,List.all_eq_true] at h
 obtain ⟨⟨h1,h2⟩,h3,h4⟩:=h
 obtain ⟨c,rfl⟩:=Int.eq_ofNat_of_zero_le (show 0≤a by omega)
 have hc:c≤62:=by omega
 refine ⟨c,xs.map Int.toNat,?_,by omega,by omega,by simpa using h3,fun n hn=>?_⟩
 ·have:up (xs.map Int.toNat)=xs:=by
   unfold up
   rw [List.map_map]
   refine (List.map_congr_left fun x hx=>?_).trans (List.map_id xs)
   obtain ⟨n,rfl,_⟩:=avQ hc (h4 x hx)
   simp
  rw [this]
 ·obtain ⟨x,hx,rfl⟩:=List.mem_map.1 hn
  obtain ⟨k,rfl,hk⟩:=avQ hc (h4 x hx)
  simpa using hk
theorem XJ{c b:Nat}{ns:List Nat}(hc:c≤b)(hl:ns.length≤1048576)(hn:∀n∈ns,n<2 ^ c):FJ b (up ns)=true:=
 aof hl fun n h=>Nat.lt_of_lt_of_le (hn n h) (auT hc)
theorem awH{m:Int×List Int×Unit}(h:ai2 m=true):∃(c:Nat) (ns:List Nat),m=((c:Int),up ns,())∧1≤c∧c≤10∧ns.length≤10∧(∀n∈ns,n<2 ^ c)∧rM ns ns:=by
 unfold ai2 at h
 rw [Bool.and_eq_true] at h
 obtain ⟨c,ns,rfl,h1,h2,h3,h4⟩:=apI h.1
 refine ⟨c,ns,rfl,h1,h2,h3,h4,?_⟩
 have he:=of_decide_eq_true h.2
 have hi:=auj (b:=62) (by omega) (XJ (b:=62) (by omega) (by omega) h4)
 rw [up_toNat] at hi
 unfold Tm at he
 rw [up_toNat] at he
 have:ech ns=ns:=by
  have:=congrArg (List.map Int.toNat) he
  rwa [up_toNat,up_toNat] at this
 rw [this] at hi
 exact hi
def M4 (p0:bB):Tre Bool:=
 .cond (inR p0.1 1 10)
  (.cond (decide ((p0.2.1.length:Int)≤10))
   (.mat (av6 p0.2.1 p0) fun r1=>
   .ret (!r1))
   (.ret false))
  (.ret false)
def xR (p0:bB):Option Bool:=(M4 p0).run some
-- more
theorem ahS(m:Int×List Int×Unit)(x:Int)(h:0≤m.1):Am m x=some (inP m.1 x):=by
 unfold Am Qz
 rw [Tre.run_ite,if_pos h]
 rfl
theorem Oo(m:Int×List Int×Unit)(x:Int)(h:0≤m.1):lT x m=some (!inP m.1 x):=by
 unfold lT uN
 rw [ah (ahS m x h)]
 rfl
theorem ab7(xs:List Int)(m:Int×List Int×Unit)(h:0≤m.1)(hl:xs.length≤1048576):awl xs m=some (ny (fun x=>!inP m.1 x) 0 xs):=by
 unfold awl nm6
 rw [Tre.kg,vC (xs:=xs) (fun i x=>cond (!inP m.1 x) (some (.inl (i:Int))) none) (.inr ())]
 ·rw [Option.bind_some,←NI (p:=fun x=>!inP m.1 x)]
  generalize Ga _ _ _ _=r
  cases r<;>rfl
 ·intro i x hx
  have hi:i<xs.length:=(List.getElem?_eq_some_iff.1 hx).1
  unfold aft
  rw [dX hx,ah (Oo m x h),Tre.aA]
  cases inP m.1 x
  ·rfl
  ·simp only [Bool.not_true,cond_false,Tre.aF,aR (show i<4611686018427387904 by omega)]
 ·unfold aft
  exact dF
theorem ab6(xs:List Int)(m:Int×List Int×Unit)(h:0≤m.1)(hl:xs.length≤1048576):av6 xs m=some (xs.any fun x=>!inP m.1 x):=by
 unfold av6 nm1
 rw [ah (ab7 xs m h hl),Tre.aF,arP]
theorem ae1(m:Int×List Int×Unit)(hl:m.2.1.length≤1048576):xR m=some (apH m):=by
 unfold xR M4 apH
 rw [Tre.aA]
 cases h1:inR m.1 1 10
 ·rfl
 rw [cond_true,Tre.aA,Bool.true_and]
 rw [gV] at h1
 by_cases h2:(m.2.1.length:Int)≤10
 ·rw [decide_eq_true h2,cond_true,ah (ab6 m.2.1 m (by omega) hl),Tre.aF,decide_eq_true (show m.2.1.length≤10 by omega),Bool.true_and,List.not_any_eq_all_not]
  simp only [Bool.not_not]
 ·rw [decide_eq_false h2,decide_eq_false (show ¬m.2.1.length≤10 by omega)];rfl
def R9:Env:=⟨tau,[(92,yJ),(93,aCx)],[]⟩
def ahX:FnI:=fnI Tryz.f109 []
def Lf (_:Bool) (_:bB):Bool→au:=fun r=>⟨(.imm true .bool r),[],[]⟩
theorem ae0:∀(zp0:Bool)(p0:bB),bJ R9 ahX ⟨[(.imm zp0 bZ p0)],[]⟩=(M4 p0).run fun r=>some (Lf zp0 p0 r):=fun _ _=>by kernel_rfl
def ahW (av:List AV) (rs:List Root):Tre au:=
 aC av fun a0_ av0=>
 aM av0<|
 aM rs<|
 aZ bZ a0_ fun z2 d1=>
 .mat (xR d1) fun r=>.ret (Lf z2 d1 r)
def Sb:Ctr:=dD [] ahW
theorem ae2:Contract Tryz.prog .none 109 Sb:=aD (V:=R9) aW (ak zk anR (ak aDC aCq aH)) Tryz.func109 bI fun _ _ _=>aK fun _ _=>bf<|bf<|bY fun _ _=>fun h=>by intros;subst_vars;exact bn (ae0 _ _) h
def zL:Tre (List Int):=
 .ret []
def KG:Option (List Int):=(zL).run some
theorem F7:KG=some []:=rfl
def wI:Env:=⟨tau,[],[]⟩
def KI:FnI:=fnI Tryz.f65 []
def uz:(List Int)→au:=fun r=>⟨(.ref (1,0) []),[],[⟨false,.il,.own,r⟩]⟩
theorem Ke:bJ wI KI ⟨[.nil],[]⟩=(zL).run fun r=>some (uz r):=by kernel_rfl
def KH (av:List AV) (rs:List Root):Tre au:=
 aC av fun a0_ av0=>
 aM av0<|
 aM rs<|
 avz a0_<|
 .ret (uz [])
def KJ:Ctr:=dD [] KH
theorem Kg:Contract Tryz.prog .none 65 KJ:=aD (V:=wI) aW aH Tryz.func65 bI fun _ _ _=>aK fun _ _=>bf<|bf<|aFt<|fun h=>by intros;subst_vars;exact tC Ke F7 h
def qm (p0:List Int):Tre (List Int):=
 .ite ((0+p0.length)*8≤bM∧1≤8)<|
 .ret ([]++p0)
def wG (p0:List Int):Option (List Int):=(qm p0).run some
theorem F6(p0 y:List Int)(h:fT p0=some y):wG p0=some y:=by
 obtain ⟨hl,rfl⟩:=acN h
 have hb:(0+p0.length)*8≤bM∧1≤8:=by unfold bM;omega
 unfold wG qm
 rw [Tre.run_ite,if_pos hb]
 rfl
def wH:Env:=⟨tau,[],[]⟩
def KE:FnI:=fnI Tryz.f65 []
def uy (_:Bool) (_:List Int):(List Int)→au:=fun r=>⟨(.ref (1,0) []),[],[⟨false,.il,.own,r⟩]⟩
theorem Ka:∀(zp0:Bool)(p0:List Int),bJ wH KE ⟨[(.nn zp0 .n p0)],[]⟩=(qm p0).run fun r=>some (uy zp0 p0 r):=fun _ _=>by kernel_rfl
def KD (av:List AV) (rs:List Root):Tre au:=
 aC av fun a0_ av0=>
 aM av0<|
 aM rs<|
 aAL .n a0_ fun z1 d2=>
 .mat (fT d2) fun r=>.ret (uy z1 d2 r)
def KF:Ctr:=dD [] KD
theorem Kc:Contract Tryz.prog .none 65 KF:=aD (V:=wH) aW aH Tryz.func65 bI fun _ _ _=>aK fun _ _=>bf<|bf<|tNn fun _ _=>fun h=>by intros;subst_vars;exact qE (Ka _ _) (F6 _) h
theorem RJ(y:List Int)(h:fT ([]:List Int)=some y):y=[]:=(acN h).2.symm
def Fg (av:List AV) (rs:List Root):Tre au:=
 aC av fun a0_ av0=>
 aM av0<|
 aM rs<|
 aZ .il a0_ fun _ d1=>
 .mat (fT d1) fun r=>.ret ⟨(.ref (1,0) []),[],[⟨false,.il,.own,r⟩]⟩
def kJ:Ctr:=⟨[],fun ci=>Fg ci.args ci.roots,false⟩
theorem nk:Contract Tryz.prog .none 65 kJ:=by
 refine aoN (e:=.n) Kg Kc ?_
 rintro ⟨av,rs⟩ co h
 have h:(Fg av rs).run some=some co:=h
 obtain ⟨a0_,av0,rfl,h_0⟩:=agu h
 obtain ⟨rfl,h_1⟩:=ZI h_0
 obtain ⟨rfl,h_2⟩:=ZI h_1
 obtain ⟨z2,d1,rfl,h_3⟩:=fA h_2
 refine ⟨z2,d1,rfl,?_,?_⟩
 ·exact h_3
 ·rintro rfl
  obtain ⟨y,h1,h2⟩:=ajb h_3
  have hy:y=[]:=by
   have:=RJ y h1
   exact this
  subst hy
  rw [←h2];rfl
def CV (p0:Int) (p1:Int):Tre Bool:=
 .ite (0≤p1)<|
 let v1:=ah7 .i64 (aaA .i64 p0 p1) 1
 .ret (decide (v1=1))
def Jl (p0:Int) (p1:Int):Option Bool:=(CV p0 p1).run some
def aAN(x j:Int):Option Bool:=ajx (decide (0≤j)) (BH x j)
theorem T9(p0 p1:Int)(y:Bool)(h:aAN p0 p1=some y):Jl p0 p1=some y:=by
 obtain ⟨hl,rfl⟩:=rY h
 unfold Jl CV
 rw [Tre.run_ite,if_pos (of_decide_eq_true hl)]
 rfl
def Jm:Env:=⟨tau,[],[]⟩
def aav:FnI:=fnI Tryz.f100 []
def EG (_:Int) (p1:Int):Bool→au:=fun r=>⟨(.imm true .bool r),[⟨true,.n,.own,p1⟩],[]⟩
theorem Yf:∀(p0 p1:Int),bJ Jm aav ⟨[(.i p0),(.ptr (0,0) [])],[⟨true,.n,.own,p1⟩]⟩=(CV p0 p1).run fun r=>some (EG p0 p1 r):=fun _ _=>by kernel_rfl
def aau (av:List AV) (rs:List Root):Tre au:=
 aC av fun a0_ av0=>
 aC av0 fun a1_ av1=>
 aM av1<|
 aC rs fun r0_ rs0=>
 aM rs0<|
 ay true .n a0_ fun d1=>
 eF (0,0) [] a1_<|
 wV true .n r0_ fun m2 d3=>
 asM .own m2<|
 .mat (aAN d1 d3) fun r=>.ret (EG d1 d3 r)
def Jo:Ctr:=dD [] aau
theorem Yg:Contract Tryz.prog .none 100 Jo:=aD (V:=Jm) aW aH Tryz.func100 bI fun _ _ _=>aK fun _ _=>aK fun _ _=>bf<|aK fun _ _=>bf<|aJ fun _=>jD<|tRt fun _ _=>tM<|fun h=>by intros;subst_vars;exact qE (Yf _ _) (T9 _ _) h
def afx (aU:List Int) (bG:Int) (bK:Int):Int→Tre (Int ⊕ (Int ⊕ Unit)):=fun s2=>
 .cond (decide (s2<bG))
  (.ite (0≤s2∧s2<(aU.length:Int))<|
  .mat (aU[s2.toNat]?) fun x1=>
  .mat (aAN x1 bK) fun r2=>
  .cond r2
   (.ret (.inr (.inl s2)))
   (.ret (.inl (aI .i64 (s2+1)))))
  (.ret (.inr (.inr ())))
def nm8 (p0:List Int) (p1:Int):Tre Int:=
 .mat (aO (afx p0 (p0.length:Int) p1) 0) fun l3=>
 .alt l3
  (fun a4=>
   .ret a4)
  (fun _=>
   .ret (-1))
def aCK (p0:List Int) (p1:Int):Option Int:=(nm8 p0 p1).run some
def aAX(xs:List Int)(j:Int):Option Int:=ajx (decide (0≤j)&&decide (xs.length≤1048576)) (ny (fun x=>BH x j) 0 xs)
theorem azR(p0:List Int)(p1 y:Int)(h:aAX p0 p1=some y):aCK p0 p1=some y:=by
 obtain ⟨hl,rfl⟩:=rY h
 rw [Bool.and_eq_true] at hl
 obtain ⟨hm,hl⟩:=hl
 have hl:=of_decide_eq_true hl
 unfold aCK nm8
 rw [Tre.kg,vC (xs:=p0) (fun i x=>cond (BH x p1) (some (.inl (i:Int))) none) (.inr ())]
 ·rw [Option.bind_some,←NI (p:=fun x=>BH x p1)]
  generalize Ga _ _ _ _=r
  cases r<;>rfl
 ·intro i x hx
  have hi:i<p0.length:=(List.getElem?_eq_some_iff.1 hx).1
  unfold afx
  rw [dX hx,ah (show aAN x p1=some _ from jJ hm),Tre.aA]
  cases BH x p1
  ·simp only [cond_false,Tre.aF,aR (show i<4611686018427387904 by omega)]
  ·rfl
 ·unfold afx
  exact dF
def awr:Env:=⟨tau,[(100,Jo)],[]⟩
def aCL:Code:=(Tryz.f99.body).getD .skip
def afy (eH:Bool) (aU:List Int) (bG:Int) (bK:Int):Int→St:=fun x=>bP [(0,(.imm eH .il aU)),(1,(.fn 100 [(0,0)])),(7,(.i bG)),(8,(.i x))] [((0,0),some ⟨true,.n,.own,bK⟩)]
def Ra (_:Bool) (_:List Int) (_:Int) (bK:Int):(Int ⊕ Unit)→Ex×St
 |.inl x=>(.ret,bP [(4,(.i x))] [((0,0),some ⟨true,.n,.own,bK⟩)])
 |.inr _=>(.exit 0,bP [(4,.dead)] [((0,0),some ⟨true,.n,.own,bK⟩)])
def asv (s:St):Tre (Ex×St):=
 aZ .il (s.tmps 0) fun z3 d2=>
 Tk 100 [(0,0)] (s.tmps 1)<|
 ay true .n (s.tmps 7) fun d6=>
 ay true .n (s.tmps 8) fun d8=>
 bg true .n (s.roots (0,0)) fun m10 d11=>
 asM .own m10<|
 .mat (aO (afx d2 d6 d11) d8) fun x=>.alt x (fun a0=>.ret (Ra z3 d2 d6 d11 (.inl a0))) (fun b0=>.ret (Ra z3 d2 d6 d11 (.inr b0)))
def V6:bq:=⟨([0,1,7,8],[(0,0)]),([4],[(0,0)]),asv⟩
def azQ:List (Nat×bq):=[(2,V6)]
theorem asw:∀(eH:Bool)(aU:List Int)(bG bK x:Int)(c:St→Option (Ex×St)),den awr azQ (aT aCL 0) (afy eH aU bG bK x) (bR V6.kp V6.kx c)=(afx aU bG bK x).run (bS (afy eH aU bG bK) (Ra eH aU bG bK) c):=fun _ _ _ _ _ _=>by
 kernel_rfl
theorem axO:bQ awr azQ (aT aCL 0) V6:=fK fun s e s' h=>by
 generalize hs:restrict V6.kp s=s1 at h
 have h:(asv s1).run some=some (e,s'):=h
 obtain ⟨z3,d2,e1,h_0⟩:=fA h
 obtain ⟨e4,h_1⟩:=Cq h_0
 obtain ⟨d6,e5,h_2⟩:=cu h_1
 obtain ⟨d8,e7,h_3⟩:=cu h_2
 obtain ⟨m10,d11,e9,h_4⟩:=fQ h_3
 obtain ⟨rfl,h_5⟩:=rO h_4
 obtain ⟨y,hy,hz⟩:=gN h_5
 refine ⟨_,_,afy z3 d2 d6 d11,Ra z3 d2 d6 d11,afx d2 d6 d11,d8,y,?_,hy,?_,asw z3 d2 d6 d11⟩
 ·subst hs;exact aP (T:=[(0,(.imm z3 .il d2)),(1,(.fn 100 [(0,0)])),(7,(.i d6)),(8,(.i d8))]) (U:=[((0,0),some ⟨true,.n,.own,d11⟩)]) rfl rfl ⟨e1,e4,e5,e7,trivial⟩ ⟨e9,trivial⟩
 ·rcases y with x|x<;>exact Option.some.inj hz
def aFi:FnI:=fnI Tryz.f99 azQ
def awt (_:Bool) (_:List Int) (p1:Int):Int→au:=fun r=>⟨(.i r),[⟨true,.n,.own,p1⟩],[]⟩
theorem aDP:∀(zp0:Bool)(p0:List Int)(p1:Int),bJ awr aFi ⟨[(.imm zp0 .il p0),(.fn 100 [(0,0)])],[⟨true,.n,.own,p1⟩]⟩=(nm8 p0 p1).run fun r=>some (awt zp0 p0 p1 r):=fun _ _ _=>by kernel_rfl
def aFh (av:List AV) (rs:List Root):Tre au:=
 aC av fun a0_ av0=>
 aC av0 fun a1_ av1=>
 aM av1<|
 aC rs fun r0_ rs0=>
 aM rs0<|
 aZ .il a0_ fun z2 d1=>
 Tk 100 [(0,0)] a1_<|
 wV true .n r0_ fun m3 d4=>
 asM .own m3<|
 .mat (aAX d1 d4) fun r=>.ret (awt z2 d1 d4 r)
def aCM:Ctr:=dD [] aFh
theorem aDQ:Contract Tryz.prog .none 99 aCM:=aD (V:=awr) aW (ak Yg aCV aH) Tryz.func99 (bF (n:=1) fun k hk=>by
 match k,hk with
 |0,_=>exact bH (id:=2) axO) fun _ _ _=>aK fun _ _=>aK fun _ _=>bf<|aK fun _ _=>bf<|bY fun _ _=>tFn<|tRt fun _ _=>tM<|fun h=>by intros;subst_vars;exact qE (aDP _ _ _) (azR _ _) h
def oD (vD:Int) (KR:Int) (zV:Int):(Int×(List Int))→Tre ((Int×(List Int)) ⊕ (List Int)):=fun s10=>
 .cond (decide (s10.1<KR))
  (.cond (!decide (s10.1=vD))
   (.ite (0≤s10.1∧s10.1<(s10.2.length:Int))<|
   .mat (s10.2[s10.1.toNat]?) fun x9=>
   .ite (0≤zV)<|
   let v10:=ah7 .i64 (aaA .i64 x9 zV) 1
   .cond (decide (v10=1))
    (.ite (0≤s10.1∧s10.1<(s10.2.length:Int))<|
    .mat (s10.2[s10.1.toNat]?) fun x11=>
    .ite (0≤vD∧vD<(s10.2.length:Int))<|
    .mat (s10.2[vD.toNat]?) fun x12=>
    .ite (0≤s10.1∧s10.1<(s10.2.length:Int))<|
    .mat (s10.2[s10.1.toNat]?) fun _=>
    let v14:=s10.2.set s10.1.toNat (jw .i64 x11 x12)
    .ret (.inl (aI .i64 (s10.1+1),v14)))
    (.ret (.inl (aI .i64 (s10.1+1),s10.2))))
   (.ret (.inl (aI .i64 (s10.1+1),s10.2))))
  (.ret (.inr s10.2))
def jf:(Int×(List Int)×Int)→Tre ((Int×(List Int)×Int) ⊕ (Int×(List Int))):=fun s4=>
 .cond (decide (s4.2.2<62))
  (.cond (decide (s4.1<(s4.2.1.length:Int)))
   (.ite (0≤s4.1∧s4.1≤(s4.2.1.length:Int)∧(s4.2.1.length:Int)≤(s4.2.1.length:Int))<|
   .mat (aAX ((s4.2.1.drop s4.1.toNat).take (((s4.2.1.length:Int)-s4.1).toNat)) s4.2.2) fun r2=>
   .cond (decide (r2<0))
    (.ret (.inl (s4.1,s4.2.1,aI .i64 (s4.2.2+1))))
    (.ite (0≤aI .i64 (s4.1+r2)∧aI .i64 (s4.1+r2)<(s4.2.1.length:Int))<|
    .mat (s4.2.1[(aI .i64 (s4.1+r2)).toNat]?) fun x3=>
    .ite (0≤s4.1∧s4.1<(s4.2.1.length:Int))<|
    .mat (s4.2.1[s4.1.toNat]?) fun x4=>
    .ite (0≤s4.1∧s4.1<(s4.2.1.length:Int))<|
    .mat (s4.2.1[s4.1.toNat]?) fun _=>
    let v6:=s4.2.1.set s4.1.toNat x3
    .ite (0≤aI .i64 (s4.1+r2)∧aI .i64 (s4.1+r2)<(v6.length:Int))<|
    .mat (v6[(aI .i64 (s4.1+r2)).toNat]?) fun _=>
    let v8:=v6.set ((aI .i64 (s4.1+r2)).toNat) x4
    .mat (aO (oD s4.1 (v8.length:Int) s4.2.2) (0,v8)) fun l15=>
    .ret (.inl (aI .i64 (s4.1+1),l15,aI .i64 (s4.2.2+1)))))
   (.ret (.inr (s4.1,s4.2.1))))
  (.ret (.inr (s4.1,s4.2.1)))
def ae5 (p0:List Int):Tre (List Int):=
 .mat (fT p0) fun r1=>
 .mat (aO jf (0,r1,0)) fun l16=>
 .ite (0≤(0:Int)∧(0:Int)≤l16.1∧l16.1≤(l16.2.length:Int))<|
 .ret ((l16.2.drop 0).take ((l16.1-0).toNat))
def agH (p0:List Int):Option (List Int):=(ae5 p0).run some
def aq9 (xs:List Int):Option (List Int):=ajx (FJ 62 xs) (Tm xs)
theorem ake(k c r:Nat)(hc:c≤62)(hr:r<2 ^ 62)(A B:List Nat)(hk:A.length=k)(hb:∀n∈A++r::B,n<2 ^ 62)(hl:(A++r::B).length≤1048576) :
  aO (oD (k:Int) ((A++r::B).length:Int) (c:Int)) (0,up (A++r::B))=some (up (A.map (iD c r)++r::B.map (iD c r))):=by
 have hkr:(A++r::B)[k]?=some r:=by rw [List.getElem?_append_right (by omega),hk];simp
 generalize hL:A++r::B=l at *
 have:=aoh (step:=oD (k:Int) (l.length:Int) (c:Int)) (fun i x=>if i=k then x else iD c r x) l id (by
  intro i x hx
  have hi:i<l.length:=(List.getElem?_eq_some_iff.1 hx).1
  have hx2:=atE (ajd (g:=fun i x=>if i=k then x else iD c r x) (i:=i) hx)
  rw [if_neg (Nat.lt_irrefl i)] at hx2
  have hr2:=atE (ajd (g:=fun i x=>if i=k then x else iD c r x) (i:=i) hkr)
  simp only [if_true,ite_self] at hr2
  have hxb:=hb x (List.mem_of_getElem? hx)
  rw [←asz hx]
  generalize hP:zx (fun i x=>if i=k then x else iD c r x) i l=P at *
  have hset:(up P).set i (x:Int)=up P:=List.ext_getElem? fun j=>by
   rw [List.getElem?_set]
   by_cases hj:i=j
   ·subst hj;rw [if_pos rfl,hx2,if_pos (List.getElem?_eq_some_iff.1 hx2).1]
   ·rw [if_neg hj]
  unfold oD
  rw [Tre.aA]
  show cond (decide ((i:Int)<(l.length:Int))) _ _=_
  rw [show decide ((i:Int)<(l.length:Int))=true from by simpa using hi,cond_true,Tre.aA]
  show cond (!decide ((i:Int)=(k:Int))) _ _=_
  by_cases hik:i=k
  ·rw [show decide ((i:Int)=(k:Int))=true from decide_eq_true (by omega),Bool.not_true,cond_false,Tre.aF,aR (by omega),if_pos hik,←Xp,hset]
  ·rw [show decide ((i:Int)=(k:Int))=false from decide_eq_false (by omega),Bool.not_false,cond_true,dN hx2,Tre.run_ite,if_pos (by omega),Tre.aA,if_neg hik]
   show cond (BH (x:Int) (c:Int)) _ _=_
   rw [Ib (by omega) (by omega)]
   have he:iD c r x=cond (x.testBit c) (x^^^r) x:=rfl
   rw [he]
   cases x.testBit c
   ·rw [cond_false,Tre.aF,aR (by omega),cond_false,←Xp,hset]
   ·rw [cond_true,dN hx2,dN hr2,dN hx2,Tre.aF,aR (by omega),nT (by omega) (by omega),Int.toNat_natCast,cond_true,←Xp])
  (by
  unfold oD
  exact dF)
 rw [this,←hL,apD (f:=iD c r) (g:=fun i x=>if i=k then x else iD c r x) (r:=r) (B:=B) hk (fun i x h=>if_neg h) (if_pos rfl)]
 rfl
theorem akg(orig:List Nat):∀(n c:Nat)(E:List (Nat×Nat))(R:List Nat),c+n=62→Inv orig c E R→E.length+R.length≤1048576→(∀x∈R,x<2 ^ 62)→(∀a∈E,a.2<2 ^ 62) →
  ∃(E' L:List Nat),aO jf ((E.length:Int),up (E.map (·.2)++R),(c:Int))=some ((E'.length:Int),up (E'++L))∧rM orig E':=by
 intro n
 induction n with
 |zero=>
  intro c E R hc hI _ hR _
  have:c=62:=hc
  subst this
  refine ⟨E.map (·.2),R,fO ?_,hI.done fun x hx=>aeh (hR x hx) (hI.low x hx)⟩
  unfold jf
  simp [Tre.aA,Tre.aF]
 |succ n ih=>
  intro c E R hc hI hl hR hEb
  have hcm:c<62:=by omega
  have hlen:(up (E.map (·.2)++R)).length=E.length+R.length:=by rw [wS];simp
  by_cases hR0:R=[]
  ·subst hR0
   refine ⟨E.map (·.2),[],fO ?_,hI.done fun x hx=>by cases hx⟩
   unfold jf
   simp [Tre.aA,Tre.aF]
  have hRl:0<R.length:=List.length_pos_iff.2 hR0
  have hstep:∀E2 R2,Inv orig (c+1) E2 R2→E2.length+R2.length≤1048576→(∀x∈R2,x<2 ^ 62)→(∀a∈E2,a.2<2 ^ 62)→(jf ((E.length:Int),up (E.map (·.2)++R),(c:Int))).run some=some (.inl ((E2.length:Int),up (E2.map (·.2)++R2),((c+1:Nat):Int))) →
    ∃(E' L:List Nat),aO jf ((E.length:Int),up (E.map (·.2)++R),(c:Int))=some ((E'.length:Int),up (E'++L))∧rM orig E':=by
   intro E2 R2 h1 h2 h3 h4 h5
   rw [mM h5]
   exact ih (c+1) E2 R2 (by omega) h1 h2 h3 h4
  have hsub:((up (E.map (·.2)++R)).drop E.length).take (((E.length+R.length:Nat):Int)-(E.length:Int)).toNat=up R:=by
   rw [show (((E.length+R.length:Nat):Int)-(E.length:Int)).toNat=R.length from by omega]
   unfold up
   rw [List.map_append,List.drop_append_of_le_length (by simp),List.drop_of_length_le (by simp),List.nil_append,List.take_of_length_le (by simp)]
  have hfind:aAX (up R) (c:Int)=some _:=jJ (by rw [wS];simp;omega)
  have hw:aI .i64 ((c:Int)+1)=((c+1:Nat):Int):=aR (by omega)
  have hdec:decide ((c:Int)<62)=true:=by simp;omega
  have hdec2:decide ((E.length:Int)<((E.length+R.length:Nat):Int))=true:=by simp;omega
  rcases yK (fun x=>BH x (c:Int)) (up R) 0 with ⟨h1,h2⟩|⟨j,x,h1,h2,h3⟩
  ·refine hstep E R (hI.skip fun x hx=>?_) hl hR hEb ?_
   ·have:=h2 (x:Int) (List.mem_map.2 ⟨x,hx,rfl⟩)
    have hxb:=hR x hx
    rwa [Ib (by omega) (by omega)] at this
   ·unfold jf
    dsimp only
    rw [hlen,Tre.aA,hdec,cond_true,Tre.aA,hdec2,cond_true,Tre.run_ite,if_pos (by omega),Int.toNat_natCast,hsub,ah (hfind.trans (by rw [h1])),Tre.aA]
    simp only [show decide ((-1:Int)<0)=true from rfl,cond_true,Tre.aF,hw]
  ·obtain ⟨r,hr1,rfl⟩:∃r:Nat,R[j]?=some r∧(r:Int)=x:=by
    simp only [up,List.getElem?_map,Option.map_eq_some_iff] at h1
    exact h1
   have hrm:r∈R:=List.mem_of_getElem? hr1
   have hrb:=hR r hrm
   rw [Ib (by omega) (by omega)] at h2
   rw [Nat.zero_add] at h3
   have hj:j<R.length:=(List.getElem?_eq_some_iff.1 hr1).1
   obtain ⟨y,R',rfl⟩:∃y R',R=y::R':=by
    cases R with
    |nil=>exact absurd rfl hR0
    |cons y R'=>exact ⟨y,R',rfl⟩
-- the rows behind the swap
   obtain ⟨B,hB,hB1,hB2,hBl⟩:∃B,((y::R').set 0 r).set j y=r::B∧(∀x∈B,x∈y::R')∧(∀x∈y::R',x=r∨x∈B)∧B.length=R'.length:=by
    cases j with
    |zero=>
     have hyr:y=r:=by simpa using hr1
     subst hyr
     exact ⟨R',by simp,fun x hx=>.tail _ hx,fun x hx=>by
      cases hx with
      |head=>exact .inl rfl
      |tail _ hx=>exact .inr hx,rfl⟩
    |succ j=>
     have hr1:R'[j]?=some r:=by simpa using hr1
     have hj':j<R'.length:=(List.getElem?_eq_some_iff.1 hr1).1
     refine ⟨R'.set j y,by simp,fun x hx=>?_,fun x hx=>?_,by simp⟩
     ·rcases List.mem_or_eq_of_mem_set hx with hx|rfl
      ·exact .tail _ hx
      ·exact .head _
     ·cases hx with
      |head=>exact .inr (List.mem_set hj' _)
      |tail _ hx=>
       obtain ⟨i,hi⟩:=List.getElem?_of_mem hx
       by_cases hij:j=i
       ·subst hij;rw [hr1] at hi;exact .inl (Option.some.inj hi).symm
       ·exact .inr (List.mem_of_getElem? (i:=i) (by rw [List.getElem?_set,if_neg hij,hi]))
   have hE2:((E.map fun a=>(a.1,iD c r a.2))++[(c,r)]).map (·.2)=(E.map (·.2)).map (iD c r)++[r]:=by simp [List.map_map,Function.comp_def]
   have hRB:(E.map (·.2)++r::B).length=E.length+(y::R').length:=by simp [hBl]
   have hall:∀x∈E.map (·.2)++r::B,x<2 ^ 62:=by
    intro x hx
    rcases List.mem_append.1 hx with hx|hx
    ·obtain ⟨a,ha,rfl⟩:=List.mem_map.1 hx;exact hEb a ha
    ·cases hx with
     |head=>exact hrb
     |tail _ hx=>exact hR x (hB1 x hx)
   refine hstep (E.map (fun a=>(a.1,iD c r a.2))++[(c,r)]) (B.map (iD c r)) (hI.step hrm h2 ?_ ?_) (by simp [hBl] at hl ⊢;omega) ?_ ?_ ?_
   ·intro z hz
    obtain ⟨x,hx,rfl⟩:=List.mem_map.1 hz
    exact .inr ⟨x,hB1 x hx,rfl⟩
   ·intro x hx
    rcases hB2 x hx with h|h
    ·exact .inl h
    ·exact .inr (List.mem_map.2 ⟨x,h,rfl⟩)
   ·intro z hz
    obtain ⟨x,hx,rfl⟩:=List.mem_map.1 hz
    exact abK hrb (hR x (hB1 x hx))
   ·intro a ha
    rcases List.mem_append.1 ha with ha|ha
    ·obtain ⟨b,hb,rfl⟩:=List.mem_map.1 ha
     exact abK hrb (hEb b hb)
    ·simp only [List.mem_singleton] at ha;subst ha;exact hrb
   ·have e1:=ake E.length c r (by omega) hrb (E.map (·.2)) B (by simp) hall (by rw [hRB];exact hl)
    have hkj:aI .i64 ((E.length:Int)+(j:Int))=((E.length+j:Nat):Int):=by rw [dP (by omega) (by omega)];omega
    have hat1:(up (E.map (·.2)++y::R'))[E.length+j]?=some (r:Int):=atE (by rw [List.getElem?_append_right (by simp)];simpa using hr1)
    have hat2:(up (E.map (·.2)++y::R'))[E.length]?=some (y:Int):=atE (by rw [List.getElem?_append_right (by simp)];simp)
    have hs1:(up (E.map (·.2)++y::R')).set E.length (r:Int)=up (E.map (·.2)++(y::R').set 0 r):=by
     rw [Xp,List.set_append_right _ _ (by simp)]
     simp
    have hs2:(up (E.map (·.2)++(y::R').set 0 r)).set (E.length+j) (y:Int)=up (E.map (·.2)++r::B):=by
     rw [Xp,List.set_append_right _ _ (by simp),←hB]
     simp
    have hat3:∃z,(up (E.map (·.2)++(y::R').set 0 r))[E.length+j]?=some z:=⟨_,List.getElem?_eq_getElem (by rw [wS];simp at hj ⊢;omega)⟩
    obtain ⟨z,hat3⟩:=hat3
    have hlen3:((up (E.map (·.2)++r::B)).length:Int)=((E.map (·.2)++r::B).length:Int):=by rw [wS]
    unfold jf
    dsimp only
    rw [hlen,Tre.aA,hdec,cond_true,Tre.aA,hdec2,cond_true,Tre.run_ite,if_pos (by omega),Int.toNat_natCast,hsub,ah (hfind.trans (by rw [h3])),Tre.aA]
    rw [show decide ((j:Int)<0)=false from by simp,cond_false,hkj,←hlen,dN hat1,apN hat2,apN hat2]
    rw [Int.toNat_natCast,hs1,apN hat3,hs2,hlen3,ah e1,Tre.aF,aR (by omega),hw,hE2]
    simp [List.append_assoc]
theorem akh(p0 y:List Int)(h:aq9 p0=some y):agH p0=some y:=by
 obtain ⟨hl,rfl⟩:=rY h
 obtain ⟨ns,rfl,hlen,hb,hn⟩:=afA hl
 obtain ⟨E,L,h1,h2⟩:=akg ns 62 0 [] ns (by omega) (Inv.start ns) (by simpa using hlen) hb (fun a ha=>by cases ha)
 unfold agH ae5
 have e1:fT (up ns)=some (up ns):=FH (by rw [wS];exact hlen)
 have h1:aO jf (0,up ns,0)=some ((E.length:Int),up (E++L)):=h1
 rw [ah e1,ah h1,Tre.run_ite,if_pos (by rw [wS];simp;omega),Tre.aF]
 unfold Tm
 rw [hn,auk h2]
 simp [up]
def zi:Env:=⟨tau,[(65,kJ),(99,aCM)],[]⟩
def Lh:Code:=(Tryz.f64.body).getD .skip
def Ou (vD:Int) (KR:Int) (zV:Int):(Int×(List Int))→St:=fun x=>bP [(0,(.ref (2,0) [])),(3,(.i vD)),(4,(.ptr (6,0) [])),(45,(.i KR)),(46,(.i x.1))] [((2,0),some ⟨false,.il,.own,x.2⟩),((6,0),some ⟨true,.n,.own,zV⟩)]
def Lj (vD:Int) (_:Int) (zV:Int):(List Int)→Ex×St:=fun x=>(.exit 2,bP [(0,(.ref (2,0) [])),(3,(.i vD)),(4,(.ptr (6,0) []))] [((2,0),some ⟨false,.il,.own,x⟩),((6,0),some ⟨true,.n,.own,zV⟩)])
def ah0 (s:St):Tre (Ex×St):=
 dI (2,0) [] (s.tmps 0)<|
 ay true .n (s.tmps 3) fun d3=>
 eF (6,0) [] (s.tmps 4)<|
 ay true .n (s.tmps 45) fun d6=>
 ay true .n (s.tmps 46) fun d8=>
 bg false .il (s.roots (2,0)) fun m10 d11=>
 asM .own m10<|
 bg true .n (s.roots (6,0)) fun m13 d14=>
 asM .own m13<|
 .mat (aO (oD d3 d6 d14) (d8,d11)) fun x=>.ret (Lj d3 d6 d14 x)
def xU:bq:=⟨([0,3,4,45,46],[(2,0),(6,0)]),([0,3,4],[(2,0),(6,0)]),ah0⟩
def Sc:(Int×(List Int)×Int)→St:=fun x=>bP [(0,(.ref (2,0) [])),(3,(.i x.1)),(4,(.ptr (6,0) []))] [((2,0),some ⟨false,.il,.own,x.2.1⟩),((6,0),some ⟨true,.n,.own,x.2.2⟩)]
def Ov:(Int×(List Int))→Ex×St:=fun x=>(.exit 0,bP [(0,(.ref (2,0) [])),(3,(.i x.1))] [((2,0),some ⟨false,.il,.own,x.2⟩)])
def akf (s:St):Tre (Ex×St):=
 dI (2,0) [] (s.tmps 0)<|
 ay true .n (s.tmps 3) fun d3=>
 eF (6,0) [] (s.tmps 4)<|
 bg false .il (s.roots (2,0)) fun m6 d7=>
 asM .own m6<|
 bg true .n (s.roots (6,0)) fun m9 d10=>
 asM .own m9<|
 .mat (aO jf (d3,d7,d10)) fun x=>.ret (Ov x)
def Aw:bq:=⟨([0,3,4],[(2,0),(6,0)]),([0,3],[(2,0)]),akf⟩
def EF:List (Nat×bq):=[(10,xU),(4,Aw)]
theorem aat:∀(vD KR zV:Int)(x:(Int×(List Int)))(c:St→Option (Ex×St)),den zi EF (aT Lh 1) (Ou vD KR zV x) (bR xU.kp xU.kx c)=(oD vD KR zV x).run (bS (Ou vD KR zV) (Lj vD KR zV) c):=fun _ _ _ _ _=>by
 kernel_rfl
theorem ae6:bQ zi EF (aT Lh 1) xU:=bX fun _ _ _=>fI<|aJ fun _=>jD<|aJ fun _=>aJ fun _=>bV fun _ _=>tM<|bV fun _ _=>tM<|fun h _ e12 _ e9 e7 e5 e4 e2 e1=>bO (aat _ _ _) h (by subst_vars;exact aP rfl rfl ⟨e1,e2,e4,e5,e7,trivial⟩ ⟨e9,e12,trivial⟩)
theorem ab9:∀(x:(Int×(List Int)×Int))(c:St→Option (Ex×St)),den zi EF (aT Lh 0) (Sc x) (bR Aw.kp Aw.kx c)=(jf x).run (bS (Sc) (Ov) c):=fun _ _=>by
 kernel_rfl
theorem ah1:bQ zi EF (aT Lh 0) Aw:=bX fun _ _ _=>fI<|aJ fun _=>jD<|bV fun _ _=>tM<|bV fun _ _=>tM<|fun h _ e8 _ e5 e4 e2 e1=>bO ab9 h (by subst_vars;exact aP rfl rfl ⟨e1,e2,e4,trivial⟩ ⟨e5,e8,trivial⟩)
def arA:FnI:=fnI Tryz.f64 EF
def YV (_:Bool) (_:List Int):(List Int)→au:=fun r=>⟨(.ref (1,0) []),[],[⟨false,.il,.own,r⟩]⟩
theorem ao3:∀(zp0:Bool)(p0:List Int),bJ zi arA ⟨[(.imm zp0 .il p0)],[]⟩=(ae5 p0).run fun r=>some (YV zp0 p0 r):=fun _ _=>by kernel_rfl
def arz (av:List AV) (rs:List Root):Tre au:=
 aC av fun a0_ av0=>
 aM av0<|
 aM rs<|
 aZ .il a0_ fun z2 d1=>
 .mat (aq9 d1) fun r=>.ret (YV z2 d1 r)
def Li:Ctr:=dD [] arz
theorem QG:Contract Tryz.prog .none 64 Li:=aD (V:=zi) aW (ak nk avH (ak aDQ avJ aH)) Tryz.func64 (bF (n:=2) fun k hk=>by
 match k,hk with
 |0,_=>exact bH (id:=4) ah1
 |1,_=>exact bH (id:=10) ae6) fun _ _ _=>aK fun _ _=>bf<|bf<|bY fun _ _=>fun h=>by intros;subst_vars;exact qE (ao3 _ _) (akh _) h
def gZ (bL:List Int) (cZ:List Int) (dU:Int):Int→Tre (Int ⊕ (Bool ⊕ Unit)):=fun s4=>
 .cond (decide (s4<dU))
  (.ite (0≤s4∧s4<(bL.length:Int))<|
  .mat (bL[s4.toNat]?) fun x1=>
  .ite (0≤s4∧s4<(cZ.length:Int))<|
  .mat (cZ[s4.toNat]?) fun x2=>
  .cond (!decide (x1=x2))
   (.ret (.inr (.inl false)))
   (.ret (.inl (aI .i64 (s4+1)))))
  (.ret (.inr (.inr ())))
def yS (p0:List Int) (p1:List Int):Tre Bool:=
 .cond (!decide ((p0.length:Int)=(p1.length:Int)))
  (.ret false)
  (.mat (aO (gZ p0 p1 (p0.length:Int)) 0) fun l3=>
  .alt l3
   (fun a4=>
    .ret a4)
   (fun _=>
    .ret true))
def Fh (p0:List Int) (p1:List Int):Option Bool:=(yS p0 p1).run some
theorem Pz(p0 p1:List Int)(y:Bool)(h:ahu p0 p1=some y):Fh p0 p1=some y:=by
 obtain ⟨hok,rfl⟩:=rY h
 simp only [Bool.and_eq_true,decide_eq_true_eq] at hok
 unfold Fh yS
 rw [Tre.aA]
 by_cases hl:p0.length=p1.length
 ·rw [decide_eq_true (show (p0.length:Int)=(p1.length:Int) by omega),Bool.not_true,cond_false,Tre.kg,vC (xs:=p0) (sameAt p1) (.inr ()),ajU p1 p0 0 (by simpa using hl)]
  ·rw [List.drop_zero]
   cases decide (p0=p1)<;>rfl
  ·intro i x hx
   have hi:i<p0.length:=(List.getElem?_eq_some_iff.1 hx).1
   have hy:p1[i]?=some p1[i]:=List.getElem?_eq_getElem (by omega)
   unfold gZ
   unfold sameAt
   rw [dX hx,dN hy,Tre.aA,hy]
   dsimp only
   cases decide (x=p1[i])
   ·rfl
   ·simp only [Bool.not_true,cond_true,cond_false,Tre.aF,aR (show i<4611686018427387904 by omega)]
  ·unfold gZ
   exact dF
 ·rw [decide_eq_false (show ¬(p0.length:Int)=(p1.length:Int) by omega),Bool.not_false,cond_true,Tre.aF,decide_eq_false (fun h=>hl (by rw [h]))]
def ou:Env:=⟨tau,[],[]⟩
def Fj:Code:=(Tryz.f110.body).getD .skip
def oH (kK:Bool) (F9:Bool) (bL:List Int) (cZ:List Int) (dU:Int):Int→St:=fun x=>bP [(0,(.imm kK .il bL)),(1,(.imm F9 .il cZ)),(12,(.i dU)),(13,(.i x))] []
def jF (_:Bool) (_:Bool) (_:List Int) (_:List Int) (_:Int):(Bool ⊕ Unit)→Ex×St
 |.inl x=>(.ret,bP [(4,(.imm true .bool x))] [])
 |.inr _=>(.exit 0,bP [(4,.dead)] [])
def zN (s:St):Tre (Ex×St):=
 aZ .il (s.tmps 0) fun z3 d2=>
 aZ .il (s.tmps 1) fun z6 d5=>
 ay true .n (s.tmps 12) fun d8=>
 ay true .n (s.tmps 13) fun d10=>
 .mat (aO (gZ d2 d5 d8) d10) fun x=>.alt x (fun a0=>.ret (jF z3 z6 d2 d5 d8 (.inl a0))) (fun b0=>.ret (jF z3 z6 d2 d5 d8 (.inr b0)))
def iO:bq:=⟨([0,1,12,13],[]),([4],[]),zN⟩
def vg:List (Nat×bq):=[(4,iO)]
theorem Kh:∀(kK F9:Bool)(bL cZ:List Int)(dU x:Int)(c:St→Option (Ex×St)),den ou vg (aT Fj 0) (oH kK F9 bL cZ dU x) (bR iO.kp iO.kx c)=(gZ bL cZ dU x).run (bS (oH kK F9 bL cZ dU) (jF kK F9 bL cZ dU) c):=fun _ _ _ _ _ _ _=>by
 kernel_rfl
theorem Nw:bQ ou vg (aT Fj 0) iO:=fK fun s e s' h=>by
 generalize hs:restrict iO.kp s=s1 at h
 have h:(zN s1).run some=some (e,s'):=h
 obtain ⟨z3,d2,e1,h_0⟩:=fA h
 obtain ⟨z6,d5,e4,h_1⟩:=fA h_0
 obtain ⟨d8,e7,h_2⟩:=cu h_1
 obtain ⟨d10,e9,h_3⟩:=cu h_2
 obtain ⟨y,hy,hz⟩:=gN h_3
 refine ⟨_,_,oH z3 z6 d2 d5 d8,jF z3 z6 d2 d5 d8,gZ d2 d5 d8,d10,y,?_,hy,?_,Kh z3 z6 d2 d5 d8⟩
 ·subst hs;exact aP (T:=[(0,(.imm z3 .il d2)),(1,(.imm z6 .il d5)),(12,(.i d8)),(13,(.i d10))]) (U:=[]) rfl rfl ⟨e1,e4,e7,e9,trivial⟩ trivial
 ·rcases y with x|x<;>exact Option.some.inj hz
def Xm:FnI:=fnI Tryz.f110 vg
def Bw (_:Bool) (_:Bool) (_:List Int) (_:List Int):Bool→au:=fun r=>⟨(.imm true .bool r),[],[]⟩
theorem Ur:∀(zp0 zp1:Bool)(p0 p1:List Int),bJ ou Xm ⟨[(.imm zp0 .il p0),(.imm zp1 .il p1)],[]⟩=(yS p0 p1).run fun r=>some (Bw zp0 zp1 p0 p1 r):=fun _ _ _ _=>by kernel_rfl
def Xl (av:List AV) (rs:List Root):Tre au:=
 aC av fun a0_ av0=>
 aC av0 fun a1_ av1=>
 aM av1<|
 aM rs<|
 aZ .il a0_ fun z2 d1=>
 aZ .il a1_ fun z4 d3=>
 .mat (ahu d1 d3) fun r=>.ret (Bw z2 z4 d1 d3 r)
def Fp:Ctr:=dD [] Xl
theorem Us:Contract Tryz.prog .none 110 Fp:=aD (V:=ou) aW aH Tryz.func110 (bF (n:=1) fun k hk=>by
 match k,hk with
 |0,_=>exact bH (id:=4) Nw) fun _ _ _=>aK fun _ _=>aK fun _ _=>bf<|bf<|bY fun _ _=>bY fun _ _=>fun h=>by intros;subst_vars;exact qE (Ur _ _ _ _) (Pz _ _) h
def aeZ (p0:bB):Tre Bool:=
 .mat (xR p0) fun r1=>
 .cond r1
  (.mat (aq9 p0.2.1) fun r2=>
  .mat (ahu r2 p0.2.1) fun r3=>
  .ret r3)
  (.ret false)
def Le (p0:bB):Option Bool:=(aeZ p0).run some
-- more
theorem ajL{c:Nat}{ns:List Nat}(hc:c≤10)(hl:ns.length≤10)(hn:∀n∈ns,n<2 ^ c):(Tm (up ns)).length≤ns.length:=by
 have hi:=auj (b:=62) (by omega) (XJ (c:=c) (b:=62) (ns:=ns) (by omega) (by omega) hn)
 rw [up_toNat] at hi
 rw [arb,up_toNat]
 exact hi.le
theorem aoX(m:Int×List Int×Unit)(hl:m.2.1.length≤1048576):Le m=some (ai2 m):=by
 unfold Le aeZ
 rw [ah (ae1 m hl),Tre.aA]
 unfold ai2
 cases h:apH m
 ·rfl
 obtain ⟨c,ns,rfl,h1,h2,h3,h4⟩:=apI h
 dsimp only at hl ⊢
 rw [cond_true,ah (show aq9 (up ns)=some _ from jJ (XJ (c:=c) (by omega) (by omega) h4))]
 rw [ah (show ahu (Tm (up ns)) (up ns)=some _ from jJ (by
  have:=ajL h2 h3 h4
  simp only [Bool.and_eq_true,decide_eq_true_eq,wS];omega))]
 rfl
def agE:Env:=⟨tau,[(109,Sb),(64,Li),(110,Fp)],[]⟩
def arx:FnI:=fnI Tryz.f74 []
def YT (_:Bool) (_:bB):Bool→au:=fun r=>⟨(.imm true .bool r),[],[]⟩
theorem aoW:∀(zp0:Bool)(p0:bB),bJ agE arx ⟨[(.imm zp0 bZ p0)],[]⟩=(aeZ p0).run fun r=>some (YT zp0 p0 r):=fun _ _=>by kernel_rfl
def arw (av:List AV) (rs:List Root):Tre au:=
 aC av fun a0_ av0=>
 aM av0<|
 aM rs<|
 aZ bZ a0_ fun z2 d1=>
 .mat (Le d1) fun r=>.ret (YT z2 d1 r)
def agF:Ctr:=dD [] arw
theorem aoY:Contract Tryz.prog .none 74 agF:=aD (V:=agE) aW (ak ae2 aC1 (ak QG ay9 (ak Us aC2 aH))) Tryz.func74 bI fun _ _ _=>aK fun _ _=>bf<|bf<|bY fun _ _=>fun h=>by intros;subst_vars;exact bn (aoW _ _) h
def FR (p0:bB):Tre Bool:=
 .mat (Bc p0) fun r1=>
 .cond r1
  (.mat (axe p0.1 p0.2.1) fun r2=>
  .mat (ahu r2 p0.2.1) fun r3=>
  .ret r3)
  (.ret false)
def uh (p0:bB):Option Bool:=(FR p0).run some
-- more
theorem aD6{m:Int}(h:1≤m∧m≤10):aI .i64 (Ua .i64 1 (aI .u64 m)-1)=aAv m:=by
 rw [afb (by omega) (by omega)];rfl
theorem aiG(m:Int×List Int×Unit):Bc m=some (apH m):=by
 unfold Bc Rp apH
 rw [Tre.aA]
 cases h1:inR m.1 1 10
 ·rfl
 rw [Bool.not_true,cond_false,Tre.aA,Bool.true_and]
 rw [gV] at h1
 by_cases h2:(m.2.1.length:Int)>10
 ·rw [decide_eq_true h2,decide_eq_false (show ¬m.2.1.length≤10 by omega)];rfl
 rw [decide_eq_false h2,cond_false,decide_eq_true (show m.2.1.length≤10 by omega),Bool.true_and]
 rw [Tre.kg,vC (xs:=m.2.1) (fun _ x=>cond (inP m.1 x) none (some (.inl false))) (.inr ())]
 ·rw [axi,Option.bind_some]
  cases m.2.1.all (inP m.1)<;>rfl
 ·intro i x hx
  have hi:i<m.2.1.length:=(List.getElem?_eq_some_iff.1 hx).1
  unfold nC
  rw [dX hx,Tre.run_ite,if_pos (Oz _)]
  dsimp only
  rw [aD6 h1,Tre.aA,show inR x 0 (aAv m.1)=inP m.1 x from rfl]
  cases inP m.1 x
  ·rfl
  ·simp only [Bool.not_true,cond_false,cond_true,Tre.aF,aR (show i<4611686018427387904 by omega)]
 ·unfold nC
  exact dF
theorem aa8(m:Int×List Int×Unit):uh m=some (ai2 m):=by
 unfold uh FR
 rw [ah (aiG m),Tre.aA]
 unfold ai2
 cases h:apH m
 ·rfl
 obtain ⟨c,ns,rfl,h1,h2,h3,h4⟩:=apI h
 dsimp only
 rw [cond_true,ah (show axe (c:Int) (up ns)=some _ from jJ (by
  rw [Bool.and_eq_true,gV]
  exact ⟨by omega,by rw [Int.toNat_natCast];exact XJ (c:=c) (Nat.le_refl c) (by omega) h4⟩))]
 rw [ah (show ahu (Tm (up ns)) (up ns)=some _ from jJ (by
  have:=ajL h2 h3 h4
  simp only [Bool.and_eq_true,decide_eq_true_eq,wS];omega))]
 rfl
def Me:Env:=⟨tau,[(104,WR),(80,JG),(105,ag3)],[]⟩
def adF:FnI:=fnI Tryz.f71 []
def GD (zp0:Bool) (p0:bB):Bool→au:=fun r=>⟨(.imm true .bool r),[⟨true,bZ,(.imm zp0),p0⟩],[]⟩
theorem aa7:∀(zp0:Bool)(p0:bB),bJ Me adF ⟨[(.ptr (0,0) [])],[⟨true,bZ,(.imm zp0),p0⟩]⟩=(FR p0).run fun r=>some (GD zp0 p0 r):=fun _ _=>by kernel_rfl
def adE (av:List AV) (rs:List Root):Tre au:=
 aC av fun a0_ av0=>
 aM av0<|
 aC rs fun r0_ rs0=>
 aM rs0<|
 eF (0,0) [] a0_<|
 wV true bZ r0_ fun m1 d2=>
 lu m1 fun z3=>
 .mat (uh d2) fun r=>.ret (GD z3 d2 r)
def Mf:Ctr:=dD [] adE
theorem aa9:Contract Tryz.prog .none 71 Mf:=aD (V:=Me) aW (ak aiH aCX (ak SI aCo (ak apV aCY aH))) Tryz.func71 bI fun _ _ _=>aK fun _ _=>bf<|aK fun _ _=>bf<|jD<|tRt fun _ _=>BA fun _=>fun h=>by intros;subst_vars;exact bn (aa7 _ _) h
-- shared
def aEc:Nat→Nat→Nat→Nat
 |0,_,_=>0
 |n+1,a,b=>Nat.xor (bif Nat.beq (b%2) 1 then a else 0) (aEc n (2*a) (b/2))
def aCO:Nat→Nat→Nat→Nat
 |0,c,_=>c
 |n+1,c,p=>bif Nat.ble (Nat.log2 p) (Nat.log2 c) then aCO n (Nat.xor c (Nat.shiftLeft p (Nat.log2 c-Nat.log2 p))) p else c
def mulN(p a b:Nat):Nat:=aCO 6 (aEc 6 a b) p
def gJ(f:TF3)(a b:Int):Int:=((mulN f.2.1.toNat a.toNat b.toNat:Nat):Int)
def inF(f:TF3)(a:Int):Prop:=0≤a∧a<((2 ^ f.1.toNat:Nat):Int)
def iW:List (Nat×Nat):=[(1,2),(1,3),(2,7),(3,11),(3,13),(4,19),(4,25),(4,31),(5,37),(5,41),(5,47),(5,55),(5,59),(5,61)]
def zT(F:TF3→Int→Int→Option Int)(G:Nat→Nat→Nat→Nat)(d p:Nat):Bool:=(List.range (2 ^ d)).all fun a=>(List.range (2 ^ d)).all fun b=>F ((d:Int),(p:Int),()) (a:Int) (b:Int) == some ((G p a b:Nat):Int)
theorem Cx{f:TF3}(h:aN f=true):∃d p:Nat,(d,p)∈iW∧f=((d:Int),(p:Int),()):=by
 have h1:=UD h
 obtain ⟨a,b,⟨⟩⟩:=f
 have key:∀x∈ajS,∃q∈iW,x=((q.1:Int),(q.2:Int)):=by decide
 obtain ⟨q,h2,h3⟩:=key _ h1
 simp only [Prod.mk.injEq] at h3
 exact ⟨q.1,q.2,h2,by rw [h3.1,h3.2]⟩
theorem aAB{F:TF3→Int→Int→Option Int}{G:Nat→Nat→Nat→Nat}(h:∀q∈iW,zT F G q.1 q.2=true){f:TF3}(hf:aN f=true){a b:Int}(ha:inF f a)(hb:inF f b):F f a b=some ((G f.2.1.toNat a.toNat b.toNat:Nat):Int):=by
 obtain ⟨d,p,hq,rfl⟩:=Cx hf
 obtain ⟨ha0,ha1⟩:=ha
 obtain ⟨hb0,hb1⟩:=hb
 simp only [Int.toNat_natCast] at ha1 hb1
 obtain ⟨m,rfl⟩:=Int.eq_ofNat_of_zero_le ha0
 obtain ⟨n,rfl⟩:=Int.eq_ofNat_of_zero_le hb0
 have h1:=List.all_eq_true.1 (List.all_eq_true.1 (h _ hq) m (List.mem_range.2 (by exact_mod_cast ha1))) n (List.mem_range.2 (by exact_mod_cast hb1))
 exact eq_of_beq h1
-- shared
def aFj(p a:Nat):Nat→Nat
 |0=>1
 |n+1=>mulN p (aFj p a n) a
def sU(d p a:Nat):Nat:=aFj p a (2 ^ d-2)
def zO(f:TF3)(a:Int):Int:=((sU f.1.toNat f.2.1.toNat a.toNat:Nat):Int)
def zS(F:TF3→Int→Option Int)(G:Nat→Nat→Nat→Nat)(d p:Nat):Bool:=(List.range (2 ^ d)).all fun a=>F ((d:Int),(p:Int),()) (a:Int) == some ((G d p a:Nat):Int)
theorem azY{F:TF3→Int→Option Int}{G:Nat→Nat→Nat→Nat}(h:∀q∈iW,zS F G q.1 q.2=true){f:TF3}(hf:aN f=true){a:Int}(ha:inF f a):F f a=some ((G f.1.toNat f.2.1.toNat a.toNat:Nat):Int):=by
 obtain ⟨d,p,hq,rfl⟩:=Cx hf
 obtain ⟨ha0,ha1⟩:=ha
 simp only [Int.toNat_natCast] at ha1
 obtain ⟨m,rfl⟩:=Int.eq_ofNat_of_zero_le ha0
 have h1:=List.all_eq_true.1 (h _ hq) m (List.mem_range.2 (by exact_mod_cast ha1))
 exact eq_of_beq h1
def azK(d p:Nat):Bool:=(List.range (2 ^ d)).all fun a=>(List.range (2 ^ d)).all fun b=>Nat.blt (mulN p a b) (2 ^ d)&&Nat.beq (mulN p a b) (mulN p b a)
def azy(d p:Nat):Bool:=(List.range (2 ^ d)).all fun a=>Nat.blt (sU d p a) (2 ^ d)&&(Nat.beq a 0||Nat.beq (mulN p a (sU d p a)) 1)
theorem acR:(iW.all fun q=>azK q.1 q.2)=true:=by kernel_rfl
theorem acw:(iW.all fun q=>azy q.1 q.2)=true:=by kernel_rfl
theorem CZ{f:TF3}(hf:aN f=true){a b:Int}(ha:inF f a)(hb:inF f b):inF f (gJ f a b)∧gJ f a b=gJ f b a:=by
 obtain ⟨d,p,hq,rfl⟩:=Cx hf
 obtain ⟨ha0,ha1⟩:=ha
 obtain ⟨hb0,hb1⟩:=hb
 simp only [Int.toNat_natCast] at ha1 hb1
 obtain ⟨m,rfl⟩:=Int.eq_ofNat_of_zero_le ha0
 obtain ⟨n,rfl⟩:=Int.eq_ofNat_of_zero_le hb0
 have h0:=List.all_eq_true.1 acR _ hq
 have h1:=List.all_eq_true.1 (List.all_eq_true.1 h0 m (List.mem_range.2 (by exact_mod_cast ha1))) n (List.mem_range.2 (by exact_mod_cast hb1))
 rw [Bool.and_eq_true] at h1
 have h2:mulN p m n<2 ^ d:=Nat.le_of_ble_eq_true h1.1
 have h3:mulN p m n=mulN p n m:=Nat.eq_of_beq_eq_true h1.2
 refine ⟨⟨Int.natCast_nonneg _,?_⟩,?_⟩
 ·show ((mulN p m n:Nat):Int)<_
  simp only [Int.toNat_natCast]
  exact_mod_cast h2
 ·show ((mulN p m n:Nat):Int)=((mulN p n m:Nat):Int)
  rw [h3]
theorem uO{f:TF3}(hf:aN f=true){a:Int}(ha:inF f a):inF f (zO f a)∧(a≠0→gJ f a (zO f a)=1):=by
 obtain ⟨d,p,hq,rfl⟩:=Cx hf
 obtain ⟨ha0,ha1⟩:=ha
 simp only [Int.toNat_natCast] at ha1
 obtain ⟨m,rfl⟩:=Int.eq_ofNat_of_zero_le ha0
 have h0:=List.all_eq_true.1 acw _ hq
 have h1:=List.all_eq_true.1 h0 m (List.mem_range.2 (by exact_mod_cast ha1))
 rw [Bool.and_eq_true,Bool.or_eq_true] at h1
 have h2:sU d p m<2 ^ d:=Nat.le_of_ble_eq_true h1.1
 refine ⟨⟨Int.natCast_nonneg _,?_⟩,fun hne=>?_⟩
 ·show ((sU d p m:Nat):Int)<_
  simp only [Int.toNat_natCast]
  exact_mod_cast h2
 ·rcases h1.2 with h|h
  ·exact absurd (by rw [Nat.eq_of_beq_eq_true h];rfl) hne
  ·show ((mulN p m (sU d p m):Nat):Int)=1
   rw [Nat.eq_of_beq_eq_true h];rfl
-- shared
def ael(f:TF3)(u w:List Int)(x:Int):List Int:=(u.zip w).map fun p=>jw .i64 p.1 (gJ f p.2 x)
theorem aeF{α β γ:Type}(g:α→γ)(fin:List γ→β):∀(l:List α)(i:Nat)(acc:List γ),qp (fun _ acc x=>(.inl (acc++[g x]):List γ ⊕ β)) fin i acc l=fin (acc++l.map g):=by
 intro l
 induction l with
 |nil=>intro i acc;simp only [qp,List.map_nil,List.append_nil]
 |cons y l ih=>intro i acc;simp only [qp];rw [ih];simp
-- shared
theorem Xx{f:TF3}(hf:aN f=true):1≤f.1.toNat∧f.1.toNat≤5:=by
 obtain ⟨d,p,hq,rfl⟩:=Cx hf
 have:∀q∈iW,1≤q.1∧q.1≤5:=by decide
 exact this _ hq
theorem DK{f:TF3}(hf:aN f=true){a:Int}(h:inF f a):∃n:Nat,a=(n:Int)∧n<2 ^ f.1.toNat∧n<2 ^ 63:=by
 obtain ⟨h0,h1⟩:=h
 have hd:=(Xx hf).2
 have hp:2 ^ f.1.toNat≤2 ^ 5:=Nat.pow_le_pow_right (by omega) hd
 refine ⟨a.toNat,by omega,by omega,by omega⟩
theorem gM{f:TF3}:inF f 0:=⟨Int.le_refl 0,by exact_mod_cast Nat.two_pow_pos _⟩
theorem apb{f:TF3}(hf:aN f=true):inF f 1:=by
 have:2 ^ 1≤2 ^ f.1.toNat:=Nat.pow_le_pow_right (by omega) (Xx hf).1
 exact ⟨by omega,by omega⟩
theorem Ls{f:TF3}(hf:aN f=true){a b:Int}(ha:inF f a)(hb:inF f b):inF f (jw .i64 a b):=by
 obtain ⟨m,rfl,hm,hm2⟩:=DK hf ha
 obtain ⟨n,rfl,hn,hn2⟩:=DK hf hb
 rw [nT hm2 hn2]
 exact ⟨Int.natCast_nonneg _,by exact_mod_cast Nat.xor_lt_two_pow hm hn⟩
theorem qo{f:TF3}(hf:aN f=true){a:Int}(ha:inF f a):jw .i64 0 a=a:=by
 obtain ⟨m,rfl,hm,hm2⟩:=DK hf ha
 have:=nT (a:=0) (b:=m) (by omega) hm2
 rw [show ((0:Nat):Int)=0 from rfl] at this
 rw [this,Nat.zero_xor]
def GR(f:TF3)(n:Nat)(L:List (List Int)):Prop:=∀r∈L,r.length=n∧∀y∈r,inF f y
def C8(c:Nat)(r:List Int):Bool:=match r[c]? with
 |some x=>!decide (x=0)
 |none=>false
def oz(f:TF3)(c k:Nat)(own:List Int)(i:Nat)(r:List Int):List Int:=match r[c]? with
 |some x=>bif decide (i=k)||decide (x=0) then r else (r.zip own).map fun p=>jw .i64 p.1 (gJ f x p.2)
 |none=>r
def abx(f:TF3)(c:Nat)(row:List Int):List Int:=match row[c]? with
 |some x=>row.map fun y=>gJ f y (zO f x)
 |none=>row
def Ub(f:TF3)(c k a:Nat)(L:List (List Int)):List (List Int):=match L[k]?,L[a]? with
 |some row,some r0=>(L.set k r0).set a (abx f c row)
 |_,_=>L
def Fv(f:TF3)(c a:Nat)(L:List (List Int)):List (List Int):=match L[a]? with
 |some own=>L.mapIdx (oz f c a own)
 |none=>L
def iV(f:TF3)(c:Nat)(s:Nat×List (List Int)):Nat×List (List Int):=
 bif decide (ny (C8 c) s.1 (s.2.drop s.1)<0) then s else (s.1+1,Fv f c s.1 (Ub f c (ny (C8 c) s.1 (s.2.drop s.1)).toNat s.1 s.2))
def gT(f:TF3):Nat→Nat→Nat×List (List Int)→Nat×List (List Int)
 |_,0,s=>s
 |c,m+1,s=>gT f (c+1) m (iV f c s)
def D9(f:TF3)(n:Nat)(L:List (List Int)):List (List Int):=(gT f 0 n (0,L)).2.take (gT f 0 n (0,L)).1
theorem apG{c:Nat}{r:List Int}(h:C8 c r=true):∃x,r[c]?=some x∧x≠0:=by
 unfold C8 at h
 split at h
 ·exact ⟨_,by assumption,by simpa using h⟩
 ·cases h
theorem D5{f:TF3}{n:Nat}{L:List (List Int)}(h:GR f n L){i:Nat}{r:List Int}(hi:L[i]?=some r):r.length=n∧∀y∈r,inF f y:=h r (List.mem_of_getElem? hi)
theorem ays{f:TF3}{n:Nat}{L:List (List Int)}(h:GR f n L){i:Nat}{r:List Int}(hr:r.length=n∧∀y∈r,inF f y):GR f n (L.set i r):=by
 intro x hx
 rcases List.mem_or_eq_of_mem_set hx with hx|rfl
 ·exact h x hx
 ·exact hr
theorem ax8{f:TF3}(hf:aN f=true){n c:Nat}{r:List Int}(h:r.length=n∧∀y∈r,inF f y):(abx f c r).length=n∧∀y∈abx f c r,inF f y:=by
 unfold abx
 split
 ·rename_i x hx
  refine ⟨by simpa using h.1,fun y hy=>?_⟩
  obtain ⟨z,hz,rfl⟩:=List.mem_map.1 hy
  exact (CZ hf (h.2 z hz) (uO hf (h.2 x (List.mem_of_getElem? hx))).1).1
 ·exact h
theorem awX{f:TF3}(hf:aN f=true){n c k i:Nat}{own r:List Int}(ho:own.length=n∧∀y∈own,inF f y)(h:r.length=n∧∀y∈r,inF f y):(oz f c k own i r).length=n∧∀y∈oz f c k own i r,inF f y:=by
 unfold oz
 split
 ·rename_i x hx
  cases decide (i=k)||decide (x=0)
  ·rw [cond_false]
   refine ⟨by simp [h.1,ho.1],fun y hy=>?_⟩
   obtain ⟨p,hp,rfl⟩:=List.mem_map.1 hy
   have h1:=List.of_mem_zip (a:=p.1) (b:=p.2) hp
   exact Ls hf (h.2 _ h1.1) (CZ hf (h.2 x (List.mem_of_getElem? hx)) (ho.2 _ h1.2)).1
  ·exact h
 ·exact h
theorem aje{f:TF3}(hf:aN f=true){n c k a:Nat}{L:List (List Int)}(h:GR f n L):GR f n (Ub f c k a L)∧(Ub f c k a L).length=L.length:=by
 unfold Ub
 split
 ·rename_i row r0 h1 h2
  exact ⟨ays (ays h (D5 h h2)) (ax8 hf (D5 h h1)),by simp⟩
 ·exact ⟨h,rfl⟩
theorem anL{f:TF3}(hf:aN f=true){n c a:Nat}{L:List (List Int)}(h:GR f n L):GR f n (Fv f c a L)∧(Fv f c a L).length=L.length:=by
 unfold Fv
 split
 ·rename_i own h1
  refine ⟨fun r hr=>?_,by simp⟩
  obtain ⟨i,hi,rfl⟩:=List.mem_mapIdx.1 hr
  exact awX hf (D5 h h1) (h _ (List.getElem_mem hi))
 ·exact ⟨h,rfl⟩
theorem Ip{f:TF3}(hf:aN f=true){n c:Nat}{s:Nat×List (List Int)}(h:GR f n s.2)(ha:s.1≤s.2.length):GR f n (iV f c s).2∧(iV f c s).2.length=s.2.length∧(iV f c s).1≤s.2.length:=by
 unfold iV
 rcases yK (C8 c) (s.2.drop s.1) s.1 with ⟨h1,_⟩|⟨k,x,h1,_,h3⟩
 ·rw [h1];exact ⟨h,rfl,ha⟩
 ·rw [h3,decide_eq_false (by omega),cond_false]
  have hlt:=(List.getElem?_eq_some_iff.1 h1).1
  rw [List.length_drop] at hlt
  have hp:=aje (c:=c) (k:=((s.1+k:Nat):Int).toNat) (a:=s.1) hf h
  have hc:=anL (c:=c) (a:=s.1) hf hp.1
  exact ⟨hc.1,by rw [hc.2,hp.2],by show s.1+1≤_;omega⟩
theorem P5{f:TF3}(hf:aN f=true){n:Nat}:∀(m c:Nat)(s:Nat×List (List Int)),GR f n s.2→s.1≤s.2.length→GR f n (gT f c m s).2∧(gT f c m s).2.length=s.2.length∧(gT f c m s).1≤s.2.length:=by
 intro m
 induction m with
 |zero=>intro c s h ha;exact ⟨h,rfl,ha⟩
 |succ m ih=>
  intro c s h ha
  have h1:=Ip (c:=c) hf h ha
  have h2:=ih (c+1) _ h1.1 (by rw [h1.2.1];exact h1.2.2)
  rw [h1.2.1] at h2
  exact h2
theorem aAS{f:TF3}(hf:aN f=true){n m:Nat}{L:List (List Int)}(h:GR f n L):GR f n (D9 f m L):=fun r hr=>(P5 hf m 0 (0,L) h (Nat.zero_le _)).1 r (List.mem_of_mem_take hr)
theorem ajN{f:TF3}(hf:aN f=true){n m:Nat}{L:List (List Int)}(h:GR f n L):(D9 f m L).length=(gT f 0 m (0,L)).1:=by
 have:=P5 hf m 0 (0,L) h (Nat.zero_le _)
 unfold D9
 rw [List.length_take,this.2.1]
 exact Nat.min_eq_left this.2.2
theorem arO{α:Type}(p:α→Bool):∀(l:List α)(i j:Nat),ny p (i+j) l=if ny p j l<0 then -1 else (i:Int)+ny p j l:=by
 intro l
 induction l with
 |nil=>intro i j;rfl
 |cons x l ih=>
  intro i j
  rcases Bool.eq_false_or_eq_true (p x) with hp|hp
  ·have e1:ny p (i+j) (x::l)=((i+j:Nat):Int):=by simp only [ny,hp,cond_true]
   have e2:ny p j (x::l)=(j:Int):=by simp only [ny,hp,cond_true]
   rw [e1,e2,if_neg (by omega)]
   omega
  ·have e1:ny p (i+j) (x::l)=ny p (i+(j+1)) l:=by simp only [ny,hp,cond_false];rfl
   have e2:ny p j (x::l)=ny p (j+1) l:=by simp only [ny,hp,cond_false]
   rw [e1,e2]
   exact ih i (j+1)
theorem ajV{α β γ:Type}(g:Nat→α→γ)(fin:List γ→β):∀(l:List α)(i:Nat)(acc:List γ),acc.length=i+l.length→qp (fun i acc x=>(.inl (acc.set i (g i x)):List γ ⊕ β)) fin i acc l=fin (acc.take i++l.mapIdx fun j x=>g (i+j) x):=by
 intro l
 induction l with
 |nil=>intro i acc h;simp only [qp,List.mapIdx_nil,List.append_nil];rw [List.take_of_length_le (by simp at h;omega)]
 |cons x l ih=>
  intro i acc h
  simp only [List.length_cons] at h
  simp only [qp]
  rw [ih (i+1) _ (by simp;omega),List.take_add_one,List.mapIdx_cons]
  simp [show i<acc.length by omega,List.take_set_of_le (Nat.le_refl i),Nat.add_assoc,Nat.add_comm 1]
-- shared
theorem aAk{n d:Nat}(h0:n≠0)(hn:n<2 ^ d):∃i m,i<d∧m<n∧n=m^^^2 ^ i:=by
 have hl:=Nat.log2_lt (n:=n) (k:=d) h0 |>.2 hn
 have hself:=Nat.log2_self_le h0
 have hup:=Nat.lt_log2_self (n:=n)
 have hb1:n^^^2 ^ n.log2<2 ^ n.log2:=by
  apply Nat.lt_pow_two_of_testBit
  intro i hi
  rw [Nat.testBit_xor,Nat.testBit_two_pow]
  by_cases hi2:n.log2=i
  ·subst hi2
   rw [Nat.testBit_log2 h0]
   simp
  ·have:n.testBit i=false:=Nat.testBit_lt_two_pow (Nat.lt_of_lt_of_le hup (Nat.pow_le_pow_right (by omega) (by omega)))
   rw [this]
   simp [hi2]
 exact ⟨n.log2,n^^^2 ^ n.log2,hl,by omega,by rw [Nat.xor_assoc,Nat.xor_self,Nat.xor_zero]⟩
def atF(d:Nat)(g:Nat→Nat):Prop:=∀a b,a<2 ^ d→b<2 ^ d→g (a^^^b)=g a^^^g b
theorem atF.zero{d:Nat}{g:Nat→Nat}(h:atF d g):g 0=0:=by
 have e1:=h 0 0 (Nat.two_pow_pos d) (Nat.two_pow_pos d)
 rw [Nat.xor_self] at e1
 rw [Nat.xor_self] at e1
 exact e1
theorem aCS{d:Nat}{g:Nat→Nat}(h0:g 0=0)(h:∀b i,b<2 ^ d→i<d→g (b^^^2 ^ i)=g b^^^g (2 ^ i)):atF d g:=by
 intro b c
 induction c using Nat.strongRecOn generalizing b with
 |ind c ih=>
  intro hb hc
  by_cases hz:c=0
  ·subst hz;rw [Nat.xor_zero,h0,Nat.xor_zero]
  ·obtain ⟨i,m,hi,hm,he⟩:=aAk hz hc
   have hp:2 ^ i<2 ^ d:=Nat.pow_lt_pow_right (by omega) hi
   have hm2:m<2 ^ d:=by omega
   rw [he,←Nat.xor_assoc,h _ _ (Nat.xor_lt_two_pow hb hm2) hi,ih m hm b hb hm2,h _ _ hm2 hi,Nat.xor_assoc]
theorem avW{d:Nat}{g h:Nat→Nat}(hg:atF d g)(hh:atF d h)(hb:∀i,i<d→g (2 ^ i)=h (2 ^ i)):∀n,n<2 ^ d→g n=h n:=by
 intro n
 induction n using Nat.strongRecOn with
 |ind n ih=>
  intro hn
  by_cases h0:n=0
  ·subst h0;rw [hg.zero,hh.zero]
  ·obtain ⟨i,m,hi,hm,he⟩:=aAk h0 hn
   have hp:2 ^ i<2 ^ d:=Nat.pow_lt_pow_right (by omega) hi
   rw [he,hg _ _ (by omega) hp,hh _ _ (by omega) hp,ih m hm (by omega),hb i hi]
def aEd(d p:Nat):Bool:=(List.range (2 ^ d)).all fun a=>(List.range (2 ^ d)).all fun b=>(List.range d).all fun i=>Nat.beq (mulN p a (Nat.xor b (2 ^ i))) (Nat.xor (mulN p a b) (mulN p a (2 ^ i)))
def iq(d p:Nat):Bool:=(List.range (2 ^ d)).all fun a=>(List.range d).all fun j=>(List.range d).all fun i=>Nat.beq (mulN p (mulN p a (2 ^ j)) (2 ^ i)) (mulN p a (mulN p (2 ^ j) (2 ^ i)))
def aFs(d p:Nat):Bool:=(List.range (2 ^ d)).all fun a=>Nat.beq (mulN p a 1) a&&Nat.beq (mulN p a 0) 0
theorem aw1:(iW.all fun q=>aEd q.1 q.2)=true:=by kernel_rfl
theorem atS:(iW.all fun q=>iq q.1 q.2)=true:=by kernel_rfl
theorem azX:(iW.all fun q=>aFs q.1 q.2)=true:=by kernel_rfl
theorem nW{d p a b:Nat}(hq:(d,p)∈iW)(ha:a<2 ^ d)(hb:b<2 ^ d):mulN p a b<2 ^ d∧mulN p a b=mulN p b a:=by
 have h1:=List.all_eq_true.1 (List.all_eq_true.1 (List.all_eq_true.1 acR _ hq) a (List.mem_range.2 ha)) b (List.mem_range.2 hb)
 rw [Bool.and_eq_true] at h1
 exact ⟨Nat.le_of_ble_eq_true h1.1,Nat.eq_of_beq_eq_true h1.2⟩
theorem acT{d p a:Nat}(hq:(d,p)∈iW)(ha:a<2 ^ d):mulN p a 1=a∧mulN p a 0=0:=by
 have h1:=List.all_eq_true.1 (List.all_eq_true.1 azX _ hq) a (List.mem_range.2 ha)
 rw [Bool.and_eq_true] at h1
 exact ⟨Nat.eq_of_beq_eq_true h1.1,Nat.eq_of_beq_eq_true h1.2⟩
theorem EN{d p a:Nat}(hq:(d,p)∈iW)(ha:a<2 ^ d):atF d (mulN p a):=by
 refine aCS (acT hq ha).2 fun b i hb hi=>?_
 have h1:=List.all_eq_true.1 (List.all_eq_true.1 (List.all_eq_true.1 (List.all_eq_true.1 aw1 _ hq) a (List.mem_range.2 ha)) b (List.mem_range.2 hb)) i (List.mem_range.2 hi)
 exact Nat.eq_of_beq_eq_true h1
theorem Za{d p b:Nat}(hq:(d,p)∈iW)(hb:b<2 ^ d):atF d (fun a=>mulN p a b):=by
 intro x y hx hy
 show mulN p (x^^^y) b=mulN p x b^^^mulN p y b
 rw [(nW hq (Nat.xor_lt_two_pow hx hy) hb).2,EN hq hb x y hx hy,(nW hq hx hb).2,(nW hq hy hb).2]
theorem akZ{d p a b c:Nat}(hq:(d,p)∈iW)(ha:a<2 ^ d)(hb:b<2 ^ d)(hc:c<2 ^ d):mulN p (mulN p a b) c=mulN p a (mulN p b c):=by
 have hpow:∀i,i<d→2 ^ i<2 ^ d:=fun i hi=>Nat.pow_lt_pow_right (by omega) hi
 have k1:∀i,i<d→∀b,b<2 ^ d→mulN p (mulN p a b) (2 ^ i)=mulN p a (mulN p b (2 ^ i)):=by
  intro i hi
  refine avW (g:=fun b=>mulN p (mulN p a b) (2 ^ i)) (h:=fun b=>mulN p a (mulN p b (2 ^ i))) ?_ ?_ ?_
  ·intro x y hx hy
   show mulN p (mulN p a (x^^^y)) (2 ^ i)=_
   rw [EN hq ha x y hx hy]
   exact Za hq (hpow i hi) _ _ (nW hq ha hx).1 (nW hq ha hy).1
  ·intro x y hx hy
   show mulN p a (mulN p (x^^^y) (2 ^ i))=_
   rw [show mulN p (x^^^y) (2 ^ i)=_ from Za hq (hpow i hi) x y hx hy]
   exact EN hq ha _ _ (nW hq hx (hpow i hi)).1 (nW hq hy (hpow i hi)).1
  ·intro j hj
   have h1:=List.all_eq_true.1 (List.all_eq_true.1 (List.all_eq_true.1 (List.all_eq_true.1 atS _ hq) a (List.mem_range.2 ha)) j (List.mem_range.2 hj)) i (List.mem_range.2 hi)
   exact Nat.eq_of_beq_eq_true h1
 refine avW (g:=fun c=>mulN p (mulN p a b) c) (h:=fun c=>mulN p a (mulN p b c)) ?_ ?_ (fun i hi=>k1 i hi b hb) c hc
 ·exact EN hq (nW hq ha hb).1
 ·intro x y hx hy
  show mulN p a (mulN p b (x^^^y))=_
  rw [EN hq hb x y hx hy]
  exact EN hq ha _ _ (nW hq hb hx).1 (nW hq hb hy).1
theorem apa{f:TF3}(hf:aN f=true):∃d p:Nat,(d,p)∈iW∧f=((d:Int),(p:Int),())∧∀a,inF f a→∃m:Nat,a=(m:Int)∧m<2 ^ d∧m<2 ^ 63:=by
 obtain ⟨d,p,hq,rfl⟩:=Cx hf
 refine ⟨d,p,hq,rfl,fun a ha=>?_⟩
 obtain ⟨m,e,h1,h2⟩:=DK hf ha
 exact ⟨m,e,by simpa using h1,h2⟩
theorem AY{d p m n:Nat}:gJ ((d:Int),(p:Int),()) (m:Int) (n:Int)=((mulN p m n:Nat):Int):=by
 unfold gJ
 simp only [Int.toNat_natCast]
theorem vK{f:TF3}(hf:aN f=true){a b:Int}(ha:inF f a)(hb:inF f b):inF f (gJ f a b):=(CZ hf ha hb).1
theorem iK{f:TF3}(hf:aN f=true){a b:Int}(ha:inF f a)(hb:inF f b):gJ f a b=gJ f b a:=(CZ hf ha hb).2
theorem aCN{d p:Nat}(hq:(d,p)∈iW){x:Nat}(h:x<2 ^ d):x<2 ^ 63:=by
 have:∀q∈iW,q.1≤5:=by decide
 have h5:=this _ hq
 have:2 ^ d≤2 ^ 5:=Nat.pow_le_pow_right (by omega) h5
 omega
theorem akY{f:TF3}(hf:aN f=true){a b c:Int}(ha:inF f a)(hb:inF f b)(hc:inF f c):gJ f a (jw .i64 b c)=jw .i64 (gJ f a b) (gJ f a c):=by
 obtain ⟨d,p,hq,rfl,hn⟩:=apa hf
 obtain ⟨x,rfl,hx,hx6⟩:=hn a ha
 obtain ⟨y,rfl,hy,hy6⟩:=hn b hb
 obtain ⟨z,rfl,hz,hz6⟩:=hn c hc
 rw [nT hy6 hz6,AY,AY,AY,nT (aCN hq (nW hq hx hy).1) (aCN hq (nW hq hx hz).1),EN hq hx y z hy hz]
theorem aaL{f:TF3}(hf:aN f=true){a b c:Int}(ha:inF f a)(hb:inF f b)(hc:inF f c):gJ f (gJ f a b) c=gJ f a (gJ f b c):=by
 obtain ⟨d,p,hq,rfl,hn⟩:=apa hf
 obtain ⟨x,rfl,hx,hx6⟩:=hn a ha
 obtain ⟨y,rfl,hy,hy6⟩:=hn b hb
 obtain ⟨z,rfl,hz,hz6⟩:=hn c hc
 rw [AY,AY,AY,AY,akZ hq hx hy hz]
theorem acS{f:TF3}(hf:aN f=true){a:Int}(ha:inF f a):gJ f a 1=a:=by
 obtain ⟨d,p,hq,rfl,hn⟩:=apa hf
 obtain ⟨x,rfl,hx,hx6⟩:=hn a ha
 rw [show (1:Int)=((1:Nat):Int) from rfl,AY,(acT hq hx).1]
theorem sG{f:TF3}(hf:aN f=true){a:Int}(ha:inF f a):gJ f a 0=0:=by
 obtain ⟨d,p,hq,rfl,hn⟩:=apa hf
 obtain ⟨x,rfl,hx,hx6⟩:=hn a ha
 rw [show (0:Int)=((0:Nat):Int) from rfl,AY,(acT hq hx).2]
theorem XV{f:TF3}(hf:aN f=true){a b:Int}(ha:inF f a)(hb:inF f b):jw .i64 a b=jw .i64 b a:=by
 obtain ⟨x,rfl,_,hx⟩:=DK hf ha
 obtain ⟨y,rfl,_,hy⟩:=DK hf hb
 rw [nT hx hy,nT hy hx,Nat.xor_comm]
theorem yU{f:TF3}(hf:aN f=true){a b c:Int}(ha:inF f a)(hb:inF f b)(hc:inF f c):jw .i64 (jw .i64 a b) c=jw .i64 a (jw .i64 b c):=by
 obtain ⟨x,rfl,hx1,hx⟩:=DK hf ha
 obtain ⟨y,rfl,hy1,hy⟩:=DK hf hb
 obtain ⟨z,rfl,hz1,hz⟩:=DK hf hc
 rw [nT hx hy,nT hy hz,nT (Nat.xor_lt_two_pow hx hy) hz,nT hx (Nat.xor_lt_two_pow hy hz),Nat.xor_assoc]
theorem PK{f:TF3}(hf:aN f=true){a:Int}(ha:inF f a):jw .i64 a 0=a:=by
 rw [XV hf ha gM,qo hf ha]
theorem PI{f:TF3}(hf:aN f=true){a:Int}(ha:inF f a):jw .i64 a a=0:=by
 obtain ⟨x,rfl,_,hx⟩:=DK hf ha
 rw [nT hx hx,Nat.xor_self]
 rfl
-- shared
structure FO where
 q:Nat
 dg:Nat
 mul:Nat→Nat→Nat
 hq:1<q
 hd:1≤dg
 lt:∀a b,mul a b<q
 xlt:∀a b,a<q→b<q→a^^^b<q
 comm:∀a b,mul a b=mul b a
 assoc:∀a b c,mul (mul a b) c=mul a (mul b c)
 add:∀a b c,mul a (b^^^c)=mul a b^^^mul a c
 one:∀a,a<q→mul a 1=a
 inv:∀a,a<q→a≠0→∃b,b<q∧mul a b=1
namespace FO
variable (F : FO)
theorem mul_zero(a:Nat):F.mul a 0=0:=by
 have:=F.add a 0 0
 rw [Nat.xor_self,Nat.xor_self] at this
 exact this
theorem zero_mul(a:Nat):F.mul 0 a=0:=by rw [F.comm,F.mul_zero]
theorem ayw(a b c:Nat):F.mul (a^^^b) c=F.mul a c^^^F.mul b c:=by rw [F.comm,F.add,F.comm c a,F.comm c b]
theorem nz{a b:Nat}(ha:a<F.q)(hb:b<F.q)(h:F.mul a b=0):a=0∨b=0:=by
 by_cases h0:a=0
 ·exact .inl h0
 ·right
  obtain ⟨c,hc,h1⟩:=F.inv a ha h0
  rw [←F.one b hb,←h1,F.comm,F.comm a c,F.assoc,h,F.mul_zero]
theorem zlt:0<F.q:=Nat.lt_trans Nat.zero_lt_one F.hq
def sq(a:Nat):Nat:=F.mul a a
theorem aAl(a:Nat):F.sq a<F.q:=F.lt a a
theorem Ia:F.sq 0=0:=F.mul_zero 0
theorem aD9(a b c:Nat):(a^^^b)^^^(b^^^c)=a^^^c:=by rw [Nat.xor_assoc,←Nat.xor_assoc b b c,Nat.xor_self,Nat.zero_xor]
theorem ama(a b:Nat):F.sq (a^^^b)=F.sq a^^^F.sq b:=by
 unfold sq
 rw [F.add,F.ayw,F.ayw,F.comm b a,aD9]
theorem aAm(a b:Nat):F.sq (F.mul a b)=F.mul (F.sq a) (F.sq b):=by
 unfold sq
 rw [F.assoc a b (F.mul a b),←F.assoc b a b,F.comm b a,F.assoc a b b,←F.assoc a a]
theorem aD3{a:Nat}(ha:a<F.q)(h:F.sq a=0):a=0:=(F.nz ha ha h).elim id id
def sqn:Nat→Nat→Nat
 |0,a=>a
 |k+1,a=>sqn k (F.sq a)
theorem F8:∀(k:Nat){a:Nat},a<F.q→F.sqn k a<F.q:=by
 intro k
 induction k with
 |zero=>intro a h;exact h
 |succ k ih=>intro a _;exact ih (F.aAl a)
theorem atv:∀(k:Nat),F.sqn k 0=0:=by
 intro k
 induction k with
 |zero=>rfl
 |succ k ih=>unfold sqn;rw [F.Ia];exact ih
theorem awJ:∀(k:Nat){a:Nat},a<F.q→F.sqn k a=0→a=0:=by
 intro k
 induction k with
 |zero=>intro a _ h;exact h
 |succ k ih=>intro a ha h;exact F.aD3 ha (ih (F.aAl a) h)
theorem ajh:∀(i j a:Nat),F.sqn (i+j) a=F.sqn j (F.sqn i a):=by
 intro i
 induction i with
 |zero=>intro j a;rw [Nat.zero_add];rfl
 |succ i ih=>intro j a;rw [show i+1+j=(i+j)+1 by omega];exact ih j (F.sq a)
theorem atu(k a:Nat):F.sqn (k+1) a=F.sq (F.sqn k a):=F.ajh k 1 a
def lp:List Nat→Nat→Nat
 |[],_=>0
 |c::p,x=>F.mul c x^^^lp p (F.sq x)
theorem auP:∀(p:List Nat)(x y:Nat),F.lp p (x^^^y)=F.lp p x^^^F.lp p y:=by
 intro p
 induction p with
 |nil=>intro x y;simp [lp]
 |cons c p ih=>
  intro x y
  simp only [lp]
  rw [F.add,F.ama,ih]
  ac_rfl
theorem avY:∀(p:List Nat),F.lp p 0=0:=by
 intro p
 induction p with
 |nil=>rfl
 |cons c p ih=>simp only [lp];rw [F.mul_zero,F.Ia,ih];rfl
theorem Y9:∀(p:List Nat)(x:Nat),F.lp p x<F.q:=by
 intro p
 induction p with
 |nil=>intro x;exact F.zlt
 |cons c p ih=>intro x;exact F.xlt _ _ (F.lt _ _) (ih _)
def Kq:Nat→List Nat→List Nat×Nat
 |_,[]=>([],0)
 |_,[c]=>([],c)
 |g,c::d::ps=>((Kq (F.sq g) (d::ps)).2::(Kq (F.sq g) (d::ps)).1,c^^^F.mul (Kq (F.sq g) (d::ps)).2 g)
theorem ayP:∀(p:List Nat)(g:Nat),p≠[]→(F.Kq g p).1.length+1=p.length:=by
 intro p
 induction p with
 |nil=>intro g h;exact absurd rfl h
 |cons c p ih=>
  intro g _
  cases p with
  |nil=>rfl
  |cons d ps=>
   have:=ih (F.sq g) (by simp)
   simp only [Kq,List.length_cons] at this ⊢
   omega
theorem avE:∀(p:List Nat)(g x:Nat),F.lp p x=F.lp (F.Kq g p).1 (F.sq x^^^F.mul g x)^^^F.mul (F.Kq g p).2 x:=by
 intro p
 induction p with
 |nil=>intro g x;simp only [Kq,lp];rw [F.zero_mul];rfl
 |cons c p ih=>
  intro g x
  cases p with
  |nil=>simp only [Kq,lp];rw [Nat.xor_zero,Nat.zero_xor]
  |cons d ps=>
   have h:=ih (F.sq g) (F.sq x)
   have h1:F.sq (F.sq x^^^F.mul g x)=F.sq (F.sq x)^^^F.mul (F.sq g) (F.sq x):=by rw [F.ama,F.aAm]
   show F.mul c x^^^F.lp (d::ps) (F.sq x)=(F.mul (F.Kq (F.sq g) (d::ps)).2 (F.sq x^^^F.mul g x)^^^F.lp (F.Kq (F.sq g) (d::ps)).1 (F.sq (F.sq x^^^F.mul g x)))^^^F.mul (c^^^F.mul (F.Kq (F.sq g) (d::ps)).2 g) x
   rw [h,h1,F.add,F.ayw,F.assoc]
   generalize F.lp (F.Kq (F.sq g) (d::ps)).1 _=A
   generalize F.mul (F.Kq (F.sq g) (d::ps)).2 (F.sq x)=B
   generalize F.mul (F.Kq (F.sq g) (d::ps)).2 (F.mul g x)=D
   generalize F.mul c x=E
   calc E^^^(A^^^B)=(B^^^A^^^E)^^^0:=by rw [Nat.xor_zero];ac_rfl
    _=(B^^^A^^^E)^^^(D^^^D):=by rw [Nat.xor_self]
    _=B^^^D^^^A^^^(E^^^D):=by ac_rfl
theorem aw2:∀(p:List Nat)(g:Nat),(∀y∈(F.Kq g p).1,y=0)→(F.Kq g p).2=0→∀y∈p,y=0:=by
 intro p
 induction p with
 |nil=>intro g _ _ y hy;cases hy
 |cons c p ih=>
  intro g h1 h2
  cases p with
  |nil=>intro y hy;rw [List.mem_singleton.1 hy];exact h2
  |cons d ps=>
   simp only [Kq] at h1 h2
   have h3:=h1 _ (List.mem_cons_self ..)
   have h4:=ih (F.sq g) (fun y hy=>h1 y (List.mem_cons_of_mem _ hy)) h3
   rw [h3,F.zero_mul,Nat.xor_zero] at h2
   intro y hy
   rcases List.mem_cons.1 hy with rfl|hy
   ·exact h2
   ·exact h4 y hy
theorem aAR:∀(p:List Nat)(g:Nat),(∀y∈p,y<F.q)→(F.Kq g p).2<F.q∧∀y∈(F.Kq g p).1,y<F.q:=by
 intro p
 induction p with
 |nil=>intro g _;exact ⟨F.zlt,fun y hy=>by cases hy⟩
 |cons c p ih=>
  intro g h
  cases p with
  |nil=>exact ⟨h c (List.mem_cons_self ..),fun y hy=>by cases hy⟩
  |cons d ps=>
   have:=ih (F.sq g) fun y hy=>h y (List.mem_cons_of_mem _ hy)
   refine ⟨F.xlt _ _ (h c (List.mem_cons_self ..)) (F.lt _ _),fun y hy=>?_⟩
   rcases List.mem_cons.1 hy with rfl|hy
   ·exact this.1
   ·exact this.2 y hy
def oq:List Bool→List Nat→Nat
 |b::bs,x::xs=>(bif b then x else 0)^^^oq bs xs
 |_,_=>0
def wU(xs:List Nat):Prop:=∀bs:List Bool,bs.length=xs.length→oq bs xs=0→∀b∈bs,b=false
theorem atq{φ:Nat→Nat}(h0:φ 0=0)(hφ:∀a b,φ (a^^^b)=φ a^^^φ b):∀(bs:List Bool)(xs:List Nat),oq bs (xs.map φ)=φ (oq bs xs):=by
 intro bs
 induction bs with
 |nil=>intro xs;cases xs<;>exact h0.symm
 |cons b bs ih=>
  intro xs
  cases xs with
  |nil=>exact h0.symm
  |cons x xs=>
   simp only [List.map_cons,oq]
   rw [ih,hφ]
   cases b
   ·simp only [cond_false];rw [h0]
   ·rfl
theorem aby:∀(n:Nat)(xs:List Nat),oq (List.replicate n false) xs=0:=by
 intro n
 induction n with
 |zero=>intro xs;cases xs<;>rfl
 |succ n ih=>
  intro xs
  cases xs with
  |nil=>rfl
  |cons x xs=>simp only [List.replicate_succ,oq,cond_false];rw [ih];rfl
theorem aBC:∀(bs:List Bool)(xs:List Nat),(∀x∈xs,x<F.q)→oq bs xs<F.q:=by
 intro bs
 induction bs with
 |nil=>intro xs _;cases xs<;>exact F.zlt
 |cons b bs ih=>
  intro xs h
  cases xs with
  |nil=>exact F.zlt
  |cons x xs=>
   simp only [oq]
   refine F.xlt _ _ ?_ (ih xs fun y hy=>h y (List.mem_cons_of_mem _ hy))
   cases b
   ·exact F.zlt
   ·exact h x (List.mem_cons_self ..)
theorem ahx:∀(b1:List Bool)(x1:List Nat)(b2:List Bool)(x2:List Nat),b1.length=x1.length→oq (b1++b2) (x1++x2)=oq b1 x1^^^oq b2 x2:=by
 intro b1
 induction b1 with
 |nil=>intro x1 b2 x2 h;cases x1 with
  |nil=>simp [oq]
  |cons _ _=>simp at h
 |cons b b1 ih=>
  intro x1 b2 x2 h
  cases x1 with
  |nil=>simp at h
  |cons x x1=>
   simp only [List.cons_append,oq]
   rw [ih x1 b2 x2 (by simpa using h),Nat.xor_assoc]
theorem wU.head{g:Nat}{gs:List Nat}(h:wU (g::gs)):g≠0:=by
 intro h0
 have:=h (true::List.replicate gs.length false) (by simp) (by simp only [oq,cond_true];rw [aby,h0];rfl) true (List.mem_cons_self ..)
 cases this
theorem wU.tail{g:Nat}{gs:List Nat}(h:wU (g::gs)):wU gs:=by
 intro bs hl hs b hb
 exact h (false::bs) (by simp [hl]) (by simp only [oq,cond_false];rw [hs];rfl) b (List.mem_cons_of_mem _ hb)
theorem auQ:∀(n:Nat)(gs p:List Nat),gs.length=n→p.length≤gs.length→(∀g∈gs,g<F.q)→(∀c∈p,c<F.q)→wU gs→(∀g∈gs,F.lp p g=0)→∀c∈p,c=0:=by
 intro n
 induction n with
 |zero=>
  intro gs p hn hl _ _ _ _ c hc
  rw [List.length_eq_zero_iff.1 (show p.length=0 by omega)] at hc
  cases hc
 |succ n ih=>
  intro gs p hn hl hg hp hi hr
  cases gs with
  |nil=>simp at hn
  |cons g gs=>
  simp only [List.length_cons,Nat.add_right_cancel_iff] at hn
  by_cases hp0:p=[]
  ·subst hp0;intro c hc;cases hc
  have hlen:=F.ayP p g hp0
  have hlt:=F.aAR p g hp
  have hg0:=hi.head
  have hgq:=hg g (List.mem_cons_self ..)
  have h1:=F.avE p g g
  rw [hr g (List.mem_cons_self ..),show F.sq g^^^F.mul g g=0 from Nat.xor_self _,F.avY,Nat.zero_xor] at h1
  have hc0:(F.Kq g p).2=0:=(F.nz hlt.1 hgq h1.symm).resolve_right hg0
  have hφ0:(fun x=>F.sq x^^^F.mul g x) 0=0:=by show F.sq 0^^^F.mul g 0=0;rw [F.Ia,F.mul_zero];rfl
  have hφ:∀a b,(fun x=>F.sq x^^^F.mul g x) (a^^^b)=(fun x=>F.sq x^^^F.mul g x) a^^^(fun x=>F.sq x^^^F.mul g x) b:=by
   intro a b
   show F.sq (a^^^b)^^^F.mul g (a^^^b)=(F.sq a^^^F.mul g a)^^^(F.sq b^^^F.mul g b)
   rw [F.ama,F.add]
   ac_rfl
  refine F.aw2 p g (ih (gs.map fun x=>F.sq x^^^F.mul g x) (F.Kq g p).1 (by simpa using hn) ?_ ?_ hlt.2 ?_ ?_) hc0
  ·rw [List.length_map];simp only [List.length_cons] at hl;omega
  ·intro y hy
   obtain ⟨x,_,rfl⟩:=List.mem_map.1 hy
   exact F.xlt _ _ (F.aAl x) (F.lt _ _)
  ·intro bs hbl hbs
   rw [List.length_map] at hbl
   rw [atq hφ0 hφ] at hbs
   have hS:=F.aBC bs gs fun y hy=>hg y (List.mem_cons_of_mem _ hy)
   have h2:F.mul (oq bs gs^^^g) (oq bs gs)=0:=by rw [F.ayw];exact hbs
   rcases F.nz (F.xlt _ _ hS hgq) hS h2 with h3|h3
   ·exfalso
    have:=hi (true::bs) (by simp [hbl]) (by simp only [oq,cond_true];rw [Nat.xor_comm];exact h3) true (List.mem_cons_self ..)
    cases this
   ·exact hi.tail bs hbl h3
  ·intro y hy
   obtain ⟨x,hx,rfl⟩:=List.mem_map.1 hy
   have h2:=F.avE p g x
   rw [hr x (List.mem_cons_of_mem _ hx),hc0,F.zero_mul,Nat.xor_zero] at h2
   exact h2.symm
theorem azF(gs p:List Nat)(hl:p.length≤gs.length)(hg:∀g∈gs,g<F.q)(hp:∀c∈p,c<F.q)(hi:wU gs)(h:∀g∈gs,F.lp p g=0):∀c∈p,c=0:=F.auQ _ gs p rfl hl hg hp hi h
def EI(us:List Nat)(v:Nat):Prop:=∃bs:List Bool,bs.length=us.length∧v=oq bs us
theorem aAd:∀(b1 b2:List Bool)(us:List Nat),b1.length=us.length→b2.length=us.length→oq (List.zipWith xor b1 b2) us=oq b1 us^^^oq b2 us:=by
 intro b1
 induction b1 with
 |nil=>intro b2 us h1 h2;cases us with
  |nil=>simp [oq]
  |cons _ _=>simp at h1
 |cons b b1 ih=>
  intro b2 us h1 h2
  cases us with
  |nil=>simp at h1
  |cons u us=>
   cases b2 with
   |nil=>simp at h2
   |cons b' b2=>
    simp only [List.zipWith_cons_cons,oq]
    rw [ih b2 us (by simpa using h1) (by simpa using h2)]
    have:(bif xor b b' then u else 0)=(bif b then u else 0)^^^(bif b' then u else 0):=by
     cases b<;>cases b'<;>simp
    rw [this]
    ac_rfl
theorem EI.add{us:List Nat}{a b:Nat}(ha:EI us a)(hb:EI us b):EI us (a^^^b):=by
 obtain ⟨b1,h1,rfl⟩:=ha
 obtain ⟨b2,h2,rfl⟩:=hb
 exact ⟨List.zipWith xor b1 b2,by simp [h1,h2],(aAd b1 b2 us h1 h2).symm⟩
theorem EI.zero(us:List Nat):EI us 0:=⟨List.replicate us.length false,by simp,(aby _ _).symm⟩
theorem EI.cons{u:Nat}{us:List Nat}{v:Nat}(h:EI (u::us) v):EI us v∨EI us (v^^^u):=by
 obtain ⟨bs,hl,rfl⟩:=h
 cases bs with
 |nil=>simp at hl
 |cons b bs=>
  simp only [List.length_cons,Nat.add_right_cancel_iff] at hl
  cases b
  ·left;exact ⟨bs,hl,by simp only [oq,cond_false];rw [Nat.zero_xor]⟩
  ·right;exact ⟨bs,hl,by simp only [oq,cond_true];rw [Nat.xor_comm u,Nat.xor_assoc,Nat.xor_self,Nat.xor_zero]⟩
theorem EI.map{φ:Nat→Nat}(h0:φ 0=0)(hφ:∀a b,φ (a^^^b)=φ a^^^φ b){us:List Nat}{v:Nat}(h:EI us v):EI (us.map φ) (φ v):=by
 obtain ⟨bs,hl,rfl⟩:=h
 exact ⟨bs,by simpa using hl,(atq h0 hφ bs us).symm⟩
theorem avf(ψ:Nat→Prop) [∀g,Decidable (ψ g)] (g0:Nat):∀(bs:List Bool)(gs:List Nat),bs.length=gs.length→∃b:Bool,oq bs (gs.map fun g=>if ψ g then g else g^^^g0)=oq (b::bs) (g0::gs):=by
 intro bs
 induction bs with
 |nil=>intro gs h;cases gs with
  |nil=>exact ⟨false,by simp [oq]⟩
  |cons _ _=>simp at h
 |cons b bs ih=>
  intro gs h
  cases gs with
  |nil=>simp at h
  |cons g gs=>
   obtain ⟨b',hb'⟩:=ih gs (by simpa using h)
   simp only [List.map_cons,oq] at hb' ⊢
   rw [hb']
   cases b
   ·exact ⟨b',by simp only [cond_false,Nat.zero_xor]⟩
   ·simp only [cond_true]
    by_cases hg:ψ g
    ·exact ⟨b',by rw [if_pos hg];ac_rfl⟩
    ·refine ⟨!b',?_⟩
     rw [if_neg hg]
     cases b'
     ·simp only [cond_false,Bool.not_false,cond_true,Nat.zero_xor];ac_rfl
     ·simp only [cond_true,Bool.not_true,cond_false,Nat.zero_xor]
      calc g^^^g0^^^(g0^^^oq bs gs)=g^^^oq bs gs^^^(g0^^^g0):=by ac_rfl
       _=g^^^oq bs gs:=by rw [Nat.xor_self,Nat.xor_zero]
theorem aB0{φ:Nat→Nat}(hφ:∀a b,φ (a^^^b)=φ a^^^φ b)(u:Nat)(us:List Nat):∀gs:List Nat,(∀g∈gs,g<F.q)→(∀g∈gs,EI (u::us) (φ g)) →
  ∃gs',gs.length≤gs'.length+1∧(∀g∈gs',g<F.q)∧(∀g∈gs',EI us (φ g))∧∀zs,wU (zs++gs)→wU (zs++gs'):=by
 intro gs
 induction gs with
 |nil=>intro _ _;exact ⟨[],by simp,fun g hg=>absurd hg List.not_mem_nil,fun g hg=>absurd hg List.not_mem_nil,fun zs h=>h⟩
 |cons g0 gs ih=>
  intro hlt hs
  have hlt2:∀g∈gs,g<F.q:=fun g hg=>hlt g (List.mem_cons_of_mem _ hg)
  by_cases h0:EI us (φ g0)
  ·obtain ⟨gs',h1,h2,h3,h4⟩:=ih hlt2 fun g hg=>hs g (List.mem_cons_of_mem _ hg)
   refine ⟨g0::gs',by simp only [List.length_cons];omega,fun g hg=>?_,fun g hg=>?_,fun zs hz=>?_⟩
   ·rcases List.mem_cons.1 hg with rfl|hg
    ·exact hlt _ (List.mem_cons_self ..)
    ·exact h2 g hg
   ·rcases List.mem_cons.1 hg with rfl|hg
    ·exact h0
    ·exact h3 g hg
   ·have:=h4 (zs++[g0]) (by simpa using hz)
    simpa using this
  ·have hu:=(hs g0 (List.mem_cons_self ..)).cons.resolve_left h0
   haveI:∀g,Decidable (EI us (φ g)):=fun g=>Classical.propDecidable _
   refine ⟨gs.map fun g=>if EI us (φ g) then g else g^^^g0,by simp,fun g hg=>?_,fun g hg=>?_,fun zs hz=>?_⟩
   ·obtain ⟨x,hx,rfl⟩:=List.mem_map.1 hg
    split
    ·exact hlt2 x hx
    ·exact F.xlt _ _ (hlt2 x hx) (hlt g0 (List.mem_cons_self ..))
   ·obtain ⟨x,hx,rfl⟩:=List.mem_map.1 hg
    split
    ·assumption
    ·rename_i hn
     have h1:=(hs x (List.mem_cons_of_mem _ hx)).cons.resolve_left hn
     rw [hφ]
     have h2:=h1.add hu
     rw [show φ x^^^u^^^(φ g0^^^u)=φ x^^^φ g0 from by
      calc φ x^^^u^^^(φ g0^^^u)=φ x^^^φ g0^^^(u^^^u):=by ac_rfl
       _=φ x^^^φ g0:=by rw [Nat.xor_self,Nat.xor_zero]] at h2
     exact h2
   ·intro bs hl hb b hbm
    simp only [List.length_append,List.length_map] at hl
    have hsp:bs=bs.take zs.length++bs.drop zs.length:=(List.take_append_drop _ _).symm
    have hl1:(bs.take zs.length).length=zs.length:=by rw [List.length_take];omega
    have hl2:(bs.drop zs.length).length=gs.length:=by rw [List.length_drop];omega
    rw [hsp,ahx _ _ _ _ hl1] at hb
    obtain ⟨c,hc⟩:=avf (fun g=>EI us (φ g)) g0 (bs.drop zs.length) gs hl2
    rw [hc,←ahx _ _ _ _ hl1] at hb
    have hall:=hz _ (by simp [hl1,hl2]) hb
    rw [hsp] at hbm
    refine hall b ?_
    rcases List.mem_append.1 hbm with h|h
    ·exact List.mem_append.2 (.inl h)
    ·exact List.mem_append.2 (.inr (List.mem_cons_of_mem _ h))
theorem aD2{φ:Nat→Nat}(hφ:∀a b,φ (a^^^b)=φ a^^^φ b):∀(us gs:List Nat),(∀g∈gs,g<F.q)→(∀g∈gs,EI us (φ g))→wU gs →
  ∃hs,gs.length≤hs.length+us.length∧(∀h∈hs,h<F.q)∧(∀h∈hs,φ h=0)∧wU hs:=by
 intro us
 induction us with
 |nil=>
  intro gs hlt hs hi
  refine ⟨gs,by simp,hlt,fun g hg=>?_,hi⟩
  obtain ⟨bs,_,h⟩:=hs g hg
  rw [h]
  cases bs<;>rfl
 |cons u us ih=>
  intro gs hlt hs hi
  obtain ⟨gs',h1,h2,h3,h4⟩:=F.aB0 hφ u us gs hlt hs
  obtain ⟨hs',k1,k2,k3,k4⟩:=ih gs' h2 h3 (h4 [] hi)
  exact ⟨hs',by simp only [List.length_cons];omega,k2,k3,k4⟩
theorem azG{us gs p:List Nat}(hl:p.length+us.length≤gs.length)(hg:∀g∈gs,g<F.q)(hp:∀c∈p,c<F.q)(hi:wU gs)(h:∀g∈gs,EI us (F.lp p g)):∀c∈p,c=0:=by
 obtain ⟨hs,h1,h2,h3,h4⟩:=F.aD2 (φ:=F.lp p) (F.auP p) us gs hg h hi
 exact F.azF hs p (by omega) h2 hp h4 h3
end FO
-- shared
def cf(p:List Nat)(i:Nat):Nat:=p.getD i 0
theorem zR(i:Nat):cf [] i=0:=by simp [cf]
theorem PX(a:Nat)(p:List Nat):cf (a::p) 0=a:=by simp [cf]
theorem qD(a:Nat)(p:List Nat)(i:Nat):cf (a::p) (i+1)=cf p i:=by simp [cf]
theorem abJ{p:List Nat}{i:Nat}(h:p.length≤i):cf p i=0:=by
 unfold cf
 rw [List.getD_eq_getElem?_getD,List.getElem?_eq_none h];rfl
theorem ayD{p:List Nat}(h:∀i,cf p i=0):∀c∈p,c=0:=by
 intro c hc
 obtain ⟨i,hi⟩:=List.getElem?_of_mem hc
 have:=h i
 unfold cf at this
 rw [List.getD_eq_getElem?_getD,hi] at this
 exact this
theorem awW{p:List Nat}(h:∀c∈p,c=0)(i:Nat):cf p i=0:=by
 unfold cf
 rw [List.getD_eq_getElem?_getD]
 cases hi:p[i]? with
 |none=>rfl
 |some c=>exact h c (List.mem_of_getElem? hi)
theorem aoM{g:Nat→Nat}(h0:g 0=0)(p:List Nat)(i:Nat):cf (p.map g) i=g (cf p i):=by
 unfold cf
 rw [List.getD_eq_getElem?_getD,List.getD_eq_getElem?_getD,List.getElem?_map]
 cases p[i]? with
 |none=>exact h0.symm
 |some c=>rfl
theorem atX:∀{p q:List Nat},p.length=q.length→(∀i,cf p i=cf q i)→p=q:=by
 intro p
 induction p with
 |nil=>intro q h _;exact (List.length_eq_zero_iff.1 h.symm).symm
 |cons a p ih=>
  intro q h hc
  cases q with
  |nil=>simp at h
  |cons b q=>
   have h0:=hc 0
   rw [PX,PX] at h0
   rw [h0,ih (by simpa using h) fun i=>by have:=hc (i+1);rwa [qD,qD] at this]
def jC:List Nat→List Nat→List Nat
 |[],q=>q
 |a::p,[]=>a::p
 |a::p,b::q=>(a^^^b)::jC p q
theorem ajr(p:List Nat):jC p []=p:=by cases p<;>rfl
theorem NC:∀(p q:List Nat),(jC p q).length=max p.length q.length:=by
 intro p
 induction p with
 |nil=>intro q;simp [jC]
 |cons a p ih=>
  intro q
  cases q with
  |nil=>simp [jC]
  |cons b q=>simp only [jC,List.length_cons,ih];omega
theorem xK:∀(p q:List Nat)(i:Nat),cf (jC p q) i=cf p i^^^cf q i:=by
 intro p
 induction p with
 |nil=>intro q i;rw [zR,Nat.zero_xor];rfl
 |cons a p ih=>
  intro q i
  cases q with
  |nil=>rw [zR,Nat.xor_zero];rfl
  |cons b q=>
   cases i with
   |zero=>rfl
   |succ i=>simp only [jC,qD];exact ih q i
def cB:List Nat→List Nat
 |[]=>[]
 |a::p=>match cB p with
  |[]=>if a=0 then [] else [a]
  |b::q=>a::b::q
theorem iU:∀(p:List Nat)(i:Nat),cf (cB p) i=cf p i:=by
 intro p
 induction p with
 |nil=>intro i;rfl
 |cons a p ih=>
  intro i
  unfold cB
  cases ht:cB p with
  |nil=>
   rw [ht] at ih
   simp only
   split
   ·rename_i h
    subst h
    cases i with
    |zero=>rfl
    |succ i=>rw [qD,←ih i,zR,zR]
   ·cases i with
    |zero=>rfl
    |succ i=>rw [qD,qD,←ih i]
  |cons b q=>
   rw [ht] at ih
   simp only
   cases i with
   |zero=>rfl
   |succ i=>rw [qD,qD,←ih i]
theorem rJ:∀(p:List Nat),cB p≠[]→cf (cB p) ((cB p).length-1)≠0:=by
 intro p
 induction p with
 |nil=>intro h;exact absurd rfl h
 |cons a p ih=>
  unfold cB
  cases ht:cB p with
  |nil=>
   simp only
   split
   ·intro h;exact absurd rfl h
   ·rename_i h;intro _;exact h
  |cons b q=>
   rw [ht] at ih
   intro _
   have:=ih (by simp)
   simp only [List.length_cons,Nat.add_sub_cancel] at this ⊢
   rw [qD];exact this
theorem iP:∀(p:List Nat),(cB p).length≤p.length:=by
 intro p
 induction p with
 |nil=>exact Nat.le_refl _
 |cons a p ih=>
  unfold cB
  cases ht:cB p with
  |nil=>
   simp only
   split<;>simp
  |cons b q=>rw [ht] at ih;simp only [List.length_cons] at ih ⊢;omega
theorem aoA{p:List Nat}(h:∀i,cf p i=0):cB p=[]:=by
 apply Classical.byContradiction
 intro hn
 exact rJ p hn (by rw [iU];exact h _)
theorem Ij{p q:List Nat}(hp:p≠[]→cf p (p.length-1)≠0)(hq:q≠[]→cf q (q.length-1)≠0)(h:∀i,cf p i=cf q i):p=q:=by
 have key:∀{p q:List Nat},(p≠[]→cf p (p.length-1)≠0)→(∀i,cf p i=cf q i)→p.length≤q.length:=by
  intro p q hp h
  by_cases hn:p=[]
  ·subst hn;exact Nat.zero_le _
  ·have:=hp hn
   have hl:0<p.length:=List.length_pos_iff.2 hn
   apply Classical.byContradiction
   intro hlt
   rw [h,abJ (by omega)] at this
   exact this rfl
 exact atX (Nat.le_antisymm (key hp h) (key hq fun i=>(h i).symm)) h
def oM(k:Nat)(p:List Nat):List Nat:=p++List.replicate (k-p.length) 0
theorem avA(k:Nat)(p:List Nat)(i:Nat):cf (oM k p) i=cf p i:=by
 unfold oM cf
 rw [List.getD_eq_getElem?_getD,List.getD_eq_getElem?_getD]
 by_cases h:i<p.length
 ·rw [List.getElem?_append_left h]
 ·rw [List.getElem?_append_right (by omega),List.getElem?_eq_none (l:=p) (by omega),List.getElem?_replicate]
  split<;>rfl
theorem V8{k:Nat}{p:List Nat}(h:p.length≤k):(oM k p).length=k:=by simp [oM];omega
theorem Rc{k:Nat}{m:List Nat}(h:m.length=k):oM k (cB m)=m:=by
 have:=iP m
 exact atX (by rw [V8 (by omega),h]) fun i=>by rw [avA,iU]
namespace FO
variable (F : FO)
theorem avX:∀(p q:List Nat)(x:Nat),F.lp (jC p q) x=F.lp p x^^^F.lp q x:=by
 intro p
 induction p with
 |nil=>intro q x;simp [jC,lp]
 |cons a p ih=>
  intro q x
  cases q with
  |nil=>simp [jC,lp]
  |cons b q=>
   simp only [jC,lp]
   rw [F.ayw,ih]
   ac_rfl
def fH:List Nat→(Nat→Nat)→Nat→Nat
 |[],_,_=>0
 |v::vs,x,i=>F.mul v (x i)^^^(match i with
  |0=>0
  |i+1=>fH vs (fun j=>F.sq (x j)) i)
def oJ:List Nat→List Nat→List Nat
 |[],_=>[]
 |v::vs,m=>jC (m.map (F.mul v)) (0::oJ vs (m.map F.sq))
theorem ND:∀(V m:List Nat)(i:Nat),cf (F.oJ V m) i=F.fH V (cf m) i:=by
 intro V
 induction V with
 |nil=>intro m i;exact zR i
 |cons v vs ih=>
  intro m i
  simp only [oJ,fH]
  rw [xK,aoM (F.mul_zero v)]
  cases i with
  |zero=>rfl
  |succ i=>
   rw [qD,ih]
   rw [show cf (m.map F.sq)=fun j=>F.sq (cf m j) from funext fun j=>aoM F.Ia m j]
theorem NG:∀(V m:List Nat),V≠[]→m≠[]→(F.oJ V m).length+1=V.length+m.length:=by
 intro V
 induction V with
 |nil=>intro m h;exact absurd rfl h
 |cons v vs ih=>
  intro m _ hm
  have hl:0<m.length:=List.length_pos_iff.2 hm
  simp only [oJ]
  rw [NC,List.length_map,List.length_cons]
  by_cases hv:vs=[]
  ·subst hv;simp only [oJ,List.length_nil,List.length_cons];omega
  ·have:=ih (m.map F.sq) hv (by simpa using hm)
   rw [List.length_map] at this
   simp only [List.length_cons];omega
theorem ai3:∀{p q:List Nat},(∀c∈p,c<F.q)→(∀c∈q,c<F.q)→∀c∈jC p q,c<F.q:=by
 intro p
 induction p with
 |nil=>intro q _ hq;exact hq
 |cons a p ih=>
  intro q hp hq
  cases q with
  |nil=>exact hp
  |cons b q=>
   intro c hc
   rcases List.mem_cons.1 hc with rfl|hc
   ·exact F.xlt _ _ (hp _ (List.mem_cons_self ..)) (hq _ (List.mem_cons_self ..))
   ·exact ih (fun c hc=>hp c (List.mem_cons_of_mem _ hc)) (fun c hc=>hq c (List.mem_cons_of_mem _ hc)) c hc
theorem aqW:∀(V m:List Nat),∀c∈F.oJ V m,c<F.q:=by
 intro V
 induction V with
 |nil=>intro m c hc;cases hc
 |cons v vs ih=>
  intro m
  refine F.ai3 (fun c hc=>?_) (fun c hc=>?_)
  ·obtain ⟨x,_,rfl⟩:=List.mem_map.1 hc
   exact F.lt _ _
  ·rcases List.mem_cons.1 hc with rfl|hc
   ·exact F.zlt
   ·exact ih _ c hc
theorem axI(v:Nat):∀(m:List Nat)(x:Nat),F.lp (m.map (F.mul v)) x=F.mul v (F.lp m x):=by
 intro m
 induction m with
 |nil=>intro x;exact (F.mul_zero v).symm
 |cons c m ih=>
  intro x
  simp only [List.map_cons,lp]
  rw [ih,F.add,F.assoc]
theorem azH:∀(m:List Nat)(x:Nat),F.lp (m.map F.sq) (F.sq x)=F.sq (F.lp m x):=by
 intro m
 induction m with
 |nil=>intro x;exact F.Ia.symm
 |cons c m ih=>
  intro x
  simp only [List.map_cons,lp]
  rw [ih,F.ama,F.aAm]
theorem azE:∀(V m:List Nat)(x:Nat),F.lp (F.oJ V m) x=F.lp V (F.lp m x):=by
 intro V
 induction V with
 |nil=>intro m x;rfl
 |cons v vs ih=>
  intro m x
  simp only [oJ]
  rw [F.avX,F.axI]
  simp only [lp]
  rw [F.zero_mul,Nat.zero_xor,ih,F.azH]
theorem aev:∀(V:List Nat)(x y:Nat→Nat)(i:Nat),F.fH V (fun j=>x j^^^y j) i=F.fH V x i^^^F.fH V y i:=by
 intro V
 induction V with
 |nil=>intro x y i;simp [fH]
 |cons v vs ih=>
  intro x y i
  simp only [fH]
  rw [F.add]
  cases i with
  |zero=>simp
  |succ i=>
   simp only
   rw [show (fun j=>F.sq (x j^^^y j))=fun j=>F.sq (x j)^^^F.sq (y j) from funext fun j=>F.ama _ _,ih]
   ac_rfl
theorem aew:∀(V:List Nat)(d:Nat)(x:Nat→Nat)(j:Nat),V.length≤d+1→(∀i,j<i→x i=0)→F.fH V x (d+j)=F.mul (cf V d) (F.sqn d (x j)):=by
 intro V
 induction V with
 |nil=>intro d x j _ _;rw [zR,F.zero_mul];rfl
 |cons v vs ih=>
  intro d x j hl hx
  cases d with
  |zero=>
   have:vs=[]:=by simpa using hl
   subst this
   rw [Nat.zero_add,PX]
   simp only [fH,sqn]
   cases j with
   |zero=>simp
   |succ j=>simp
  |succ d=>
   rw [show d+1+j=d+j+1 by omega]
   simp only [fH]
   rw [hx _ (by omega),F.mul_zero,Nat.zero_xor,ih d (fun i=>F.sq (x i)) j (by simpa using hl) (fun i hi=>by rw [hx i hi,F.Ia]),qD]
   rfl
theorem aex(V:List Nat):∀(x:Nat→Nat)(j i:Nat),(∀i,j≤i→x i=0)→V.length+j≤i+1→F.fH V x i=0:=by
 induction V with
 |nil=>intro x j i _ _;rfl
 |cons v vs ih=>
  intro x j i hx hi
  simp only [List.length_cons] at hi
  simp only [fH]
  rw [hx i (by omega),F.mul_zero,Nat.zero_xor]
  cases i with
  |zero=>rfl
  |succ i=>exact ih _ j i (fun i hi=>by rw [hx i hi,F.Ia]) (by omega)
theorem aqX{V x:List Nat}(hV:∀c∈V,c<F.q)(hx:∀c∈x,c<F.q)(hn:V≠[])(hl:cf V (V.length-1)≠0)(h:∀i,V.length-1≤i→F.fH V (cf x) i=0):∀i,cf x i=0:=by
 have hvl:0<V.length:=List.length_pos_iff.2 hn
 have hlt:∀{l:List Nat},(∀c∈l,c<F.q)→∀i,cf l i<F.q:=by
  intro l hl i
  unfold cf
  rw [List.getD_eq_getElem?_getD]
  cases hi:l[i]? with
  |none=>exact F.zlt
  |some c=>exact hl c (List.mem_of_getElem? hi)
 have key:cB x=[]:=by
  apply Classical.byContradiction
  intro hne
  have ht:=rJ x hne
  rw [iU] at ht
  have htop:=F.aew V (V.length-1) (cf x) ((cB x).length-1) (by omega) (fun i hi=>by rw [←iU];exact abJ (by omega))
  rw [h _ (by omega)] at htop
  rcases F.nz (hlt hV _) (F.F8 _ (hlt hx _)) htop.symm with h0|h0
  ·exact hl h0
  ·exact ht (F.awJ _ (hlt hx _) h0)
 intro i
 rw [←iU,key,zR]
end FO
-- shared
def BD(M k:Nat):List Int:=(List.replicate M 0).set k 1
def okV(f:TF3)(M:Nat)(r:List Int):Prop:=r.length=M∧∀y∈r,inF f y
theorem PG{f:TF3}(hf:aN f=true)(M k:Nat):okV f M (BD M k):=by
 refine ⟨by simp [BD],fun y hy=>?_⟩
 rcases List.mem_or_eq_of_mem_set hy with h|rfl
 ·rw [(List.mem_replicate.1 h).2];exact gM
 ·exact apb hf
theorem aAI{f:TF3}(M:Nat):okV f M (List.replicate M 0):=⟨by simp,fun y hy=>by rw [(List.mem_replicate.1 hy).2];exact gM⟩
def lN(f:TF3):List Int→List Int→Int
 |x::u,y::w=>jw .i64 (gJ f x y) (lN f u w)
 |_,_=>0
theorem GY{f:TF3}(hf:aN f=true):∀{u w:List Int},(∀x∈u,inF f x)→(∀x∈w,inF f x)→inF f (lN f u w):=by
 intro u
 induction u with
 |nil=>intro w _ _;exact gM
 |cons x u ih=>
  intro w hu hw
  cases w with
  |nil=>exact gM
  |cons y w=>exact Ls hf (vK hf (hu x (List.mem_cons_self ..)) (hw y (List.mem_cons_self ..))) (ih (fun z hz=>hu z (List.mem_cons_of_mem _ hz)) fun z hz=>hw z (List.mem_cons_of_mem _ hz))
theorem Xu{f:TF3}(hf:aN f=true):∀{u w:List Int},(∀x∈u,inF f x)→(∀x∈w,inF f x)→lN f u w=lN f w u:=by
 intro u
 induction u with
 |nil=>intro w _ _;cases w<;>rfl
 |cons x u ih=>
  intro w hu hw
  cases w with
  |nil=>rfl
  |cons y w=>
   simp only [lN]
   rw [iK hf (hu x (List.mem_cons_self ..)) (hw y (List.mem_cons_self ..)),ih (fun z hz=>hu z (List.mem_cons_of_mem _ hz)) fun z hz=>hw z (List.mem_cons_of_mem _ hz)]
theorem aFu{f:TF3}(hf:aN f=true){a b c d:Int}(ha:inF f a)(hb:inF f b)(hc:inF f c)(hd:inF f d):jw .i64 (jw .i64 a b) (jw .i64 c d)=jw .i64 (jw .i64 a c) (jw .i64 b d):=by
 rw [yU hf ha hb (Ls hf hc hd),←yU hf hb hc hd,XV hf hb hc,yU hf hc hb hd,←yU hf ha hc (Ls hf hb hd)]
theorem axc{f:TF3}(hf:aN f=true){c:Int}(hc:inF f c):∀{u v w:List Int},u.length=v.length→(∀x∈u,inF f x)→(∀x∈v,inF f x)→(∀x∈w,inF f x)→lN f (ael f u v c) w=jw .i64 (lN f u w) (gJ f c (lN f v w)):=by
 intro u
 induction u with
 |nil=>
  intro v w hl _ _ _
  cases v with
  |nil=>simp only [ael,List.zip_nil_left,List.map_nil,lN];rw [sG hf hc,qo hf gM]
  |cons y v=>simp at hl
 |cons x u ih=>
  intro v w hl hu hv hw
  cases v with
  |nil=>simp at hl
  |cons y v=>
   cases w with
   |nil=>simp only [lN,ael,List.zip_cons_cons,List.map_cons];rw [sG hf hc,qo hf gM]
   |cons z w=>
    have hx:=hu x (List.mem_cons_self ..)
    have hy:=hv y (List.mem_cons_self ..)
    have hz:=hw z (List.mem_cons_self ..)
    have hu2:∀x∈u,inF f x:=fun z hz=>hu z (List.mem_cons_of_mem _ hz)
    have hv2:∀x∈v,inF f x:=fun z hz=>hv z (List.mem_cons_of_mem _ hz)
    have hw2:∀x∈w,inF f x:=fun z hz=>hw z (List.mem_cons_of_mem _ hz)
    have:=ih (by simpa using hl) hu2 hv2 hw2
    unfold ael at this
    simp only [ael,List.zip_cons_cons,List.map_cons,lN]
    rw [this]
    have hd1:=GY hf hu2 hw2
    have hd2:=GY hf hv2 hw2
    have hyc:=vK hf hy hc
    rw [akY hf hc (vK hf hy hz) hd2]
    rw [iK hf (Ls hf hx hyc) hz,akY hf hz hx hyc,iK hf hz hx]
    rw [show gJ f z (gJ f y c)=gJ f c (gJ f y z) from by
     rw [iK hf hy hc,←aaL hf hz hc hy,iK hf hz hc,aaL hf hc hz hy,iK hf hz hy]]
    exact aFu hf (vK hf hx hz) (vK hf hc (vK hf hy hz)) hd1 (vK hf hc hd2)
theorem aeB{f:TF3}(hf:aN f=true):∀{w:List Int}(n:Nat),(∀x∈w,inF f x)→lN f (List.replicate n 0) w=0:=by
 intro w n
 induction n generalizing w with
 |zero=>intro _;rfl
 |succ n ih=>
  intro hw
  cases w with
  |nil=>rfl
  |cons y w=>
   simp only [List.replicate_succ,lN]
   rw [ih fun z hz=>hw z (List.mem_cons_of_mem _ hz),iK hf gM (hw y (List.mem_cons_self ..)),sG hf (hw y (List.mem_cons_self ..)),qo hf gM]
theorem anO{f:TF3}(hf:aN f=true):∀{w:List Int}(n k:Nat),(∀x∈w,inF f x)→n=w.length→k<n→lN f (BD n k) w=w.getD k 0:=by
 intro w
 induction w with
 |nil=>intro n k _ h1 h2;simp at h1;omega
 |cons y w ih=>
  intro n k hw h1 h2
  simp only [List.length_cons] at h1
  subst h1
  have hy:=hw y (List.mem_cons_self ..)
  have hw2:∀x∈w,inF f x:=fun z hz=>hw z (List.mem_cons_of_mem _ hz)
  cases k with
  |zero=>
   simp only [BD,List.replicate_succ,List.set_cons_zero,lN,List.getD_cons_zero]
   rw [aeB hf _ hw2,iK hf (apb hf) hy,acS hf hy,PK hf hy]
  |succ k=>
   have:=ih w.length k hw2 rfl (by omega)
   unfold BD at this
   simp only [BD,List.replicate_succ,List.set_cons_succ,lN,List.getD_cons_succ]
   rw [this,iK hf gM hy,sG hf hy]
   refine qo hf ?_
   rw [List.getD_eq_getElem?_getD,List.getElem?_eq_getElem (by omega)]
   exact hw2 _ (List.getElem_mem _)
-- shared
def cell(L:List (List Int))(j c:Nat):Int:=(L.getD j []).getD c 0
theorem cell_of{L:List (List Int)}{j c:Nat}{r:List Int}{x:Int}(h:L[j]?=some r)(hx:r[c]?=some x):cell L j c=x:=by
 unfold cell;rw [tF h,tF hx]
theorem aqU{L:List (List Int)}{j c:Nat}{r:List Int}(h:L[j]?=some r):cell L j c=r.getD c 0:=by
 unfold cell;rw [tF h]
theorem KO{f:TF3}{n:Nat}{L:List (List Int)}(h:GR f n L)(j c:Nat):inF f (cell L j c):=by
 unfold cell
 cases hj:L[j]? with
 |none=>rw [List.getD_eq_getElem?_getD (l:=L),hj];exact gM
 |some r=>
  rw [tF hj,List.getD_eq_getElem?_getD]
  cases hc:r[c]? with
  |none=>exact gM
  |some x=>exact (D5 h hj).2 x (List.mem_of_getElem? hc)
theorem aod{f:TF3}{n:Nat}{L:List (List Int)}(h:GR f n L){j c:Nat}(hc:c<n){r:List Int}(hr:L[j]?=some r):C8 c r = !decide (cell L j c=0):=by
 have hx:=List.getElem?_eq_getElem (show c<r.length by rw [(D5 h hr).1];exact hc)
 rw [cell_of hr hx]
 unfold C8
 rw [hx]
theorem arQ{α:Type}(p:α→Bool):∀(l:List α)(i:Nat){k:Nat},ny p i l=((i+k:Nat):Int)→∀j,j<k→∀x,l[j]?=some x→p x=false:=by
 intro l
 induction l with
 |nil=>intro i k h j hj x hx;simp at hx
 |cons y l ih=>
  intro i k h j hj x hx
  rcases Bool.eq_false_or_eq_true (p y) with hp|hp
  ·simp only [ny,hp,cond_true] at h;omega
  ·simp only [ny,hp,cond_false] at h
   cases j with
   |zero=>simp only [List.getElem?_cons_zero,Option.some.injEq] at hx;subst hx;exact hp
   |succ j=>exact ih (i+1) (k:=k-1) (by rw [h];congr 1;omega) j (by omega) x (by simpa using hx)
theorem YN{f:TF3}(hf:aN f=true){n c:Nat}(hc:c<n){a:Nat}{L:List (List Int)}(h:GR f n L) :
  ((∀j,a≤j→j<L.length→cell L j c=0)∧iV f c (a,L)=(a,L)) ∨
  ∃(k:Nat) (G:List (List Int)),a≤k∧k<L.length∧cell L k c≠0∧(∀j,a≤j→j<k→cell L j c=0)∧iV f c (a,L)=(a+1,G)∧GR f n G∧G.length=L.length ∧
   (∀e,e<n→cell G a e=gJ f (cell L k e) (zO f (cell L k c))) ∧
   ∀j,j<L.length→j≠a→∀e,e<n→cell G j e=jw .i64 (cell L (if j=k then a else j) e) (gJ f (cell L (if j=k then a else j) c) (cell G a e)):=by
 have hok:=Ip (c:=c) (s:=(a,L)) hf h
 rcases yK (C8 c) (L.drop a) a with ⟨h1,h2⟩|⟨k,row,h1,h2,h3⟩
 ·left
  refine ⟨fun j hj hl=>?_,?_⟩
  ·have hr:=List.getElem?_eq_getElem hl
   have hm:L[j]∈L.drop a:=by
    refine List.mem_of_getElem? (i:=j-a) ?_
    rw [List.getElem?_drop,show a+(j-a)=j by omega]
    exact hr
   have:=h2 _ hm
   rw [aod h hc hr] at this
   simpa using this
  ·unfold iV
   dsimp only
   rw [h1]
   rfl
 ·right
  have hak:L[a+k]?=some row:=by rw [←h1,List.getElem?_drop]
  have hlt:=(List.getElem?_eq_some_iff.1 hak).1
  obtain ⟨r0,hr0⟩:∃r0,L[a]?=some r0:=⟨_,List.getElem?_eq_getElem (by omega)⟩
  obtain ⟨x,hx,hx0⟩:=apG h2
  have hxf:=(D5 h hak).2 x (List.mem_of_getElem? hx)
  have hrl:=(D5 h hak).1
  have hst:iV f c (a,L)=(a+1,Fv f c a (Ub f c (a+k) a L)):=by
   unfold iV
   dsimp only
   rw [h3,decide_eq_false (by omega),cond_false,Int.toNat_natCast]
  have hp:Ub f c (a+k) a L=(L.set (a+k) r0).set a (row.map fun y=>gJ f y (zO f x)):=by
   unfold Ub abx
   rw [hak,hr0]
   simp only [hx]
  have hpg:=aje (c:=c) (k:=a+k) (a:=a) hf h
  have hpa:(Ub f c (a+k) a L)[a]?=some (row.map fun y=>gJ f y (zO f x)):=by rw [hp];exact List.getElem?_set_self (by simp;omega)
  have hcl:Fv f c a (Ub f c (a+k) a L)=(Ub f c (a+k) a L).mapIdx (oz f c a (row.map fun y=>gJ f y (zO f x))):=by
   unfold Fv;rw [hpa]
  have hcg:=anL (c:=c) (a:=a) hf hpg.1
  have hkc:cell L (a+k) c=x:=cell_of hak hx
  have hone:gJ f x (zO f x)=1:=(uO hf hxf).2 hx0
  have hownc:(row.map fun y=>gJ f y (zO f x))[c]?=some 1:=by rw [List.getElem?_map,hx,Option.map_some,hone]
  have hga:(Fv f c a (Ub f c (a+k) a L))[a]?=some (row.map fun y=>gJ f y (zO f x)):=by
   rw [hcl,List.getElem?_mapIdx,hpa,Option.map_some]
   unfold oz
   rw [hownc]
   simp
  refine ⟨a+k,Fv f c a (Ub f c (a+k) a L),by omega,hlt,by rw [hkc];exact hx0,fun j h4 h5=>?_,hst,hcg.1,by rw [hcg.2,hpg.2],fun e he=>?_,fun j hj hja e he=>?_⟩
  ·-- those before the pivot
   have hr:=List.getElem?_eq_getElem (show j<L.length by omega)
   have hb:=arQ (C8 c) (L.drop a) a h3 (j-a) (by omega) L[j] (by rw [List.getElem?_drop,show a+(j-a)=j by omega];exact hr)
   rw [aod h hc hr] at hb
   simpa using hb
  ·have hy:=List.getElem?_eq_getElem (show e<row.length by omega)
   rw [cell_of hak hy,hkc]
   exact cell_of hga (by rw [List.getElem?_map,hy];rfl)
  ·have hj0:(Ub f c (a+k) a L)[j]?=L[if j=a+k then a else j]?:=by
    rw [hp,List.getElem?_set_ne (Ne.symm hja),List.getElem?_set]
    by_cases hjk:j=a+k
    ·rw [if_pos hjk.symm,if_pos hlt,if_pos hjk,hr0]
    ·rw [if_neg (Ne.symm hjk),if_neg hjk]
   obtain ⟨r,hr⟩:∃r,L[if j=a+k then a else j]?=some r:=⟨_,List.getElem?_eq_getElem (by split<;>omega)⟩
   rw [hr] at hj0
   obtain ⟨hrl2,hrf2⟩:=D5 h hr
   have hz:=List.getElem?_eq_getElem (show c<r.length by omega)
   have hy:=List.getElem?_eq_getElem (show e<r.length by omega)
   have hye:=List.getElem?_eq_getElem (show e<(row.map fun y=>gJ f y (zO f x)).length by simp;omega)
   have hyf:=hrf2 _ (List.mem_of_getElem? hy)
   have hown:=(D5 hpg.1 hpa).2
   rw [cell_of hr hy,cell_of hr hz,cell_of hga hye]
   have hgj:(Fv f c a (Ub f c (a+k) a L))[j]?=some (oz f c a (row.map fun y=>gJ f y (zO f x)) j r):=by
    rw [hcl,List.getElem?_mapIdx,hj0,Option.map_some]
   have hwe:=hown _ (List.mem_of_getElem? hye)
   unfold oz at hgj
   rw [hz] at hgj
   dsimp only at hgj
   rw [decide_eq_false hja,Bool.false_or] at hgj
   by_cases h0:r[c]=0
   ·rw [decide_eq_true h0,cond_true] at hgj
    rw [cell_of hgj hy,h0,iK hf gM hwe,sG hf hwe,PK hf hyf]
   ·rw [decide_eq_false h0,cond_false] at hgj
    refine cell_of hgj ?_
    rw [List.getElem?_map]
    rw [show (r.zip (row.map fun y=>gJ f y (zO f x)))[e]?=some (r[e],(row.map fun y=>gJ f y (zO f x))[e]'(by simp;omega)) from List.getElem?_zip_eq_some.2 ⟨hy,hye⟩]
    rfl
-- shared
structure yA(f:TF3)(n c a:Nat)(L:List (List Int))(p:List Nat):Prop where
 gr:GR f n L
 ac:a≤c
 al:a≤L.length
 pl:p.length=a
 plt:∀q∈p,q<c
 pinc:p.Pairwise (· < ·)
 low:∀j,a≤j→j<L.length→∀e,e<c→cell L j e=0
 dia:∀i q,p[i]?=some q→∀j,j<L.length→cell L j q=if j=i then 1 else 0
 lead:∀i q,p[i]?=some q→∀e,e<q→cell L i e=0
 full:a=c→p=List.range c
theorem yA.start{f:TF3}{n:Nat}{L:List (List Int)}(h:GR f n L):yA f n 0 0 L []:=
 ⟨h,Nat.le_refl _,Nat.zero_le _,rfl,fun _ h=>absurd h List.not_mem_nil,List.Pairwise.nil,fun _ _ _ _ h=>absurd h (Nat.not_lt_zero _),fun i q h=>absurd h (by simp),fun i q h=>absurd h (by simp),fun _=>rfl⟩
theorem yA.step{f:TF3}(hf:aN f=true){n c a:Nat}{L:List (List Int)}{p:List Nat}(h:yA f n c a L p)(hc hn:c<n):∃p',yA f n (c+1) (iV f c (a,L)).1 (iV f c (a,L)).2 p'∧(iV f c (a,L)).2.length=L.length:=by
 rcases YN hf hc (a:=a) h.gr with ⟨h1,h2⟩|⟨k,G,hak,hk,hx,_,h2,hg,hgl,hga,hgj⟩
 ·rw [h2]
  refine ⟨p,⟨h.gr,by have:=h.ac;omega,h.al,h.pl,fun q hq=>by have:=h.plt q hq;omega,h.pinc,fun j hj hl e he=>?_,h.dia,h.lead,fun hh=>by have:=h.ac;dsimp only at hh;omega⟩,rfl⟩
  by_cases hec:e=c
  ·subst hec;exact h1 j hj hl
  ·exact h.low j hj hl e (by omega)
 ·rw [h2]
  have hin:=KO h.gr
  have hgin:=KO hg
  have hxi:=uO hf (hin k c)
  have g1:cell G a c=1:=by rw [hga c hc];exact hxi.2 hx
  have g0:∀e,e<c→cell G a e=0:=by
   intro e he
   rw [hga e (by omega),h.low k hak hk e he,iK hf gM hxi.1,sG hf hxi.1]
  have gj0:∀j,j<L.length→j≠a→∀e,e<c→cell G j e=cell L (if j=k then a else j) e:=by
   intro j hj hja e he
   rw [hgj j hj hja e (by omega),g0 e he,sG hf (hin _ _),PK hf (hin _ _)]
  have gjc:∀j,j<L.length→j≠a→cell G j c=0:=by
   intro j hj hja
   rw [hgj j hj hja c hc,g1,acS hf (hin _ _),PI hf (hin _ _)]
  have hpa:∀i q,(p++[c])[i]?=some q→(p[i]?=some q∧i<a)∨(i=a∧q=c):=by
   intro i q hi
   rw [List.getElem?_append,h.pl] at hi
   by_cases hia:i<a
   ·rw [if_pos hia] at hi;exact .inl ⟨hi,hia⟩
   ·rw [if_neg hia] at hi
    have:=(List.getElem?_eq_some_iff.1 hi).1
    simp only [List.length_cons,List.length_nil] at this
    have hia2:i=a:=by omega
    subst hia2
    rw [Nat.sub_self] at hi
    exact .inr ⟨rfl,(Option.some.inj hi).symm⟩
  refine ⟨p++[c],⟨hg,by have:=h.ac;dsimp only;omega,by dsimp only;rw [hgl];omega,by simp [h.pl],fun q hq=>?_,?_,fun j hj hl e he=>?_,fun i q hi j hj=>?_,fun i q hi e he=>?_,fun hh=>?_⟩,hgl⟩
  ·rcases List.mem_append.1 hq with hq|hq
   ·have:=h.plt q hq;omega
   ·simp only [List.mem_singleton] at hq;omega
  ·refine List.pairwise_append.2 ⟨h.pinc,List.pairwise_singleton _ _,fun z hz y hy=>?_⟩
   rw [List.mem_singleton.1 hy];exact h.plt z hz
  ·rw [hgl] at hl
   dsimp only at hj
   by_cases hec:e=c
   ·subst hec;exact gjc j hl (by omega)
   ·rw [gj0 j hl (by omega) e (by omega)]
    exact h.low _ (by split<;>omega) (by split<;>omega) e (by omega)
  ·rw [hgl] at hj
   rcases hpa i q hi with ⟨hi,hia⟩|⟨rfl,rfl⟩
   ·have hqc:=h.plt q (List.mem_of_getElem? hi)
    by_cases hja:j=a
    ·subst hja;rw [g0 q hqc,if_neg (by omega)]
    ·rw [gj0 j hj hja q hqc,h.dia i q hi _ (by split<;>omega)]
     by_cases hjk:j=k
     ·rw [if_pos hjk,if_neg (by omega),if_neg (by omega)]
     ·rw [if_neg hjk]
   ·by_cases hja:j=i
    ·subst hja;rw [g1,if_pos rfl]
    ·rw [gjc j hj hja,if_neg hja]
  ·rcases hpa i q hi with ⟨hi,hia⟩|⟨rfl,rfl⟩
   ·have hqc:=h.plt q (List.mem_of_getElem? hi)
    rw [gj0 i (by have:=h.al;omega) (by omega) e (by omega),if_neg (by omega)]
    exact h.lead i q hi e he
   ·exact g0 e he
  ·dsimp only at hh
   rw [h.full (by omega),←List.range_succ]
theorem yA.from{f:TF3}(hf:aN f=true){n:Nat}:∀(m c a:Nat)(L:List (List Int))(p:List Nat),c+m≤n→yA f n c a L p→∃p',yA f n (c+m) (gT f c m (a,L)).1 (gT f c m (a,L)).2 p'∧(gT f c m (a,L)).2.length=L.length:=by
 intro m
 induction m with
 |zero=>intro c a L p _ h;exact ⟨p,h,rfl⟩
 |succ m ih=>
  intro c a L p hc h
  obtain ⟨p1,h1,hl1⟩:=h.step hf (by omega) (by omega)
  obtain ⟨p2,h2,hl2⟩:=ih (c+1) _ _ p1 (by omega) h1
  rw [show c+1+m=c+(m+1) by omega] at h2
  exact ⟨p2,h2,by rw [←hl1];exact hl2⟩
theorem yA.all{f:TF3}(hf:aN f=true){n m:Nat}{L:List (List Int)}(hm:m≤n)(h:GR f n L):∃p,yA f n m (gT f 0 m (0,L)).1 (gT f 0 m (0,L)).2 p∧(gT f 0 m (0,L)).2.length=L.length:=by
 have:=yA.from hf m 0 0 L [] (by omega) (yA.start h)
 rw [Nat.zero_add] at this
 exact this
section
variable {f : TF3} (hf : aN f = true) {n c : Nat} (hc : c < n) {x : List Int} (hx : ∀ y ∈ x, inF f y)
include hc
include hf hx
end
theorem axG{l:List Int}(h:∀e,e<l.length→l.getD e 0=0):l=List.replicate l.length 0:=by
 apply List.ext_getElem?
 intro e
 rw [List.getElem?_replicate]
 by_cases he:e<l.length
 ·rw [if_pos he]
  have:=h e he
  rw [List.getD_eq_getElem?_getD,List.getElem?_eq_getElem he] at this
  rw [List.getElem?_eq_getElem he]
  exact congrArg some this
 ·rw [if_neg he,List.getElem?_eq_none (by omega)]
-- shared
theorem ajc{f:TF3}(hf:aN f=true){b:Int}(hb:inF f b):gJ f 0 b=0:=by rw [iK hf gM hb,sG hf hb]
theorem auR{f:TF3}(hf:aN f=true){a b:Int}(ha:inF f a)(hb:inF f b)(h0:a≠0)(h:gJ f b (zO f a)=0):b=0:=by
 obtain ⟨h1,h2⟩:=uO hf ha
 rw [←acS hf hb,←h2 h0,iK hf ha h1,←aaL hf hb h1 ha,h,ajc hf ha]
theorem atH{f:TF3}{n:Nat}{u v w:List Int}{c:Int}(hu:okV f n u)(hv:okV f n v)(hw:okV f n w)(hf:aN f=true)(hc:inF f c)(h:∀e,e<n→w.getD e 0=jw .i64 (u.getD e 0) (gJ f c (v.getD e 0))):w=ael f u v c:=by
 apply List.ext_getElem?
 intro e
 unfold ael
 rw [List.getElem?_map]
 by_cases he:e<n
 ·have h1:=List.getElem?_eq_getElem (show e<w.length by rw [hw.1];exact he)
  have h2:=List.getElem?_eq_getElem (show e<u.length by rw [hu.1];exact he)
  have h3:=List.getElem?_eq_getElem (show e<v.length by rw [hv.1];exact he)
  have:=h e he
  rw [tF h1,tF h2,tF h3] at this
  rw [h1,(List.getElem?_zip_eq_some (z:=(u[e]'(by rw [hu.1];exact he),v[e]'(by rw [hv.1];exact he)))).2 ⟨h2,h3⟩,this,iK hf hc (hv.2 _ (List.mem_of_getElem? h3))]
  rfl
 ·rw [List.getElem?_eq_none (by rw [hw.1];omega),List.getElem?_eq_none (l:=u.zip v) (by rw [List.length_zip,hu.1];omega)]
  rfl
theorem ajK{f:TF3}{n:Nat}{u v w x:List Int}{c:Int}(hf:aN f=true)(hu:okV f n u)(hv:okV f n v)(hw:okV f n w)(hc:inF f c)(hx:∀y∈x,inF f y)(h:∀e,e<n→w.getD e 0=jw .i64 (u.getD e 0) (gJ f c (v.getD e 0))):lN f w x=jw .i64 (lN f u x) (gJ f c (lN f v x)):=by
 rw [atH hu hv hw hf hc h,axc hf hc (hu.1.trans hv.1.symm) hu.2 hv.2 hx]
theorem ard{f:TF3}(hf:aN f=true){n c:Nat}(hc:c<n){a:Nat}{L:List (List Int)}(h:GR f n L)(ha:a≤L.length){x:List Int}(hx:∀y∈x,inF f y) :
  (∀r∈(iV f c (a,L)).2,lN f r x=0) ↔ ∀r∈L,lN f r x=0:=by
 rcases YN hf hc (a:=a) h with ⟨_,h2⟩|⟨k,G,hak,hk,hnz,_,h2,hg,hgl,hga,hgj⟩
 ·rw [h2]
 rw [h2]
 dsimp only
 have hrow:∀{M:List (List Int)},GR f n M→∀{j:Nat},j<M.length→okV f n (M.getD j [])∧M.getD j []∈M:=by
  intro M hM j hj
  have:=List.getElem?_eq_getElem hj
  rw [tF this]
  exact ⟨D5 hM this,List.mem_of_getElem? this⟩
 have hal:a<G.length:=by omega
 have hkc:=KO h k c
 obtain ⟨hi1,hi2⟩:=uO hf hkc
 have hGa:lN f (G.getD a []) x=gJ f (lN f (L.getD k []) x) (zO f (cell L k c)):=by
  have h0:=ajK (u:=List.replicate n 0) hf (aAI n) (hrow h hk).1 (hrow hg hal).1 hi1 hx (fun e he=>by
   have:(G.getD a []).getD e 0=gJ f (cell L k e) (zO f (cell L k c)):=hga e he
   rw [this,iK hf (KO h k e) hi1]
   rw [List.getD_eq_getElem?_getD (l:=List.replicate n (0:Int)),List.getElem?_replicate,if_pos he]
   simp only [Option.getD_some]
   exact (qo hf (vK hf hi1 (KO h k e))).symm)
  rw [h0,aeB hf n hx,qo hf (vK hf hi1 (GY hf (hrow h hk).1.2 hx)),iK hf hi1 (GY hf (hrow h hk).1.2 hx)]
 have hGj:∀j,j<L.length→j≠a→lN f (G.getD j []) x=jw .i64 (lN f (L.getD (if j=k then a else j) []) x) (gJ f (cell L (if j=k then a else j) c) (lN f (G.getD a []) x)):=by
  intro j hj hja
  have hj':(if j=k then a else j)<L.length:=by split<;>omega
  exact ajK hf (hrow h hj').1 (hrow hg hal).1 (hrow hg (by omega)).1 (KO h _ c) hx fun e he=>hgj j hj hja e he
 constructor
 ·intro hk0 r hr
  have h1:lN f (G.getD a []) x=0:=hk0 _ (hrow hg hal).2
  have h2:lN f (L.getD k []) x=0:=auR hf hkc (GY hf (hrow h hk).1.2 hx) hnz (hGa ▸ h1)
  obtain ⟨i,hi⟩:=List.getElem?_of_mem hr
  have hil:=(List.getElem?_eq_some_iff.1 hi).1
  rw [←tF (d:=[]) hi]
  by_cases hik:i=k
  ·subst hik;exact h2
  ·obtain ⟨j,hj,hja,hji⟩:∃j,j<L.length∧j≠a∧(if j=k then a else j)=i:=by
    by_cases hia:i=a
    ·exact ⟨k,hk,by omega,by rw [if_pos rfl,hia]⟩
    ·exact ⟨i,hil,hia,by rw [if_neg hik]⟩
   have h3:=hGj j hj hja
   rw [hji,h1,sG hf (KO h _ c),hk0 _ (hrow hg (by omega)).2] at h3
   rw [PK hf (GY hf (hrow h hil).1.2 hx)] at h3
   exact h3.symm
 ·intro hL r hr
  have h1:lN f (G.getD a []) x=0:=by rw [hGa,hL _ (hrow h hk).2,ajc hf hi1]
  obtain ⟨i,hi⟩:=List.getElem?_of_mem hr
  have hil:=(List.getElem?_eq_some_iff.1 hi).1
  rw [←tF (d:=[]) hi]
  by_cases hia:i=a
  ·subst hia;exact h1
  ·have hj':(if i=k then a else i)<L.length:=by split<;>omega
   rw [hGj i (by omega) hia,h1,sG hf (KO h _ c),hL _ (hrow h hj').2,PI hf gM]
theorem ara{f:TF3}(hf:aN f=true){n:Nat}{x:List Int}(hx:∀y∈x,inF f y):∀(m c a:Nat)(L:List (List Int)),c+m≤n→GR f n L→a≤L.length →
  ((∀r∈(gT f c m (a,L)).2,lN f r x=0) ↔ ∀r∈L,lN f r x=0):=by
 intro m
 induction m with
 |zero=>intro c a L _ _ _;exact Iff.rfl
 |succ m ih=>
  intro c a L hc h ha
  have h1:=Ip (c:=c) (s:=(a,L)) hf h ha
  unfold gT
  rw [show iV f c (a,L)=((iV f c (a,L)).1,(iV f c (a,L)).2) from rfl,ih (c+1) _ _ (by omega) h1.1 (by rw [h1.2.1];exact h1.2.2)]
  exact ard hf (by omega) h ha hx
theorem ajM{f:TF3}(hf:aN f=true){n:Nat}{L:List (List Int)}(h:GR f n L){x:List Int}(hx:∀y∈x,inF f y):(∀r∈D9 f n L,lN f r x=0) ↔ ∀r∈L,lN f r x=0:=by
 rw [←ara hf hx n 0 0 L (by omega) h (Nat.zero_le _)]
 obtain ⟨p,hI,hl⟩:=yA.all hf (Nat.le_refl n) h
 unfold D9
 generalize hs:gT f 0 n (0,L)=s at hI hl
 obtain ⟨a,G⟩:=s
 dsimp only at hI hl ⊢
 constructor
 ·intro h0 r hr
  obtain ⟨i,hi⟩:=List.getElem?_of_mem hr
  have hil:=(List.getElem?_eq_some_iff.1 hi).1
  by_cases hia:i<a
  ·exact h0 r (List.mem_of_getElem? (i:=i) (by rw [List.getElem?_take_of_lt hia];exact hi))
  ·have hz:r=List.replicate n 0:=by
    have hrl:=(D5 hI.gr hi).1
    have:=axG (l:=r) fun e he=>by
     have:=hI.low i (by omega) hil e (by omega)
     rwa [aqU hi] at this
    rwa [hrl] at this
   rw [hz,aeB hf n hx]
 ·intro h0 r hr
  exact h0 r (List.mem_of_mem_take hr)
theorem aq8{f:TF3}(hf:aN f=true):∀{r x:List Int}{q:Nat}{v:Int},(∀y∈r,inF f y)→(∀y∈x,inF f y)→inF f v→r.length=x.length→lN f r (x.set q v)=jw .i64 (lN f r x) (gJ f (r.getD q 0) (jw .i64 (x.getD q 0) v)):=by
 intro r
 induction r with
 |nil=>
  intro x q v _ hx hv hl
  have:x=[]:=List.length_eq_zero_iff.1 hl.symm
  subst this
  simp only [lN,List.getD_nil]
  rw [qo hf hv,ajc hf hv,PI hf gM]
 |cons a r ih=>
  intro x q v hr hx hv hl
  cases x with
  |nil=>simp at hl
  |cons b x=>
   have ha:=hr a (List.mem_cons_self ..)
   have hb:=hx b (List.mem_cons_self ..)
   have hr':∀y∈r,inF f y:=fun y hy=>hr y (List.mem_cons_of_mem _ hy)
   have hx':∀y∈x,inF f y:=fun y hy=>hx y (List.mem_cons_of_mem _ hy)
   cases q with
   |zero=>
    simp only [List.set_cons_zero,lN,List.getD_cons_zero]
    have h1:=vK hf ha hb
    have h2:=vK hf ha hv
    have h3:=GY hf hr' hx'
    rw [akY hf ha hb hv,XV hf h1 h3,yU hf h3 h1 (Ls hf h1 h2),←yU hf h1 h1 h2,PI hf h1,qo hf h2,XV hf h2 h3]
   |succ q=>
    simp only [List.set_cons_succ,lN,List.getD_cons_succ]
    have h3:=GY hf hr' hx'
    have hq:∀{l:List Int},(∀y∈l,inF f y)→inF f (l.getD q 0):=fun {l} hl=>by
     rw [List.getD_eq_getElem?_getD]
     cases hc:l[q]? with
     |none=>exact gM
     |some y=>exact hl y (List.mem_of_getElem? hc)
    have h4:=vK hf (hq hr') (Ls hf (hq hx') hv)
    rw [ih hr' hx' hv (by simpa using hl),yU hf (vK hf ha hb) h3 h4]
def jg(c:Nat):List Int→List (Nat×List Int)→List Int
 |out,[]=>out
 |out,(q,row)::l=>jg c (out.set q (row.getD c 0)) l
theorem Jt{f:TF3}{n c:Nat}:∀(l:List (Nat×List Int)){out:List Int},okV f n out→(∀p∈l,okV f n p.2)→okV f n (jg c out l):=by
 intro l
 induction l with
 |nil=>intro out h _;exact h
 |cons p l ih=>
  intro out h hp
  obtain ⟨q,row⟩:=p
  refine ih ⟨by rw [List.length_set];exact h.1,fun y hy=>?_⟩ fun p hp'=>hp p (List.mem_cons_of_mem _ hp')
  rcases List.mem_or_eq_of_mem_set hy with hy|rfl
  ·exact h.2 y hy
  ·have hrow:=hp _ (List.mem_cons_self ..)
   rw [List.getD_eq_getElem?_getD]
   cases hc:row[c]? with
   |none=>exact gM
   |some z=>exact hrow.2 z (List.mem_of_getElem? hc)
theorem acX{c:Nat}:∀(l:List (Nat×List Int)){out:List Int}{e:Nat},(∀p∈l,p.1≠e)→(jg c out l).getD e 0=out.getD e 0:=by
 intro l
 induction l with
 |nil=>intro out e _;rfl
 |cons p l ih=>
  intro out e h
  obtain ⟨q,row⟩:=p
  unfold jg
  rw [ih fun p hp=>h p (List.mem_cons_of_mem _ hp),List.getD_eq_getElem?_getD,List.getElem?_set_ne (h _ (List.mem_cons_self ..)),←List.getD_eq_getElem?_getD]
theorem acW{f:TF3}(hf:aN f=true){n c:Nat}{r:List Int}(hr:okV f n r):∀(l:List (Nat×List Int)){out:List Int},okV f n out→(∀p∈l,okV f n p.2∧r.getD p.1 0=0)→lN f r (jg c out l)=lN f r out:=by
 intro l
 induction l with
 |nil=>intro out _ _;rfl
 |cons p l ih=>
  intro out h hp
  obtain ⟨q,row⟩:=p
  have h1:=hp _ (List.mem_cons_self ..)
  have ho:=Jt (c:=c) [(q,row)] h fun p hp=>by rw [List.mem_singleton.1 hp];exact h1.1
  show lN f r (jg c (out.set q (row.getD c 0)) l)=_
  have ho:okV f n (out.set q (row.getD c 0)):=ho
  rw [ih ho fun p hp'=>hp p (List.mem_cons_of_mem _ hp')]
  have hrow:inF f (row.getD c 0):=by
   rw [List.getD_eq_getElem?_getD]
   cases hc:row[c]? with
   |none=>exact gM
   |some z=>exact h1.1.2 z (List.mem_of_getElem? hc)
  have hoq:inF f (out.getD q 0):=by
   rw [List.getD_eq_getElem?_getD]
   cases hc:out[q]? with
   |none=>exact gM
   |some z=>exact h.2 z (List.mem_of_getElem? hc)
  rw [aq8 hf hr.2 h.2 hrow (hr.1.trans h.1.symm),h1.2,ajc hf (Ls hf hoq hrow),PK hf (GY hf hr.2 h.2)]
-- shared
theorem agU(c:Nat):∀(l1 l2:List (Nat×List Int))(out:List Int),jg c out (l1++l2)=jg c (jg c out l1) l2:=by
 intro l1
 induction l1 with
 |nil=>intro l2 out;rfl
 |cons p l1 ih=>intro l2 out;obtain ⟨q,row⟩:=p;exact ih l2 _
theorem getD_in{f:TF3}{l:List Int}(h:∀y∈l,inF f y)(i:Nat):inF f (l.getD i 0):=by
 rw [List.getD_eq_getElem?_getD]
 cases hc:l[i]? with
 |none=>exact gM
 |some y=>exact h y (List.mem_of_getElem? hc)
theorem amh(n c e:Nat):(BD n c).getD e 0=if c=e∧e<n then 1 else 0:=by
 unfold BD
 rw [List.getD_eq_getElem?_getD,List.getElem?_set,List.length_replicate]
 split
 ·rename_i h;subst h
  split
  ·rename_i h;rw [if_pos ⟨rfl,h⟩];rfl
  ·rename_i h;rw [if_neg fun hh=>h hh.2];rfl
 ·rename_i h
  rw [if_neg fun hh=>h hh.1,List.getElem?_replicate]
  split<;>rfl
def Sy(n c:Nat)(p:List Nat)(E:List (List Int)):List Int:=jg c (BD n c) (p.zip E)
section
variable {f : TF3} {n a : Nat} {G : List (List Int)} {p : List Nat}
theorem yA.row(h:yA f n n a G p){i:Nat}(hi:i<a):∃r,(G.take a)[i]?=some r∧okV f n r∧(∀e,r.getD e 0=cell G i e):=by
 have:=h.al
 have hr:=List.getElem?_eq_getElem (show i<G.length by omega)
 exact ⟨G[i],by rw [List.getElem?_take_of_lt hi];exact hr,D5 h.gr hr,fun e=>(aqU hr).symm⟩
theorem yA.piv(h:yA f n n a G p){i:Nat}(hi:i<a):∃q,p[i]?=some q∧q<n:=by
 have hl:=h.pl
 have hq:=List.getElem?_eq_getElem (show i<p.length by omega)
 exact ⟨_,hq,h.plt _ (List.mem_of_getElem? hq)⟩
theorem yA.pne(h:yA f n n a G p){i j q q':Nat}(hi:p[i]?=some q)(hj:p[j]?=some q')(hij:i≠j):q≠q':=by
 obtain ⟨h1,rfl⟩:=List.getElem?_eq_some_iff.1 hi
 obtain ⟨h2,rfl⟩:=List.getElem?_eq_some_iff.1 hj
 rcases Nat.lt_or_gt_of_ne hij with hlt|hlt
 ·have:=List.pairwise_iff_getElem.1 h.pinc i j h1 h2 hlt;omega
 ·have:=List.pairwise_iff_getElem.1 h.pinc j i h2 h1 hlt;omega
theorem ak1(hf:aN f=true)(h:yA f n n a G p)(c:Nat):okV f n (Sy n c p (G.take a)):=by
 refine Jt _ (PG hf n c) fun x hx=>?_
 have:=List.of_mem_zip (a:=x.1) (b:=x.2) hx
 exact h.gr _ (List.mem_of_mem_take this.2)
theorem asx(_:yA f n n a G p){c:Nat}(hc:c<n)(hp:c ∉ p):(Sy n c p (G.take a)).getD c 0=1:=by
 unfold Sy
 rw [acX _ fun x hx he=>hp (by have:=List.of_mem_zip (a:=x.1) (b:=x.2) hx;rw [←he];exact this.1),amh,if_pos ⟨rfl,hc⟩]
theorem aoc(hf:aN f=true)(h:yA f n n a G p){c:Nat}(hc:c<n)(hp:c ∉ p):∀r∈G.take a,lN f r (Sy n c p (G.take a))=0:=by
 intro r hr
 have hal:=h.al
 have hpl:=h.pl
 obtain ⟨i,hi⟩:=List.getElem?_of_mem hr
 have hia:i<a:=by have:=(List.getElem?_eq_some_iff.1 hi).1;rw [List.length_take] at this;omega
 obtain ⟨r',hr',hrok,hcell⟩:=h.row hia
 rw [hi] at hr'
 obtain rfl:=Option.some.inj hr'
 obtain ⟨q,hq,hqn⟩:=h.piv hia
 have hz:(p.zip (G.take a))[i]?=some (q,r):=List.getElem?_zip_eq_some.2 ⟨hq,hi⟩
 obtain ⟨hzl,hzi⟩:=List.getElem?_eq_some_iff.1 hz
 have hsp:p.zip (G.take a)=(p.zip (G.take a)).take i++(q,r)::(p.zip (G.take a)).drop (i+1):=by
  rw [←hzi,←List.drop_eq_getElem_cons hzl,List.take_append_drop]
 have hel:∀{j:Nat}{x:Nat×List Int},(p.zip (G.take a))[j]?=some x→j≠i→okV f n x.2∧r.getD x.1 0=0∧x.1≠q:=by
  intro j x hx hj
  obtain ⟨x1,x2⟩:=x
  obtain ⟨h1,h2⟩:=List.getElem?_zip_eq_some.1 hx
  have hja:j<a:=by have:=(List.getElem?_eq_some_iff.1 h1).1;omega
  refine ⟨h.gr _ (List.mem_of_mem_take (List.mem_of_getElem? h2)),?_,h.pne h1 hq hj⟩
  rw [hcell,h.dia j x1 h1 i (by omega),if_neg fun hh=>hj hh.symm]
 have h1:∀x∈(p.zip (G.take a)).take i,okV f n x.2∧r.getD x.1 0=0∧x.1≠q:=by
  intro x hx
  obtain ⟨j,hj⟩:=List.getElem?_of_mem hx
  have hjl:=(List.getElem?_eq_some_iff.1 hj).1
  rw [List.length_take] at hjl
  rw [List.getElem?_take_of_lt (by omega)] at hj
  exact hel hj (by omega)
 have h2:∀x∈(p.zip (G.take a)).drop (i+1),okV f n x.2∧r.getD x.1 0=0∧x.1≠q:=by
  intro x hx
  obtain ⟨j,hj⟩:=List.getElem?_of_mem hx
  rw [List.getElem?_drop] at hj
  exact hel hj (by omega)
 have hu:=PG hf n c
 have hcq:c≠q:=fun hh=>hp (hh ▸ List.mem_of_getElem? hq)
 unfold Sy
 rw [hsp,agU]
 show lN f r (jg c ((jg c (BD n c) ((p.zip (G.take a)).take i)).set q (r.getD c 0)) _)=0
 have ho1:=Jt (c:=c) _ hu fun x hx=>(h1 x hx).1
 have ho2:okV f n ((jg c (BD n c) ((p.zip (G.take a)).take i)).set q (r.getD c 0)):=by
  refine ⟨by rw [List.length_set];exact ho1.1,fun y hy=>?_⟩
  rcases List.mem_or_eq_of_mem_set hy with hy|rfl
  ·exact ho1.2 y hy
  ·exact getD_in hrok.2 c
 have hrq:r.getD q 0=1:=by rw [hcell,h.dia i q hq i (by omega),if_pos rfl]
 have hoq:(jg c (BD n c) ((p.zip (G.take a)).take i)).getD q 0=0:=by
  rw [acX _ fun x hx=>(h1 x hx).2.2,amh,if_neg fun hh=>hcq hh.1]
 rw [acW hf hrok _ ho2 fun x hx=>⟨(h2 x hx).1,(h2 x hx).2.1⟩,aq8 hf hrok.2 ho1.2 (getD_in hrok.2 c) (hrok.1.trans ho1.1.symm),acW hf hrok _ hu fun x hx=>⟨(h1 x hx).1,(h1 x hx).2.1⟩,hrq,hoq,
  qo hf (getD_in hrok.2 c),iK hf (apb hf) (getD_in hrok.2 c),acS hf (getD_in hrok.2 c),Xu hf hrok.2 hu.2,anO hf n c hrok.2 hrok.1.symm hc,PI hf (getD_in hrok.2 c)]
theorem yA.apA(h:yA f n n a G p){i:Nat}(hi:i<a){r:List Int}(hr:(G.take a)[i]?=some r){q:Nat}(hq:p[i]?=some q):r[q]?=some 1∧∀e,e<q→r[e]?=some 0:=by
 obtain ⟨r',hr',hrok,hcell⟩:=h.row hi
 rw [hr] at hr'
 obtain rfl:=Option.some.inj hr'
 have hqn:=h.plt q (List.mem_of_getElem? hq)
 have hal:=h.al
 have hget:∀e,e<n→r[e]?=some (r.getD e 0):=fun e he=>by
  have:=List.getElem?_eq_getElem (show e<r.length by rw [hrok.1];exact he)
  rw [tF this];exact this
 exact ⟨by rw [hget q hqn,hcell,h.dia i q hq i (by omega),if_pos rfl],fun e he=>by rw [hget e (by omega),hcell,h.lead i q hq e he]⟩
end
def aoB(f:TF3)(n:Nat)(L:List (List Int))(x:List Int):Prop:=okV f n x∧(∃q,x.getD q 0≠0)∧∀r∈L,lN f r x=0
theorem aoB.azW{f:TF3}(hf:aN f=true){n:Nat}{L:List (List Int)}(h:GR f n L){x:List Int}(hx:aoB f n (D9 f n L) x):aoB f n L x:=⟨hx.1,hx.2.1,(ajM hf h hx.1.2).1 hx.2.2⟩
theorem aBq{f:TF3}(hf:aN f=true){n:Nat}{E D:List (List Int)}(hE:GR f n E)(hD:GR f n D)(h:∀r∈E,∀y∈D,lN f r y=0){c:Nat}(hc:c<n){d:List Int}(hd:d∈D)(hdc:d.getD c 0=1):∃x,(D9 f n D)[0]?=some x∧aoB f n E x:=by
 obtain ⟨p,hI,hl⟩:=yA.all hf (Nat.le_refl n) hD
 have hlen:=ajN hf (m:=n) hD
 have hgr:=aAS hf (m:=n) hD
 have hpos:0<(D9 f n D).length:=by
  apply Classical.byContradiction
  intro hn
  have he:D9 f n D=[]:=List.length_eq_zero_iff.1 (by omega)
  have:=(ajM hf hD (PG hf n c).2).1 (by rw [he];intro r hr;cases hr) d hd
  rw [Xu hf (hD d hd).2 (PG hf n c).2,anO hf n c (hD d hd).2 (hD d hd).1.symm hc,hdc] at this
  cases this
 have h0:=List.getElem?_eq_getElem hpos
 refine ⟨_,h0,hgr _ (List.mem_of_getElem? h0),?_,fun r hr=>?_⟩
 ·obtain ⟨q,hq,_⟩:=hI.piv (i:=0) (by omega)
  have:=(hI.apA (i:=0) (by omega) (r:=(D9 f n D)[0]) h0 hq).1
  exact ⟨q,by rw [tF this];decide⟩
 ·have hrok:=hE r hr
  have h2:=(ajM hf hD hrok.2).2 (fun y hy=>by rw [Xu hf (hD y hy).2 hrok.2];exact h r hr y hy) _ (List.mem_of_getElem? h0)
  rw [Xu hf hrok.2 (hgr _ (List.mem_of_getElem? h0)).2];exact h2
theorem arp{n:Nat}{p:List Nat}(_:p.Pairwise (· < ·))(hl:p.length<n):∃c,c<n∧c ∉ p:=by
 apply Classical.byContradiction
 intro hn
 have hall:∀c,c<n→c∈p:=fun c hc=>Classical.byContradiction fun h=>hn ⟨c,hc,h⟩
 have hsub:List.range n ⊆ p:=fun c hc=>hall c (List.mem_range.1 hc)
 have hd:(List.range n).Nodup:=List.nodup_range
 have:=List.Nodup.length_le_of_subset hd hsub
 rw [List.length_range] at this
 omega
theorem dh{σ β:Type}{step:σ→Tre (σ ⊕ β)}(st:Nat→σ)(n:Nat)(b:β)(hs:∀i,i<n→(step (st i)).run some=some (.inl (st (i+1))))(he:(step (st n)).run some=some (.inr b)):aO step (st 0)=some b:=by
 have key:∀m i,i+m=n→aO step (st i)=some b:=by
  intro m
  induction m with
  |zero=>intro i hi;have hi:i=n:=hi;subst hi;exact fO he
  |succ m ih=>intro i hi;rw [mM (hs i (by omega))];exact ih (i+1) (by omega)
 exact key n 0 (by omega)
def aQ(l:List Nat):List Int:=l.map fun x:Nat=>(x:Int)
theorem aS(l:List Nat):(aQ l).length=l.length:=by unfold aQ;exact List.length_map _
theorem dL{l:List Nat}{i x:Nat}(h:l[i]?=some x):(aQ l)[i]?=some (x:Int):=by
 unfold aQ;rw [List.getElem?_map,h];rfl
theorem ak2{c:Nat}{E:List (List Int)}{out:List Int}{q:Nat}{row:List Int}{p:List Nat}{i:Nat}(h1:p[i]?=some q)(h2:E[i]?=some row):jg c out ((p.zip E).take (i+1))=(jg c out ((p.zip E).take i)).set q (row.getD c 0):=by
 rw [List.take_add_one,List.getElem?_zip_eq_some.2 (show p[i]?=some (q,row).1∧E[i]?=some (q,row).2 from ⟨h1,h2⟩),agU]
 rfl
-- shared
def aB1(p:Nat):Nat→Nat→Nat
 |0,a=>a
 |k+1,a=>aB1 p k (mulN p a a)
def aEW(d p:Nat):Bool:=(List.range (2 ^ d)).all fun a=>Nat.beq (aB1 p d a) a
theorem axn:(iW.all fun q=>aEW q.1 q.2)=true:=by kernel_rfl
theorem apd{d p a:Nat}(hq:(d,p)∈iW)(ha:a<2 ^ d)(h0:a≠0):sU d p a<2 ^ d∧mulN p a (sU d p a)=1:=by
 have h:=List.all_eq_true.1 (List.all_eq_true.1 acw (d,p) hq) a (List.mem_range.2 ha)
 rw [Bool.and_eq_true,Bool.or_eq_true] at h
 exact ⟨by simpa [Nat.blt_eq] using h.1,(h.2.resolve_left fun h=>h0 (Nat.eq_of_beq_eq_true h)) |> Nat.eq_of_beq_eq_true⟩
theorem LD{a d:Nat}:a%2 ^ d<2 ^ d:=Nat.mod_lt _ (Nat.two_pow_pos d)
theorem one_mod{d:Nat}(hd:1≤d):1%2 ^ d=1:=Nat.mod_eq_of_lt (Nat.lt_of_lt_of_le (by decide:1<2 ^ 1) (Nat.pow_le_pow_right (by decide) hd))
theorem ZU{d p:Nat}(hq:(d,p)∈iW):1≤d∧d≤5:=by
 have:∀q∈iW,1≤q.1∧q.1≤5:=by decide
 exact this _ hq
def foN(d p:Nat)(hq:(d,p)∈iW):FO where
 q:=2 ^ d
 dg:=d
 mul:=fun a b=>mulN p (a%2 ^ d) (b%2 ^ d)
 hq:=Nat.lt_of_lt_of_le (by decide:1<2 ^ 1) (Nat.pow_le_pow_right (by decide) (ZU hq).1)
 hd:=(ZU hq).1
 lt:=fun a b=>(nW hq LD LD).1
 xlt:=fun a b ha hb=>Nat.xor_lt_two_pow ha hb
 comm:=fun a b=>(nW hq LD LD).2
 assoc:=fun a b c=>by rw [Nat.mod_eq_of_lt (nW hq LD LD).1,Nat.mod_eq_of_lt (nW hq (a:=b%2 ^ d) (b:=c%2 ^ d) LD LD).1];exact akZ hq LD LD LD
 add:=fun a b c=>by rw [Nat.xor_mod_two_pow];exact EN hq LD _ _ LD LD
 one:=fun a ha=>by rw [Nat.mod_eq_of_lt ha,one_mod (ZU hq).1];exact (acT hq ha).1
 inv:=fun a ha h0=>⟨sU d p a,(apd hq ha h0).1,by rw [Nat.mod_eq_of_lt ha,Nat.mod_eq_of_lt (apd hq ha h0).1];exact (apd hq ha h0).2⟩
theorem ajR{f:TF3}(hf:aN f=true):(f.1.toNat,f.2.1.toNat)∈iW∧f=((f.1.toNat:Int),(f.2.1.toNat:Int),()):=by
 obtain ⟨d,p,hq,rfl⟩:=Cx hf
 exact ⟨hq,rfl⟩
def FOf(f:TF3)(hf:aN f=true):FO:=foN f.1.toNat f.2.1.toNat (ajR hf).1
section
variable {f : TF3} (hf : aN f = true)
theorem ajl:(FOf f hf).q=2 ^ f.1.toNat:=rfl
theorem Y2{x:Int}:inF f x ↔ ∃n:Nat,x=(n:Int)∧n<(FOf f hf).q:=by
 unfold inF
 rw [ajl]
 constructor
 ·intro h;exact ⟨x.toNat,by omega,by omega⟩
 ·rintro ⟨n,rfl,h⟩;exact ⟨by omega,by exact_mod_cast h⟩
theorem F63{n:Nat}(h:n<(FOf f hf).q):n<2 ^ 63:=by
 rw [ajl] at h
 have:=Nat.pow_le_pow_right (show 0<2 by decide) (show f.1.toNat≤63 by have:=(Xx hf).2;omega)
 omega
theorem apF{a b:Nat}(ha:a<(FOf f hf).q)(hb:b<(FOf f hf).q):gJ f (a:Int) (b:Int)=(((FOf f hf).mul a b:Nat):Int):=by
 rw [ajl] at ha hb
 unfold gJ FOf foN
 simp only [Int.toNat_natCast]
 rw [Nat.mod_eq_of_lt ha,Nat.mod_eq_of_lt hb]
theorem Xq{a b:Nat}(ha:a<(FOf f hf).q)(hb:b<(FOf f hf).q):jw .i64 (a:Int) (b:Int)=((a^^^b:Nat):Int):=nT (F63 hf ha) (F63 hf hb)
theorem aDy{a:Nat}(ha:a<(FOf f hf).q):∃b:Nat,zO f (a:Int)=(b:Int)∧b<(FOf f hf).q∧(a≠0→(FOf f hf).mul a b=1):=by
 obtain ⟨h1,h2⟩:=uO hf ((Y2 hf).2 ⟨a,rfl,ha⟩)
 obtain ⟨b,hb,hbl⟩:=(Y2 hf).1 h1
 refine ⟨b,hb,hbl,fun h0=>?_⟩
 have:=h2 (by omega)
 rw [hb,apF hf ha hbl] at this
 omega
theorem aAo{d p:Nat}(hq:(d,p)∈iW):∀(k:Nat){a:Nat},a<2 ^ d→(foN d p hq).sqn k a=aB1 p k a:=by
 intro k
 induction k with
 |zero=>intro a _;rfl
 |succ k ih=>
  intro a ha
  have hs:(foN d p hq).sq a=mulN p a a:=by
   show mulN p (a%2 ^ d) (a%2 ^ d)=_
   rw [Nat.mod_eq_of_lt ha]
  show (foN d p hq).sqn k ((foN d p hq).sq a)=aB1 p k (mulN p a a)
  rw [hs,ih (nW hq ha ha).1]
theorem aze{a:Nat}(ha:a<(FOf f hf).q):(FOf f hf).sqn f.1.toNat a=a:=by
 have hq:=(ajR hf).1
 rw [ajl] at ha
 unfold FOf
 rw [aAo hq _ ha]
 exact Nat.eq_of_beq_eq_true (List.all_eq_true.1 (List.all_eq_true.1 axn _ hq) a (List.mem_range.2 ha))
theorem azf{a:Nat}(ha:a<(FOf f hf).q):∀j:Nat,(FOf f hf).sqn (f.1.toNat*j) a=a:=by
 intro j
 induction j with
 |zero=>rfl
 |succ j ih=>rw [Nat.mul_succ,FO.ajh,ih];exact aze hf ha
theorem aea{a:Nat}(ha:a<(FOf f hf).q)(k:Nat):(FOf f hf).sqn (k%f.1.toNat) a=(FOf f hf).sqn k a:=by
 have h:=Nat.div_add_mod k f.1.toNat
 have h2:(FOf f hf).sqn (f.1.toNat*(k/f.1.toNat)+k%f.1.toNat) a=(FOf f hf).sqn (k%f.1.toNat) a:=by
  rw [FO.ajh,azf hf ha]
 rw [h] at h2
 exact h2.symm
end
def inL(F:FO)(l:List Nat):Prop:=∀x∈l,x<F.q
theorem aja{f:TF3}(hf:aN f=true){l:List Int}(h:∀x∈l,inF f x):∃L,l=aQ L∧inL (FOf f hf) L:=by
 induction l with
 |nil=>exact ⟨[],rfl,fun x hx=>absurd hx List.not_mem_nil⟩
 |cons x l ih=>
  obtain ⟨L,rfl,hL⟩:=ih fun y hy=>h y (List.mem_cons_of_mem _ hy)
  obtain ⟨n,rfl,hn⟩:=(Y2 hf).1 (h x (List.mem_cons_self ..))
  refine ⟨n::L,rfl,fun y hy=>?_⟩
  rcases List.mem_cons.1 hy with rfl|hy
  ·exact hn
  ·exact hL y hy
theorem aBo{f:TF3}(hf:aN f=true){L:List Nat}(h:inL (FOf f hf) L):∀x∈aQ L,inF f x:=by
 intro x hx
 obtain ⟨n,hn,rfl⟩:=List.mem_map.1 hx
 exact (Y2 hf).2 ⟨n,rfl,h n hn⟩
theorem acs{F:FO}{a b:List Nat}(ha:inL F a)(hb:inL F b):inL F (a++b):=fun x hx=>(List.mem_append.1 hx).elim (ha x) (hb x)
theorem pV{F:FO}{l:List Nat}(h:inL F l):inL F (cB l):=by
 intro x hx
 obtain ⟨i,hi⟩:=List.getElem?_of_mem hx
 have hc:=iU l i
 unfold cf at hc
 rw [List.getD_eq_getElem?_getD,hi,List.getD_eq_getElem?_getD] at hc
 cases hl:l[i]? with
 |none=>rw [hl] at hc;simp at hc;rw [hc];exact F.zlt
 |some y=>rw [hl] at hc;simp at hc;rw [hc];exact h y (List.mem_of_getElem? hl)
theorem kC{F:FO}{l:List Nat}(h:inL F l)(i:Nat):cf l i<F.q:=by
 unfold cf
 rw [List.getD_eq_getElem?_getD]
 cases hi:l[i]? with
 |none=>exact F.zlt
 |some c=>exact h c (List.mem_of_getElem? hi)
theorem eO{l:List Nat}{i:Nat}(h:i<l.length):l[i]?=some (cf l i):=by
 unfold cf
 rw [List.getD_eq_getElem?_getD,List.getElem?_eq_getElem h];rfl
theorem ayo{l:List Nat}{n:Nat}(hn:n≤l.length)(hz:∀i,n≤i→cf l i=0)(h:n=0∨cf l (n-1)≠0):l.take n=cB l:=by
 have hcf:∀i,cf (l.take n) i=cf l i:=by
  intro i
  by_cases hi:i<n
  ·unfold cf
   rw [List.getD_eq_getElem?_getD,List.getD_eq_getElem?_getD,List.getElem?_take_of_lt hi]
  ·rw [hz i (by omega),abJ (by rw [List.length_take];omega)]
 refine Ij (fun hne=>?_) (rJ l) fun i=>by rw [hcf,iU]
 have hl:(l.take n).length=n:=by rw [List.length_take];omega
 rw [hl,hcf]
 rcases h with h|h
 ·exact absurd (List.length_eq_zero_iff.1 (by rw [hl,h])) hne
 ·exact h
-- shared
theorem azv{us:List Nat}{r:Nat}(h:r∈us):FO.EI us r:=by
 induction us with
 |nil=>cases h
 |cons u us ih=>
  rcases List.mem_cons.1 h with rfl|h
  ·exact ⟨true::List.replicate us.length false,by simp,by simp only [FO.oq,cond_true];rw [FO.aby,Nat.xor_zero]⟩
  ·obtain ⟨bs,h1,h2⟩:=ih h
   exact ⟨false::bs,by simp [h1],by simp only [FO.oq,cond_false];rw [Nat.zero_xor];exact h2⟩
theorem aBm{us:List Nat}{v:Nat}(h:Sp us v):FO.EI us v:=by
 induction h with
 |zero=>exact FO.EI.zero us
 |add hr _ ih=>exact (azv hr).add ih
theorem aDV:∀(bs:List Bool)(us:List Nat),Sp us (FO.oq bs us):=by
 intro bs
 induction bs with
 |nil=>intro us;cases us<;>exact Sp.zero
 |cons b bs ih=>
  intro us
  cases us with
  |nil=>exact Sp.zero
  |cons u us=>
   have h:=Sp.trans (fun r hr=>Sp.mem (List.mem_cons_of_mem u hr)) (ih us)
   simp only [FO.oq]
   cases b
   ·rw [cond_false,Nat.zero_xor];exact h
   ·rw [cond_true];exact (Sp.mem (List.mem_cons_self ..)).xor h
theorem awI{g:Nat}{a b:List Nat}(h:∀v,Sp a v→Sp b v){v:Nat}(hv:Sp (g::a) v):Sp (g::b) v:=by
 refine Sp.trans (fun r hr=>?_) hv
 rcases List.mem_cons.1 hr with rfl|hr
 ·exact Sp.mem (List.mem_cons_self ..)
 ·exact Sp.trans (fun r hr=>Sp.mem (List.mem_cons_of_mem _ hr)) (h r (Sp.mem hr))
theorem ayN:∀(pts:List Nat),¬FO.wU pts→∃pts':List Nat,pts'.length<pts.length∧∀v,Sp pts v↔Sp pts' v:=by
 intro pts
 induction pts with
 |nil=>intro h;exact absurd (fun bs hl _ b hb=>by rw [List.length_eq_zero_iff.1 hl] at hb;cases hb) h
 |cons g gs ih=>
  intro h
  by_cases hg:Sp gs g
  ·exact ⟨gs,by simp,fun v=>⟨fun hv=>Sp.trans (fun r hr=>(List.mem_cons.1 hr).elim (fun e=>e ▸ hg) Sp.mem) hv,fun hv=>Sp.trans (fun r hr=>Sp.mem (List.mem_cons_of_mem _ hr)) hv⟩⟩
  ·have hgs:¬FO.wU gs:=by
    intro hi
    apply h
    intro bs hl hs
    cases bs with
    |nil=>simp at hl
    |cons b bs=>
     simp only [List.length_cons,Nat.add_right_cancel_iff] at hl
     cases b with
     |false=>
      simp only [FO.oq,cond_false] at hs
      rw [Nat.zero_xor] at hs
      intro b hb
      rcases List.mem_cons.1 hb with rfl|hb
      ·rfl
      ·exact hi bs hl hs b hb
     |true=>
      exfalso
      simp only [FO.oq,cond_true] at hs
      apply hg
      have:g=FO.oq bs gs:=by
       calc g=(g^^^FO.oq bs gs)^^^FO.oq bs gs:=by rw [Nat.xor_assoc,Nat.xor_self,Nat.xor_zero]
        _=FO.oq bs gs:=by rw [hs,Nat.zero_xor]
      rw [this];exact aDV bs gs
   obtain ⟨gs',h1,h2⟩:=ih hgs
   exact ⟨g::gs',by simp only [List.length_cons];omega,fun v=>⟨awI fun v=>(h2 v).1,awI fun v=>(h2 v).2⟩⟩
theorem azw{pts E:List Nat}(h:rM pts E)(hl:E.length=pts.length):FO.wU pts:=by
 apply Classical.byContradiction
 intro hn
 obtain ⟨pts',h1,h2⟩:=ayN pts hn
 obtain ⟨P,c,hr,rfl,hs⟩:=h
 have h':rM pts' (P.map (·.2)):=⟨P,c,hr,rfl,fun v=>(h2 v).symm.trans (hs v)⟩
 have:=h'.le
 omega
theorem ayZ{E B:List Nat}(h:rM E B){e:Nat}(he:e∈E):FO.EI B e:=by
 obtain ⟨P,c,hr,rfl,hs⟩:=h
 exact aBm ((hs e).1 (Sp.mem he))
theorem avR(l:List Nat):aQ l=up l:=rfl
theorem arS(l:List Nat):(aQ l).map Int.toNat=l:=up_toNat l
theorem apc{f:TF3}(hf:aN f=true){L:List Nat}(h:inL (FOf f hf) L)(hl:L.length≤1000){b:Nat}(hb:f.1.toNat≤b):FJ b (aQ L)=true:=by
 rw [avR]
 exact aof (by omega) fun n hn=>Nat.lt_of_lt_of_le (h n hn) (Nat.pow_le_pow_right (by decide) hb)
def rkN (L:List Nat):Nat:=(ech L).length
theorem az8(L:List Nat):(Tm (aQ L)).length=rkN L:=by rw [arb,arS];rfl
theorem asB{f:TF3}(hf:aN f=true){L:List Nat}(h:inL (FOf f hf) L)(hl:L.length≤1000):rM L (ech L):=by
 have h5:=(Xx hf).2
 have:=auj (b:=62) (by omega) (apc hf h hl (by omega))
 rwa [arS] at this
-- shared
theorem atD{p q:List Nat}(h:∀i,cf p i=cf q i):cB p=cB q:=Ij (rJ p) (rJ q) fun i=>by rw [iU,iU,h]
theorem Ct{l:List Nat}{i:Nat}(h:(cB l).length≤i):cf l i=0:=by rw [←iU];exact abJ h
theorem PE(l:List Nat):(cB l).length=0∨cf l ((cB l).length-1)≠0:=by
 by_cases h:cB l=[]
 ·left;rw [h];rfl
 ·right;rw [←iU];exact rJ l h
theorem aef(l:List Nat):l.take (cB l).length=cB l:=ayo (iP l) (fun _ hi=>Ct hi) (PE l)
theorem XC(l:List Nat)(n:Nat):aQ (l.take n)=(aQ l).take n:=by unfold aQ;rw [List.map_take]
theorem pW(a b:List Nat):aQ (a++b)=aQ a++aQ b:=by unfold aQ;rw [List.map_append]
theorem yL(n:Nat):aQ (List.replicate n 0)=List.replicate n (0:Int):=by unfold aQ;rw [List.map_replicate];rfl
theorem Vz(l:List Nat)(i x:Nat):aQ (l.set i x)=(aQ l).set i (x:Int):=by unfold aQ;rw [List.map_set]
theorem aqG:∀(B A:List Nat)(y:Nat),B.length<A.length→(jC A B)[B.length]?=some (cf A B.length)∧(jC A B).set B.length (cf A B.length^^^y)=jC A (B++[y]):=by
 intro B
 induction B with
 |nil=>
  intro A y h
  cases A with
  |nil=>simp at h
  |cons a A=>exact ⟨rfl,by simp only [List.nil_append,jC,List.length_nil,List.set_cons_zero,PX,ajr]⟩
 |cons b B ih=>
  intro A y h
  cases A with
  |nil=>simp at h
  |cons a A=>
   obtain ⟨h1,h2⟩:=ih A y (by simpa using h)
   simp only [jC,List.length_cons,List.cons_append,List.getElem?_cons_succ,List.set_cons_succ,qD]
   exact ⟨h1,by rw [h2]⟩
theorem avx{A B:List Nat}(h:B.length≤A.length):(jC A B).length=A.length:=by rw [NC];omega
theorem ayE(i:Nat)(l:List Nat)(s:Nat):cf (List.replicate i 0++l) s=if i≤s then cf l (s-i) else 0:=by
 unfold cf
 rw [List.getD_eq_getElem?_getD,List.getD_eq_getElem?_getD]
 by_cases h:i≤s
 ·rw [if_pos h,List.getElem?_append_right (by rw [List.length_replicate];exact h),List.length_replicate]
 ·rw [if_neg h,List.getElem?_append_left (by rw [List.length_replicate];omega),List.getElem?_replicate,if_pos (by omega)];rfl
theorem aqV(n i:Nat):cf (List.replicate n 0) i=0:=by
 unfold cf
 rw [List.getD_eq_getElem?_getD,List.getElem?_replicate]
 split<;>rfl
theorem aqF(M:Nat)(P Q:List Nat):cB (jC (oM M P) Q)=cB (jC P Q):=atD fun i=>by rw [xK,xK,avA]
namespace FO
variable (F : FO)
theorem atY:∀(V:List Nat)(c:Nat)(x:Nat→Nat)(s:Nat),F.fH (V++[c]) x s=F.fH V x s^^^(if V.length≤s then F.mul c (F.sqn V.length (x (s-V.length))) else 0):=by
 intro V
 induction V with
 |nil=>
  intro c x s
  simp only [List.nil_append,fH,List.length_nil,Nat.zero_le,if_true,Nat.sub_zero,sqn]
  cases s<;>simp
 |cons v vs ih=>
  intro c x s
  simp only [List.cons_append,fH,List.length_cons]
  cases s with
  |zero=>simp
  |succ s=>
   simp only
   rw [ih]
   by_cases h:vs.length≤s
   ·rw [if_pos h,if_pos (by omega),show s+1-(vs.length+1)=s-vs.length by omega]
    simp only [sqn]
    ac_rfl
   ·rw [if_neg h,if_neg (by omega),Nat.xor_zero,Nat.xor_zero]
def ac7(i c:Nat)(q:List Nat):List Nat:=q.map fun d=>F.mul c (F.sqn i d)
def Hz(p q:List Nat):Nat→List Nat
 |0=>List.replicate (p.length+q.length-1) 0
 |i+1=>jC (Hz p q i) (List.replicate i 0++F.ac7 i (cf p i) q)
theorem asy(p q:List Nat)(hq:q≠[]):∀i,i≤p.length→(F.Hz p q i).length=p.length+q.length-1:=by
 have hl:0<q.length:=List.length_pos_iff.2 hq
 intro i
 induction i with
 |zero=>intro _;exact List.length_replicate
 |succ i ih=>
  intro h
  unfold Hz
  rw [avx (by rw [ih (by omega),List.length_append,List.length_replicate];unfold ac7;rw [List.length_map];omega),ih (by omega)]
theorem aBs(p q:List Nat):∀i,i≤p.length→∀s,cf (F.Hz p q i) s=F.fH (p.take i) (cf q) s:=by
 intro i
 induction i with
 |zero=>intro _ s;unfold Hz;rw [aqV];simp [fH]
 |succ i ih=>
  intro h s
  unfold Hz
  rw [xK,ih (by omega),List.take_add_one,eO (show i<p.length by omega),Option.toList_some,F.atY,List.length_take,Nat.min_eq_left (by omega),ayE]
  unfold ac7
  rw [aoM (by rw [F.atv,F.mul_zero])]
theorem aog(p q:List Nat):cB (F.Hz p q p.length)=cB (F.oJ p q):=atD fun s=>by rw [F.aBs p q _ (Nat.le_refl _),List.take_length,F.ND]
theorem awu(p q:List Nat):∀i,inL F (F.Hz p q i):=by
 intro i
 induction i with
 |zero=>intro x hx;rw [(List.mem_replicate.1 hx).2];exact F.zlt
 |succ i ih=>
  unfold Hz
  refine F.ai3 ih fun x hx=>?_
  rcases List.mem_append.1 hx with hx|hx
  ·rw [(List.mem_replicate.1 hx).2];exact F.zlt
  ·obtain ⟨d,_,rfl⟩:=List.mem_map.1 hx
   exact F.lt _ _
theorem ams{V m:List Nat}(hV:inL F V)(hm:inL F m)(h1:V≠[])(h2:m≠[])(hv:cf V (V.length-1)≠0)(hc:cf m (m.length-1)≠0):(cB (F.oJ V m)).length=V.length+m.length-1:=by
 have hl1:0<V.length:=List.length_pos_iff.2 h1
 have hl2:0<m.length:=List.length_pos_iff.2 h2
 have htop:=F.aew V (V.length-1) (cf m) (m.length-1) (by omega) fun i hi=>abJ (by omega)
 have hne:cf (F.oJ V m) (V.length-1+(m.length-1))≠0:=by
  rw [F.ND,htop]
  intro h0
  rcases F.nz (kC hV _) (F.F8 _ (kC hm _)) h0 with h|h
  ·exact hv h
  ·exact hc (F.awJ _ (kC hm _) h)
 have hle:=F.NG V m h1 h2
 have hlt:=iP (F.oJ V m)
 apply Classical.byContradiction
 intro hn
 exact hne (Ct (by omega))
end FO
-- shared
def Zd(d k:Nat):Nat:=(d-k%d)%d
theorem aAn{f:TF3}(hf:aN f=true){x:Nat}(hx:x<(FOf f hf).q)(k:Nat):(FOf f hf).sqn k ((FOf f hf).sqn (Zd f.1.toNat k) x)=x:=by
 have h3:1≤f.1.toNat:=by have:=nI hf;omega
 unfold Zd
 rw [aea hf hx,←aea hf ((FOf f hf).F8 _ hx) k,←FO.ajh]
 have hk:k%f.1.toNat<f.1.toNat:=Nat.mod_lt _ (by omega)
 rw [show f.1.toNat-k%f.1.toNat+k%f.1.toNat=f.1.toNat by omega]
 exact aze hf hx
def tq(l:List Nat):Prop:=l≠[]→cf l (l.length-1)≠0
theorem oI(l:List Nat):tq (cB l):=rJ l
theorem aAz{l:List Nat}(h:tq l):cB l=l:=Ij (rJ l) h (iU l)
theorem aB6{l:List Nat}{n:Nat}(h:∀i,n≤i→cf l i=0):(cB l).length≤n:=by
 apply Classical.byContradiction
 intro hn
 rcases PE l with h0|h0
 ·omega
 ·exact h0 (h _ (by omega))
structure Ik(F:FO)(N V A R:List Nat):Prop where
 ia:inL F A
 ir:inL F R
 ta:tq A
 tr:tq R
 eq:∀i,cf N i=F.fH V (cf A) i^^^cf R i
def uD(k c:Nat):List Nat:=(List.replicate (k+1) 0).set k c
theorem XU(k c:Nat):(uD k c).length=k+1:=by unfold uD;rw [List.length_set,List.length_replicate]
theorem amd(k c i:Nat):cf (uD k c) i=if k=i then c else 0:=by
 unfold uD cf
 rw [List.getD_eq_getElem?_getD,List.getElem?_set,List.length_replicate]
 by_cases h:k=i
 ·rw [if_pos h,if_pos h,if_pos (by omega)];rfl
 ·rw [if_neg h,if_neg h,List.getElem?_replicate];split<;>rfl
theorem Xo{F:FO}{k c:Nat}(hc:c<F.q):inL F (uD k c):=by
 intro x hx
 rcases List.mem_or_eq_of_mem_set hx with hx|rfl
 ·rw [(List.mem_replicate.1 hx).2];exact F.zlt
 ·exact hc
theorem acu{F:FO}(V m:List Nat):inL F (F.oJ V m):=F.aqW V m
theorem ai9{F:FO}{p q:List Nat}(hp:inL F p)(hq:inL F q):inL F (jC p q):=F.ai3 hp hq
theorem aq4{f:TF3}(hf:aN f=true){N V A R:List Nat}(_:inL (FOf f hf) V)(h:Ik (FOf f hf) N V A R)(hn:V≠[])(hl:V.length≤R.length){iv:Nat}(_:iv<(FOf f hf).q)(hinv:(FOf f hf).mul (cf V (V.length-1)) iv=1) :
  let c:=(FOf f hf).sqn (Zd f.1.toNat (V.length-1)) ((FOf f hf).mul (cf R (R.length-1)) iv)
  c<(FOf f hf).q∧Ik (FOf f hf) N V (cB (jC A (uD (R.length-V.length) c))) (cB (jC R (cB ((FOf f hf).oJ V (uD (R.length-V.length) c))))) ∧
  (cB (jC R (cB ((FOf f hf).oJ V (uD (R.length-V.length) c))))).length<R.length:=by
 intro c
 have hvl:0<V.length:=List.length_pos_iff.2 hn
 have hrl:=kC h.ir (R.length-1)
 have hml:=(FOf f hf).lt (cf R (R.length-1)) iv
 have hc:c<(FOf f hf).q:=(FOf f hf).F8 _ hml
 have hcf:∀i,cf (jC R (cB ((FOf f hf).oJ V (uD (R.length-V.length) c)))) i=cf R i^^^(FOf f hf).fH V (cf (uD (R.length-V.length) c)) i:=fun i=>by
  rw [xK,iU,FO.ND]
 refine ⟨hc,⟨pV (ai9 h.ia (Xo hc)),pV (ai9 h.ir (pV (acu _ _))),oI _,oI _,fun i=>?_⟩,?_⟩
 ·rw [iU,hcf,h.eq i,show cf (cB (jC A (uD (R.length-V.length) c)))=fun j=>cf A j^^^cf (uD (R.length-V.length) c) j from funext fun j=>by rw [iU,xK],FO.aev]
  generalize (FOf f hf).fH V (cf A) i=a
  generalize (FOf f hf).fH V (cf (uD (R.length-V.length) c)) i=t
  calc a^^^cf R i=(a^^^cf R i)^^^(t^^^t):=by rw [Nat.xor_self,Nat.xor_zero]
   _=(a^^^t)^^^(cf R i^^^t):=by ac_rfl
 ·have hlt:(cB (jC R (cB ((FOf f hf).oJ V (uD (R.length-V.length) c))))).length≤R.length-1:=by
   refine aB6 fun i hi=>?_
   rw [hcf]
   by_cases he:i=R.length-1
   ·have htop:=(FOf f hf).aew V (V.length-1) (cf (uD (R.length-V.length) c)) (R.length-V.length) (by omega) (fun i hi=>by rw [amd,if_neg (by omega)])
    rw [show V.length-1+(R.length-V.length)=i by omega,amd,if_pos rfl] at htop
    rw [htop]
    show cf R i^^^(FOf f hf).mul (cf V (V.length-1)) ((FOf f hf).sqn (V.length-1) ((FOf f hf).sqn (Zd f.1.toNat (V.length-1)) ((FOf f hf).mul (cf R (R.length-1)) iv)))=0
    rw [aAn hf hml,FO.comm _ (cf R (R.length-1)) iv,←FO.assoc,hinv,FO.comm,FO.one _ _ hrl,he,Nat.xor_self]
   ·rw [abJ (by omega),FO.aex _ _ _ (R.length-V.length+1) _ (fun j hj=>by rw [amd,if_neg (by omega)]) (by omega)];rfl
  omega
theorem ajD{F:FO}:∀{V:List Nat}{x:Nat→Nat}{i:Nat},(∀j,x j=0)→F.fH V x i=0:=by
 intro V
 induction V with
 |nil=>intro x i _;simp [FO.fH]
 |cons v vs ih=>
  intro x i h
  simp only [FO.fH]
  rw [h,F.mul_zero,Nat.zero_xor]
  cases i with
  |zero=>rfl
  |succ i=>exact ih fun j=>by rw [h,F.Ia]
theorem Ik.uniq{F:FO}{N V A R m:List Nat}(h:Ik F N V A R)(hV:inL F V)(hn:V≠[])(ht:tq V)(hR:R.length<V.length)(hm:inL F m)(he:∀i,cf N i=F.fH V (cf m) i):A=cB m∧R=[]:=by
 have h1:∀i,F.fH V (cf (jC A m)) i=cf R i:=by
  intro i
  rw [show cf (jC A m)=fun j=>cf A j^^^cf m j from funext fun j=>xK A m j,F.aev,←he i,h.eq i]
  generalize F.fH V (cf A) i=a
  rw [←Nat.xor_assoc,Nat.xor_self,Nat.zero_xor]
 have h2:=F.aqX hV (ai9 h.ia hm) hn (ht hn) fun i hi=>by rw [h1];exact abJ (by omega)
 have h3:∀i,cf R i=0:=fun i=>by rw [←h1,ajD];exact h2
 have h4:R=[]:=by
  apply Classical.byContradiction
  intro hne
  exact h.tr hne (h3 _)
 refine ⟨Ij h.ta (rJ m) fun i=>?_,h4⟩
 have:=h2 i
 rw [xK] at this
 rw [iU]
 calc cf A i=(cf A i^^^cf m i)^^^cf m i:=by rw [Nat.xor_assoc,Nat.xor_self,Nat.xor_zero]
  _=cf m i:=by rw [this,Nat.zero_xor]
theorem Ik.aFk{F:FO}{N V A R A' R':List Nat}(h:Ik F N V A R)(h':Ik F N V A' R')(hV:inL F V)(hn:V≠[])(ht:tq V)(hR:R.length<V.length)(hR':R'.length<V.length):A=A'∧R=R':=by
 have hx:∀{a b:Nat},a^^^b=0→a=b:=fun {a b} h=>by
  calc a=(a^^^b)^^^b:=by rw [Nat.xor_assoc,Nat.xor_self,Nat.xor_zero]
   _=b:=by rw [h,Nat.zero_xor]
 have h1:∀i,F.fH V (cf (jC A A')) i=cf R i^^^cf R' i:=by
  intro i
  rw [show cf (jC A A')=fun j=>cf A j^^^cf A' j from funext fun j=>xK A A' j,F.aev]
  have e:=(h.eq i).symm.trans (h'.eq i)
  generalize F.fH V (cf A) i=a at e ⊢
  generalize F.fH V (cf A') i=b at e ⊢
  have e2:a=b^^^(cf R' i^^^cf R i):=by
   calc a=(a^^^cf R i)^^^cf R i:=by rw [Nat.xor_assoc,Nat.xor_self,Nat.xor_zero]
    _=b^^^(cf R' i^^^cf R i):=by rw [e,Nat.xor_assoc]
  calc a^^^b=(b^^^b)^^^(cf R i^^^cf R' i):=by rw [e2];ac_rfl
   _=cf R i^^^cf R' i:=by rw [Nat.xor_self,Nat.zero_xor]
 have h2:=F.aqX hV (ai9 h.ia h'.ia) hn (ht hn) fun i hi=>by rw [h1,abJ (by omega),abJ (by omega)];rfl
 have h3:∀i,cf A i=cf A' i:=fun i=>hx (by rw [←xK];exact h2 i)
 refine ⟨Ij h.ta h'.ta h3,Ij h.tr h'.tr fun i=>hx ?_⟩
 rw [←h1,ajD]
 exact h2
-- shared
namespace FO
variable (F : FO)
theorem agw:∀(V V':List Nat)(x:Nat→Nat)(i:Nat),(∀i,cf V i=cf V' i)→F.fH V x i=F.fH V' x i:=by
 have hz:∀(V:List Nat)(x:Nat→Nat)(i:Nat),(∀i,cf V i=0)→F.fH V x i=0:=by
  intro V
  induction V with
  |nil=>intro x i _;simp [fH]
  |cons v vs ih=>
   intro x i h
   have h0:=h 0
   rw [PX] at h0
   simp only [fH]
   rw [h0,F.zero_mul,Nat.zero_xor]
   cases i with
   |zero=>rfl
   |succ i=>exact ih _ i fun j=>by have:=h (j+1);rwa [qD] at this
 intro V
 induction V with
 |nil=>intro V' x i h;rw [hz V' x i fun j=>(h j).symm.trans (zR j)];simp [fH]
 |cons v vs ih=>
  intro V' x i h
  cases V' with
  |nil=>rw [hz (v::vs) x i fun j=>(h j).trans (zR j)];simp [fH]
  |cons v' vs'=>
   have h0:=h 0
   rw [PX,PX] at h0
   simp only [fH]
   rw [h0]
   cases i with
   |zero=>rfl
   |succ i=>
    simp only
    rw [ih vs' (fun j=>F.sq (x j)) i fun j=>by have:=h (j+1);rwa [qD,qD] at this]
def ZT:List Nat→List Nat→Nat
 |a::u,b::v=>F.mul a b^^^ZT u v
 |_,_=>0
theorem ayX:∀(a c b d:List Nat),a.length=c.length→F.ZT (a++b) (c++d)=F.ZT a c^^^F.ZT b d:=by
 intro a
 induction a with
 |nil=>intro c b d h;have:c=[]:=List.length_eq_zero_iff.1 h.symm;subst this;simp [ZT]
 |cons x a ih=>
  intro c b d h
  cases c with
  |nil=>simp at h
  |cons y c=>simp only [List.cons_append,ZT];rw [ih c b d (by simpa using h),Nat.xor_assoc]
def zP(n x:Nat):List Nat:=(List.range n).map fun j=>F.sqn j x
theorem Bz(n x:Nat):(F.zP n x).length=n:=by simp [zP]
theorem ayi(n x:Nat):F.zP (n+1) x=x::F.zP n (F.sq x):=by
 unfold zP
 rw [List.range_succ_eq_map,List.map_cons,List.map_map]
 rfl
theorem ayY:∀(p:List Nat)(x:Nat),F.ZT (F.zP p.length x) p=F.lp p x:=by
 intro p
 induction p with
 |nil=>intro x;rfl
 |cons c p ih=>
  intro x
  rw [List.length_cons,ayi]
  simp only [ZT,lp]
  rw [ih,F.comm]
def GZ(pts w m:List Nat):List Nat:=(pts.zip w).map fun p=>p.2^^^F.lp m p.1
theorem aoS{pts w m:List Nat}(hw:inL F w):inL F (F.GZ pts w m):=by
 intro e he
 obtain ⟨p,hp,rfl⟩:=List.mem_map.1 he
 have:=List.of_mem_zip (a:=p.1) (b:=p.2) hp
 exact F.xlt _ _ (hw _ this.2) (F.Y9 _ _)
theorem UC{pts w m:List Nat}(h:w.length=pts.length):(F.GZ pts w m).length=pts.length:=by
 unfold GZ
 rw [List.length_map,List.length_zip,h,Nat.min_self]
theorem ayM{pts w V N m us:List Nat}{k t:Nat}(hi:wU pts)(hp:inL F pts)(hl:w.length=pts.length)(hk:1≤k)(hm:m.length=k)(_:inL F m)
  (hV:V.length=t+1) (hN:N.length=t+k) (hNi:inL F N) (h2:2*t+k≤pts.length) (hus:us.length≤t) (hsp:∀e∈F.GZ pts w m,EI us e) (ho:∀p∈pts.zip w,F.lp V p.2=F.lp N p.1) :
  ∀i,cf N i=F.fH V (cf m) i:=by
 have hmn:m≠[]:=by intro h;rw [h] at hm;simp at hm;omega
 have hVn:V≠[]:=by intro h;rw [h] at hV;simp at hV
 have hcl:=F.NG V m hVn hmn
 have hz:=F.azG (us:=us.map (F.lp V)) (gs:=pts) (p:=jC N (F.oJ V m)) (by rw [NC,List.length_map];omega) hp (F.ai3 hNi (F.aqW V m)) hi (by
  intro g hg
  obtain ⟨j,hj⟩:=List.getElem?_of_mem hg
  have hjl:=(List.getElem?_eq_some_iff.1 hj).1
  have hwj:=List.getElem?_eq_getElem (show j<w.length by omega)
  have hz:(pts.zip w)[j]?=some (g,w[j]):=List.getElem?_zip_eq_some.2 ⟨hj,hwj⟩
  have hmem:=List.mem_of_getElem? hz
  have h1:=ho _ hmem
  have h3:=(hsp _ (List.mem_map.2 ⟨_,hmem,rfl⟩)).map (F.avY V) (F.auP V)
  rw [F.avX,F.azE]
  dsimp only at h1 h3
  rw [F.auP,h1] at h3
  exact h3)
 intro i
 have:=awW hz i
 rw [xK,F.ND] at this
 calc cf N i=(cf N i^^^F.fH V (cf m) i)^^^F.fH V (cf m) i:=by rw [Nat.xor_assoc,Nat.xor_self,Nat.xor_zero]
  _=F.fH V (cf m) i:=by rw [this,Nat.zero_xor]
theorem aAQ{V N m:List Nat}(hVi:inL F V)(hmi:inL F m)(he:∀i,cf N i=F.fH V (cf m) i)(hx:∃c∈V++N,c≠0) :
  cB V≠[]∧∀A R,Ik F (cB N) (cB V) A R→R.length<(cB V).length→A=cB m∧R=[]:=by
 have he':∀i,cf (cB N) i=F.fH (cB V) (cf m) i:=fun i=>by rw [iU,he,F.agw V (cB V) _ _ fun j=>(iU V j).symm]
 have hn:cB V≠[]:=by
  intro h0
  obtain ⟨c,hc,hc0⟩:=hx
  have hV0:∀i,cf V i=0:=fun i=>by rw [←iU,h0,zR]
  have hN0:∀i,cf N i=0:=fun i=>by rw [he,F.agw V [] _ _ fun j=>by rw [hV0,zR]];simp [fH]
  rcases List.mem_append.1 hc with hc|hc
  ·exact hc0 (ayD hV0 c hc)
  ·exact hc0 (ayD hN0 c hc)
 exact ⟨hn,fun A R h hR=>h.uniq (pV hVi) hn (oI V) hR hmi he'⟩
end FO
section
variable {f : TF3} (hf : aN f = true)
def abF(pts w:List Nat)(k t:Nat)(m:List Nat):Prop:=m.length=k∧inL (FOf f hf) m∧rkN ((FOf f hf).GZ pts w m)≤t
def asD(t k g x:Nat):List Nat:=(FOf f hf).zP (t+1) x++(FOf f hf).zP (t+k) g
def OO(t k:Nat)(pts w:List Nat):List (List Int):=(pts.zip w).map fun p=>aQ (asD hf t k p.1 p.2)
theorem aji(n:Nat){x:Nat}(hx:x<(FOf f hf).q):inL (FOf f hf) ((FOf f hf).zP n x):=by
 intro y hy
 obtain ⟨j,_,rfl⟩:=List.mem_map.1 hy
 exact (FOf f hf).F8 j hx
theorem asE{t k:Nat}{pts w:List Nat}(hp:inL (FOf f hf) pts)(hw:inL (FOf f hf) w):GR f (2*t+1+k) (OO hf t k pts w):=by
 intro r hr
 obtain ⟨p,hp',rfl⟩:=List.mem_map.1 hr
 have:=List.of_mem_zip (a:=p.1) (b:=p.2) hp'
 refine ⟨?_,aBo hf (acs (aji hf _ (hw _ this.2)) (aji hf _ (hp _ this.1)))⟩
 rw [aS]
 unfold asD
 rw [List.length_append,FO.Bz,FO.Bz]
 omega
theorem aCU:∀{a b:List Nat},inL (FOf f hf) a→inL (FOf f hf) b→lN f (aQ a) (aQ b)=(((FOf f hf).ZT a b:Nat):Int)∧(FOf f hf).ZT a b<(FOf f hf).q:=by
 intro a
 induction a with
 |nil=>intro b _ _;exact ⟨by simp [aQ,lN,FO.ZT],by simp only [FO.ZT];exact FO.zlt _⟩
 |cons x a ih=>
  intro b ha hb
  cases b with
  |nil=>exact ⟨by simp [aQ,lN,FO.ZT],by simp only [FO.ZT];exact FO.zlt _⟩
  |cons y b=>
   obtain ⟨h1,h2⟩:=ih (b:=b) (fun z hz=>ha z (List.mem_cons_of_mem _ hz)) (fun z hz=>hb z (List.mem_cons_of_mem _ hz))
   have hx:=ha x (List.mem_cons_self ..)
   have hy:=hb y (List.mem_cons_self ..)
   refine ⟨?_,(FOf f hf).xlt _ _ ((FOf f hf).lt _ _) h2⟩
   show jw .i64 (gJ f (x:Int) (y:Int)) (lN f (aQ a) (aQ b))=_
   rw [h1,apF hf hx hy,Xq hf ((FOf f hf).lt _ _) h2]
   rfl
theorem an4{t k:Nat}{pts w:List Nat}(hp:inL (FOf f hf) pts)(hw:inL (FOf f hf) w){x:List Int}(h:aoB f (2*t+1+k) (OO hf t k pts w) x) :
  ∃V N,x=aQ (V++N)∧V.length=t+1∧N.length=t+k∧inL (FOf f hf) V∧inL (FOf f hf) N∧(∃c∈V++N,c≠0)∧∀p∈pts.zip w,(FOf f hf).lp V p.2=(FOf f hf).lp N p.1:=by
 obtain ⟨⟨hl,hin⟩,⟨q,hq⟩,ho⟩:=h
 obtain ⟨X,rfl,hX⟩:=aja hf hin
 rw [aS] at hl
 have hsp:X.take (t+1)++X.drop (t+1)=X:=List.take_append_drop _ _
 have h1:(X.take (t+1)).length=t+1:=by rw [List.length_take];omega
 have h2:(X.drop (t+1)).length=t+k:=by rw [List.length_drop];omega
 have hVi:inL (FOf f hf) (X.take (t+1)):=fun y hy=>hX y (List.mem_of_mem_take hy)
 have hNi:inL (FOf f hf) (X.drop (t+1)):=fun y hy=>hX y (List.mem_of_mem_drop hy)
 refine ⟨X.take (t+1),X.drop (t+1),by rw [hsp],h1,h2,hVi,hNi,?_,fun p hp'=>?_⟩
 ·rw [hsp]
  rw [List.getD_eq_getElem?_getD] at hq
  cases hx:(aQ X)[q]? with
  |none=>rw [hx] at hq;exact absurd rfl hq
  |some y=>
   rw [hx] at hq
   obtain ⟨c,hc,rfl⟩:=List.mem_map.1 (List.mem_of_getElem? hx)
   exact ⟨c,hc,fun h0=>hq (by rw [h0];rfl)⟩
 ·have hz:=List.of_mem_zip (a:=p.1) (b:=p.2) hp'
  have hd:=ho _ (List.mem_map.2 ⟨p,hp',rfl⟩)
  have hri:inL (FOf f hf) (asD hf t k p.1 p.2):=acs (aji hf _ (hw _ hz.2)) (aji hf _ (hp _ hz.1))
  rw [(aCU hf hri hX).1] at hd
  have hd:(FOf f hf).ZT (asD hf t k p.1 p.2) X=0:=by omega
  rw [←hsp] at hd
  unfold asD at hd
  rw [FO.ayX _ _ _ _ _ (by rw [FO.Bz,h1])] at hd
  have e1:=(FOf f hf).ayY (X.take (t+1)) p.2
  have e2:=(FOf f hf).ayY (X.drop (t+1)) p.1
  rw [h1] at e1
  rw [h2] at e2
  rw [e1,e2] at hd
  calc (FOf f hf).lp (X.take (t+1)) p.2=((FOf f hf).lp (X.take (t+1)) p.2^^^(FOf f hf).lp (X.drop (t+1)) p.1)^^^(FOf f hf).lp (X.drop (t+1)) p.1:=by rw [Nat.xor_assoc,Nat.xor_self,Nat.xor_zero]
   _=(FOf f hf).lp (X.drop (t+1)) p.1:=by rw [hd,Nat.zero_xor]
theorem avD{t k:Nat}{pts w V N m:List Nat}(hi:FO.wU pts)(hp:inL (FOf f hf) pts)(hw:inL (FOf f hf) w)(hl:w.length=pts.length)(hpl:pts.length≤1000)(hk:1≤k)(h2:2*t+k≤pts.length)(hm:abF hf pts w k t m)
  (hV:V.length=t+1) (hN:N.length=t+k) (hVi:inL (FOf f hf) V) (hNi:inL (FOf f hf) N) (hx:∃c∈V++N,c≠0) (ho:∀p∈pts.zip w,(FOf f hf).lp V p.2=(FOf f hf).lp N p.1) :
  cB V≠[]∧∀A R,Ik (FOf f hf) (cB N) (cB V) A R→R.length<(cB V).length→A=cB m∧R=[]:=by
 obtain ⟨hm1,hm2,hm3⟩:=hm
 have hE:=asB hf ((FOf f hf).aoS (pts:=pts) (m:=m) hw) (by rw [FO.UC _ hl];exact hpl)
 exact (FOf f hf).aAQ hVi hm2 ((FOf f hf).ayM hi hp hl hk hm1 hm2 hV hN hNi h2 hm3 (fun e he=>ayZ hE he) ho) hx
end
-- shared
def Tn (g:TF3×List Int×Int×Unit):Bool:=aN g.1&&(inR (g.2.1.length:Int) 1 5&&(oK g.1 g.2.1&&(decide (((Tm g.2.1).length:Int)=(g.2.1.length:Int))&&inR g.2.2.1 1 (g.2.1.length:Int))))
theorem aeC{f:TF3}{c:List Int}(h:oK f c=true):∀x∈c,inF f x:=by
 intro x hx
 have:=gV.1 (List.all_eq_true.1 h x hx)
 unfold Ut at this
 have h2:((2 ^ f.1.toNat:Nat):Int)=(2:Int) ^ f.1.toNat:=by rw [Int.natCast_pow];rfl
 exact ⟨this.1,by omega⟩
theorem ajZ{g:TF3×List Int×Int×Unit}(h:Tn g=true):∃(hf:aN g.1=true) (P:List Nat) (k:Nat),g=(g.1,aQ P,(k:Int),())∧inL (FOf g.1 hf) P∧FO.wU P∧P.length≤5∧1≤k∧k≤P.length:=by
 unfold Tn at h
 simp only [Bool.and_eq_true,gV,decide_eq_true_eq] at h
 obtain ⟨hf,hl,he,hr,hk⟩:=h
 obtain ⟨P,hP,hPi⟩:=aja hf (aeC he)
 have hlen:g.2.1.length=P.length:=by rw [hP,aS]
 refine ⟨hf,P,g.2.2.1.toNat,?_,hPi,?_,by omega,by omega,by omega⟩
 ·rw [←hP,show ((g.2.2.1.toNat:Nat):Int)=g.2.2.1 by omega]
 ·rw [hP,az8,aS] at hr
  exact azw (asB hf hPi (by omega)) (by unfold rkN at hr;omega)
def Eb (g:TF3×List Int×Int×Unit) (w:List Int):Int:=if Tn g=true then (if w.length=g.2.1.length∧oK g.1 w=true then 0 else 2) else 1
theorem azk{g:TF3×List Int×Int×Unit}{w:List Int}(h:Eb g w=0):Tn g=true∧w.length=g.2.1.length∧oK g.1 w=true:=by
 unfold Eb at h
 split at h
 ·rename_i h1
  split at h
  ·rename_i h2;exact ⟨h1,h2.1,h2.2⟩
  ·cases h
 ·cases h
def JZ (p0:List Int) (p1:aG):Tre Int:=
 .mat (u7 p1) fun r1=>
 .cond (!r1)
  (.ret 1)
  (.cond (!decide ((p0.length:Int)=(p1.2.1.length:Int)))
   (.ret 2)
   (.mat (rV p1.1 p0) fun r2=>
   .cond (!r2)
    (.ret 2)
    (.ret 0)))
def ql (p0:List Int) (p1:aG):Option Int:=(JZ p0 p1).run some
-- more
theorem arf{f:TF3}(hf:aN f=true){c:List Int}(h:oK f c=true)(hl:c.length≤1000){b:Nat}(hb:f.1.toNat≤b):FJ b c=true:=by
 obtain ⟨L,rfl,hL⟩:=aja hf (aeC h)
 rw [aS] at hl
 exact apc hf hL hl hb
theorem awD(g:TF3×List Int×Int×Unit):u7 g=some (Tn g):=by
 unfold u7 RB Tn
 rw [ah (aaZ g.1),Tre.aA]
 cases hf:aN g.1
 ·rfl
 have hd:=nI hf
 have hw:Mv g.1 g.2.1=some (inR (g.2.1.length:Int) 1 5&&oK g.1 g.2.1):=by
  unfold Mv af5
  dsimp only
  rw [Tre.aA]
  cases hi:inR (g.2.1.length:Int) 1 5
  ·rfl
  ·have:=gV.1 hi
   rw [cond_true,ah (Pd hf g.2.1 (by omega)),Tre.aF,Bool.true_and]
 rw [cond_true,ah hw,Tre.aA,Bool.true_and]
 cases hi:inR (g.2.1.length:Int) 1 5
 ·rfl
 have hl:=gV.1 hi
 rw [Bool.true_and,Bool.true_and]
 cases he:oK g.1 g.2.1
 ·rfl
 rw [cond_true,Bool.true_and,ah (show aok g.1.1 g.2.1=some _ from jJ (by rw [Bool.and_eq_true];exact ⟨gV.2 (by omega),arf hf he (by omega) (Nat.le_refl _)⟩)),Tre.aA]
 cases decide (((Tm g.2.1).length:Int)=(g.2.1.length:Int))
 ·rfl
 ·rfl
theorem ad6(g:TF3×List Int×Int×Unit)(w:List Int)(hw:w.length≤1048576):ql w g=some (Eb g w):=by
 unfold ql JZ Eb
 rw [ah (awD g),Tre.aA]
 cases hg:Tn g
 ·rfl
 ·have hf:aN g.1=true:=by unfold Tn at hg;simp only [Bool.and_eq_true] at hg;exact hg.1
  rw [Bool.not_true,cond_false,if_pos rfl,Tre.aA]
  by_cases h1:w.length=g.2.1.length
  ·rw [decide_eq_true (by omega),Bool.not_true,cond_false,ah (Pd hf w (by omega)),Tre.aA]
   cases he:oK g.1 w
   ·rw [if_neg (by simp)];rfl
   ·rw [if_pos ⟨h1,rfl⟩];rfl
  ·rw [decide_eq_false (by omega),Bool.not_false,cond_true,if_neg fun h=>h1 h.1];rfl
def Ph:Env:=⟨tau,[(53,J5),(54,FW)],[]⟩
def af8:FnI:=fnI Tryz.f28 []
def J2 (_:Bool) (zp1:Bool) (_:List Int) (p1:aG):Int→au:=fun r=>⟨(.i r),[⟨true,aX,(.imm zp1),p1⟩],[]⟩
theorem adV:∀(zp0 zp1:Bool)(p0:List Int)(p1:aG),bJ Ph af8 ⟨[(.ptr (0,0) []),(.imm zp0 .il p0)],[⟨true,aX,(.imm zp1),p1⟩]⟩=(JZ p0 p1).run fun r=>some (J2 zp0 zp1 p0 p1 r):=fun _ _ _ _=>by kernel_rfl
def af7 (av:List AV) (rs:List Root):Tre au:=
 aC av fun a0_ av0=>
 aC av0 fun a1_ av1=>
 aM av1<|
 aC rs fun r0_ rs0=>
 aM rs0<|
 eF (0,0) [] a0_<|
 aZ .il a1_ fun z2 d1=>
 wV true aX r0_ fun m3 d4=>
 lu m3 fun z5=>
 .mat (ql d1 d4) fun r=>.ret (J2 z2 z5 d1 d4 r)
def Pj:Ctr:=dD [] af7
theorem adW:Contract Tryz.prog .none 28 Pj:=aD (V:=Ph) aW (ak Tg aCh (ak Pe aCi aH)) Tryz.func28 bI fun _ _ _=>aK fun _ _=>aK fun _ _=>bf<|aK fun _ _=>bf<|jD<|bY fun _ _=>tRt fun _ _=>BA fun _=>fun h=>by intros;subst_vars;exact bn (adV _ _ _ _) h
-- shared
def agC (g:TF3×List Int×Int×Unit) (w:List Int) (u:Int×List Int×Unit) (c:Int):Int:=if Tn g=true then (if ai2 u=true then (if Eb g w=0 then (if u.1=c then (if (g.2.1.length:Int)<g.2.2.1+(u.2.1.length:Int) then 4 else 0) else 2) else 2) else 1) else 1
theorem azl{g:TF3×List Int×Int×Unit}{w:List Int}{u:Int×List Int×Unit}{c:Int}(h:agC g w u c=0):ai2 u=true∧Eb g w=0∧u.1=c∧g.2.2.1+(u.2.1.length:Int)≤(g.2.1.length:Int):=by
 unfold agC at h
 by_cases h1:Tn g=true
 case neg=>rw [if_neg h1] at h;cases h
 by_cases h2:ai2 u=true
 case neg=>rw [if_pos h1,if_neg h2] at h;cases h
 by_cases h3:Eb g w=0
 case neg=>rw [if_pos h1,if_pos h2,if_neg h3] at h;cases h
 by_cases h4:u.1=c
 case neg=>rw [if_pos h1,if_pos h2,if_pos h3,if_neg h4] at h;cases h
 by_cases h5:(g.2.1.length:Int)<g.2.2.1+(u.2.1.length:Int)
 case pos=>rw [if_pos h1,if_pos h2,if_pos h3,if_pos h4,if_pos h5] at h;cases h
 exact ⟨h2,h3,h4,by omega⟩
theorem axo{g:TF3×List Int×Int×Unit}{w:List Int}(hg:Tn g=true)(h:Eb g w≠0):Eb g w=2:=by
 unfold Eb at h ⊢
 rw [if_pos hg] at h ⊢
 split
 ·rename_i h1;rw [if_pos h1] at h;exact absurd rfl h
 ·rfl
theorem arv{g:TF3×List Int×Int×Unit}{u:Int×List Int×Unit}(hg:Tn g=true)(hu:ai2 u=true):aI .i64 (g.2.2.1+(u.2.1.length:Int))=g.2.2.1+(u.2.1.length:Int):=by
 obtain ⟨_,P,k,h1,_,_,h2,h3,h4⟩:=ajZ hg
 obtain ⟨c,ns,rfl,h5,h6,h7,_⟩:=awH hu
 rw [h1]
 dsimp only
 rw [wS,dP (by omega) (by omega)]
def J3 (p0:List Int) (p1:Bool) (p2:aG) (p3:bB):Tre Int:=
 .mat (u7 p2) fun r1=>
 .cond (!r1)
  (.ret 1)
  (.mat (uh p3) fun r2=>
  .cond (!r2)
   (.ret 1)
   (.cond p1
    (.mat (ql p0 p2) fun r3=>
    .cond (!decide (r3=0))
     (.ret 2)
     (.cond (!decide (p3.1=p2.1.1))
      (.ret 2)
      (let v4:=aI .i64 (p2.2.2.1+(p3.2.1.length:Int))
      .cond (decide ((p2.2.1.length:Int)<v4))
       (.ret 4)
       (.ret 0))))
    (.mat (ql p0 p2) fun r5=>
    .cond (!decide (r5=0))
     (.ret 2)
     (.cond (!decide (p3.1=(p2.2.1.length:Int)))
      (.ret 2)
      (let v6:=aI .i64 (p2.2.2.1+(p3.2.1.length:Int))
      .cond (decide ((p2.2.1.length:Int)<v6))
       (.ret 4)
       (.ret 0))))))
def vV (p0:List Int) (p1:Bool) (p2:aG) (p3:bB):Option Int:=(J3 p0 p1 p2 p3).run some
-- more
theorem aAf(w:List Int)(b:Bool)(g:TF3×List Int×Int×Unit)(u:Int×List Int×Unit)(hw:w.length≤1048576):vV w b g u=some (agC g w u (cond b g.1.1 (g.2.1.length:Int))):=by
 unfold vV J3 agC
 rw [ah (awD g),Tre.aA]
 cases hg:Tn g
 ·rfl
 rw [Bool.not_true,cond_false,if_pos rfl,ah (aa8 u),Tre.aA]
 cases hu:ai2 u
 ·rfl
 have hl:=arv hg hu
 rw [Bool.not_true,cond_false,if_pos rfl,Tre.aA]
 by_cases h1:Eb g w=0
 case neg=>
  rw [if_neg h1]
  cases b
  ·rw [cond_false,ah (ad6 g w hw),Tre.aA,decide_eq_false h1];rfl
  ·rw [cond_true,ah (ad6 g w hw),Tre.aA,decide_eq_false h1];rfl
 rw [if_pos h1]
 cases b
 ·rw [cond_false,cond_false,ah (ad6 g w hw),Tre.aA,decide_eq_true h1,Bool.not_true,cond_false,Tre.aA]
  by_cases h2:u.1=(g.2.1.length:Int)
  case neg=>rw [decide_eq_false h2,if_neg h2];rfl
  rw [decide_eq_true h2,if_pos h2,Bool.not_true,cond_false]
  dsimp only
  rw [hl,Tre.aA]
  by_cases h3:(g.2.1.length:Int)<g.2.2.1+(u.2.1.length:Int)
  ·rw [decide_eq_true h3,if_pos h3];rfl
  ·rw [decide_eq_false h3,if_neg h3];rfl
 ·rw [cond_true,cond_true,ah (ad6 g w hw),Tre.aA,decide_eq_true h1,Bool.not_true,cond_false,Tre.aA]
  by_cases h2:u.1=g.1.1
  case neg=>rw [decide_eq_false h2,if_neg h2];rfl
  rw [decide_eq_true h2,if_pos h2,Bool.not_true,cond_false]
  dsimp only
  rw [hl,Tre.aA]
  by_cases h3:(g.2.1.length:Int)<g.2.2.1+(u.2.1.length:Int)
  ·rw [decide_eq_true h3,if_pos h3];rfl
  ·rw [decide_eq_false h3,if_neg h3];rfl
def Pk:Env:=⟨tau,[(53,J5),(71,Mf),(28,Pj)],[]⟩
def aga:FnI:=fnI Tryz.f41 []
def J4 (_:Bool) (zp1:Bool) (zp2:Bool) (_:List Int) (_:Bool) (p2:aG) (p3:bB):Int→au:=fun r=>⟨(.i r),[⟨true,aX,(.imm zp1),p2⟩,⟨true,bZ,(.imm zp2),p3⟩],[]⟩
theorem adX:∀(zp0 zp1 zp2:Bool)(p0:List Int)(p1:Bool)(p2:aG)(p3:bB),bJ Pk aga ⟨[(.ptr (0,0) []),(.imm zp0 .il p0),(.ptr (0,1) []),(.imm true .bool p1)],[⟨true,aX,(.imm zp1),p2⟩,⟨true,bZ,(.imm zp2),p3⟩]⟩=(J3 p0 p1 p2 p3).run fun r=>some (J4 zp0 zp1 zp2 p0 p1 p2 p3 r):=fun _ _ _ _ _ _ _=>by kernel_rfl
def af9 (av:List AV) (rs:List Root):Tre au:=
 aC av fun a0_ av0=>
 aC av0 fun a1_ av1=>
 aC av1 fun a2_ av2=>
 aC av2 fun a3_ av3=>
 aM av3<|
 aC rs fun r0_ rs0=>
 aC rs0 fun r1_ rs1=>
 aM rs1<|
 eF (0,0) [] a0_<|
 aZ .il a1_ fun z2 d1=>
 eF (0,1) [] a2_<|
 ay true .bool a3_ fun d3=>
 wV true aX r0_ fun m4 d5=>
 lu m4 fun z6=>
 wV true bZ r1_ fun m7 d8=>
 lu m7 fun z9=>
 .mat (vV d1 d3 d5 d8) fun r=>.ret (J4 z2 z6 z9 d1 d3 d5 d8 r)
def Pm:Ctr:=dD [] af9
theorem adY:Contract Tryz.prog .none 41 Pm:=aD (V:=Pk) aW (ak Tg aCh (ak aa9 aEI (ak adW aEn aH))) Tryz.func41 bI fun _ _ _=>aK fun _ _=>aK fun _ _=>aK fun _ _=>aK fun _ _=>bf<|aK fun _ _=>aK fun _ _=>bf<|jD<|bY fun _ _=>jD<|aJ fun _=>tRt fun _ _=>BA fun _=>tRt fun _ _=>BA fun _=>fun h=>by intros;subst_vars;exact bn (adX _ _ _ _ _ _ _) h
def qV (bL:List Int) (dU:(Int×(Int×Unit))):Int→Tre (Int ⊕ (Int ⊕ Unit)):=fun s4=>
 .cond (decide (s4<(bL.length:Int)))
  (.ite (0≤s4∧s4<(bL.length:Int))<|
  .mat (bL[s4.toNat]?) fun x2=>
  .mat (uX dU) fun r3=>
  let v4:=inR x2 0 (aI .i64 (r3-1))
  .cond (!v4)
   (.ret (.inr (.inl 2)))
   (.ret (.inl (aI .i64 (s4+1)))))
  (.ret (.inr (.inr ())))
def afL (p0:(Int×(Int×Unit))) (p1:List Int):Tre Int:=
 .mat (Dc p0) fun r1=>
 .cond (!r1)
  (.ret 1)
  (.mat (aO (qV p1 p0) 0) fun l5=>
  .alt l5
   (fun a6=>
    .ret a6)
   (fun _=>
    .ret 0))
def LY (p0:(Int×(Int×Unit))) (p1:List Int):Option Int:=(afL p0 p1).run some
def LZ:Env:=⟨tau,[(83,XO),(87,ES),(86,zB)],[]⟩
def ag5:Code:=(Tryz.f66.body).getD .skip
def FQ (kK:Bool) (bL:List Int) (dU:(Int×(Int×Unit))):Int→St:=fun x=>bP [(1,(.imm kK .il bL)),(2,(.ptr (4,0) [])),(5,(.i x))] [((4,0),some ⟨true,aL,.own,dU⟩)]
def vS (_:Bool) (_:List Int) (_:(Int×(Int×Unit))):(Int ⊕ Unit)→Ex×St
 |.inl x=>(.ret,bP [(4,(.i x))] [])
 |.inr _=>(.exit 0,bP [(4,.dead)] [])
def WB (s:St):Tre (Ex×St):=
 aZ .il (s.tmps 1) fun z3 d2=>
 eF (4,0) [] (s.tmps 2)<|
 ay true .n (s.tmps 5) fun d6=>
 bg true aL (s.roots (4,0)) fun m8 d9=>
 asM .own m8<|
 .mat (aO (qV d2 d9) d6) fun x=>.alt x (fun a0=>.ret (vS z3 d2 d9 (.inl a0))) (fun b0=>.ret (vS z3 d2 d9 (.inr b0)))
def uW:bq:=⟨([1,2,5],[(4,0)]),([4],[]),WB⟩
def WA:List (Nat×bq):=[(4,uW)]
theorem adq:∀(kK:Bool)(bL:List Int)(dU:(Int×(Int×Unit)))(x:Int)(c:St→Option (Ex×St)),den LZ WA (aT ag5 0) (FQ kK bL dU x) (bR uW.kp uW.kx c)=(qV bL dU x).run (bS (FQ kK bL dU) (vS kK bL dU) c):=fun _ _ _ _ _=>by
 kernel_rfl
theorem aiB:bQ LZ WA (aT ag5 0) uW:=fK fun s e s' h=>by
 generalize hs:restrict uW.kp s=s1 at h
 have h:(WB s1).run some=some (e,s'):=h
 obtain ⟨z3,d2,e1,h_0⟩:=fA h
 obtain ⟨e4,h_1⟩:=Im h_0
 obtain ⟨d6,e5,h_2⟩:=cu h_1
 obtain ⟨m8,d9,e7,h_3⟩:=fQ h_2
 obtain ⟨rfl,h_4⟩:=rO h_3
 obtain ⟨y,hy,hz⟩:=gN h_4
 refine ⟨_,_,FQ z3 d2 d9,vS z3 d2 d9,qV d2 d9,d6,y,?_,hy,?_,adq z3 d2 d9⟩
 ·subst hs;exact aP (T:=[(1,(.imm z3 .il d2)),(2,(.ptr (4,0) [])),(5,(.i d6))]) (U:=[((4,0),some ⟨true,aL,.own,d9⟩)]) rfl rfl ⟨e1,e4,e5,trivial⟩ ⟨e7,trivial⟩
 ·rcases y with x|x<;>exact Option.some.inj hz
def asR:FnI:=fnI Tryz.f66 WA
def Zj (_:Bool) (_:(Int×(Int×Unit))) (_:List Int):Int→au:=fun r=>⟨(.i r),[],[]⟩
theorem apW:∀(zp0:Bool)(p0:(Int×(Int×Unit)))(p1:List Int),bJ LZ asR ⟨[(.imm true aL p0),(.imm zp0 .il p1)],[]⟩=(afL p0 p1).run fun r=>some (Zj zp0 p0 p1 r):=fun _ _ _=>by kernel_rfl
def asQ (av:List AV) (rs:List Root):Tre au:=
 aC av fun a0_ av0=>
 aC av0 fun a1_ av1=>
 aM av1<|
 aM rs<|
 ay true aL a0_ fun d1=>
 aZ .il a1_ fun z3 d2=>
 .mat (LY d1 d2) fun r=>.ret (Zj z3 d1 d2 r)
def ag6:Ctr:=dD [] asQ
theorem apX:Contract Tryz.prog .none 66 ag6:=aD (V:=LZ) aW (ak aa0 aza (ak HZ avI (ak yO ajP aH))) Tryz.func66 (bF (n:=1) fun k hk=>by
 match k,hk with
 |0,_=>exact bH (id:=4) aiB) fun _ _ _=>aK fun _ _=>aK fun _ _=>bf<|bf<|aJ fun _=>bY fun _ _=>fun h=>by intros;subst_vars;exact bn (apW _ _ _) h
def WC (aV:Int) (bA:Int) (dB:(Int×(Int×Unit))):(Int×Int)→Tre ((Int×Int) ⊕ Int):=fun s3=>
 .cond (decide (s3.2<dB.1))
  (.ite (0≤aI .u64 s3.2)<|
  let v1:=aaA .i64 bA (aI .u64 s3.2)
  .cond (decide (ah7 .i64 v1 1=1))
   (.ite (0≤aI .u64 s3.2)<|
   let v2:=Ua .i64 aV (aI .u64 s3.2)
   .ret (.inl (jw .i64 s3.1 v2,aI .i64 (s3.2+1))))
   (.ret (.inl (s3.1,aI .i64 (s3.2+1)))))
  (.ret (.inr s3.1))
def asS (p0:(Int×(Int×Unit))) (p1:Int) (p2:Int):Tre Int:=
 .mat (aO (WC p1 p2 p0) (0,0)) fun l3=>
 .mat (WI l3 p0.2.1) fun r4=>
 .ret r4
def dW (p0:(Int×(Int×Unit))) (p1:Int) (p2:Int):Option Int:=(asS p0 p1 p2).run some
-- more
set_option maxRecDepth 100000
theorem aDZ:zT dW mulN 1 2=true:=by kernel_rfl
theorem aD0:zT dW mulN 1 3=true:=by kernel_rfl
theorem aD1:zT dW mulN 2 7=true:=by kernel_rfl
theorem aBP:zT dW mulN 3 11=true:=by kernel_rfl
theorem aBQ:zT dW mulN 3 13=true:=by kernel_rfl
theorem aBR:zT dW mulN 4 19=true:=by kernel_rfl
theorem aBS:zT dW mulN 4 25=true:=by kernel_rfl
theorem aBT:zT dW mulN 4 31=true:=by kernel_rfl
theorem aBU:zT dW mulN 5 37=true:=by kernel_rfl
theorem aBV:zT dW mulN 5 41=true:=by kernel_rfl
theorem aBW:zT dW mulN 5 47=true:=by kernel_rfl
theorem aBX:zT dW mulN 5 55=true:=by kernel_rfl
theorem aBY:zT dW mulN 5 59=true:=by kernel_rfl
theorem aBZ:zT dW mulN 5 61=true:=by kernel_rfl
theorem awG{f:TF3}(hf:aN f=true){a b:Int}(ha:inF f a)(hb:inF f b):dW f a b=some (gJ f a b):=by
 refine aAB (fun q hq=>?_) hf ha hb
 simp only [iW,List.mem_cons,List.not_mem_nil,or_false] at hq
 rcases hq with rfl|rfl|rfl|rfl|rfl|rfl|rfl|rfl|rfl|rfl|rfl|rfl|rfl|rfl
 ·exact aDZ
 ·exact aD0
 ·exact aD1
 ·exact aBP
 ·exact aBQ
 ·exact aBR
 ·exact aBS
 ·exact aBT
 ·exact aBU
 ·exact aBV
 ·exact aBW
 ·exact aBX
 ·exact aBY
 ·exact aBZ
def Rk:Env:=⟨tau,[(103,WJ)],[]⟩
def alv:Code:=(Tryz.f68.body).getD .skip
def WE (aV:Int) (bA:Int) (dB:(Int×(Int×Unit))):(Int×Int)→St:=fun x=>bP [(1,(.i aV)),(2,(.i bA)),(3,(.ptr (5,0) [])),(7,(.i x.1)),(8,(.i x.2))] [((5,0),some ⟨true,aL,.own,dB⟩)]
def SF (_:Int) (_:Int) (dB:(Int×(Int×Unit))):Int→Ex×St:=fun x=>(.exit 0,bP [(3,(.ptr (5,0) [])),(7,(.i x))] [((5,0),some ⟨true,aL,.own,dB⟩)])
def am9 (s:St):Tre (Ex×St):=
 ay true .n (s.tmps 1) fun d2=>
 ay true .n (s.tmps 2) fun d4=>
 eF (5,0) [] (s.tmps 3)<|
 ay true .n (s.tmps 7) fun d7=>
 ay true .n (s.tmps 8) fun d9=>
 bg true aL (s.roots (5,0)) fun m11 d12=>
 asM .own m11<|
 .mat (aO (WC d2 d4 d12) (d7,d9)) fun x=>.ret (SF d2 d4 d12 x)
def DT:bq:=⟨([1,2,3,7,8],[(5,0)]),([3,7],[(5,0)]),am9⟩
def aaY:List (Nat×bq):=[(3,DT)]
theorem afM:∀(aV bA:Int)(dB:(Int×(Int×Unit)))(x:(Int×Int))(c:St→Option (Ex×St)),den Rk aaY (aT alv 0) (WE aV bA dB x) (bR DT.kp DT.kx c)=(WC aV bA dB x).run (bS (WE aV bA dB) (SF aV bA dB) c):=fun _ _ _ _ _=>by
 kernel_rfl
theorem alx:bQ Rk aaY (aT alv 0) DT:=bX fun _ _ _=>aJ fun _=>aJ fun _=>jD<|aJ fun _=>aJ fun _=>bV fun _ _=>tM<|fun h _ e10 e8 e6 e5 e3 e1=>bO (afM _ _ _) h (by subst_vars;exact aP rfl rfl ⟨e1,e3,e5,e6,e8,trivial⟩ ⟨e10,trivial⟩)
def au3:FnI:=fnI Tryz.f68 aaY
def adr (_:(Int×(Int×Unit))) (_:Int) (_:Int):Int→au:=fun r=>⟨(.i r),[],[]⟩
theorem asT:∀(p0:(Int×(Int×Unit)))(p1 p2:Int),bJ Rk au3 ⟨[(.imm true aL p0),(.i p1),(.i p2)],[]⟩=(asS p0 p1 p2).run fun r=>some (adr p0 p1 p2 r):=fun _ _ _=>by kernel_rfl
def au2 (av:List AV) (rs:List Root):Tre au:=
 aC av fun a0_ av0=>
 aC av0 fun a1_ av1=>
 aC av1 fun a2_ av2=>
 aM av2<|
 aM rs<|
 ay true aL a0_ fun d1=>
 ay true .n a1_ fun d2=>
 ay true .n a2_ fun d3=>
 .mat (dW d1 d2 d3) fun r=>.ret (adr d1 d2 d3 r)
def qW:Ctr:=dD [] au2
theorem qw:Contract Tryz.prog .none 68 qW:=aD (V:=Rk) aW (ak adw ay2 aH) Tryz.func68 (bF (n:=1) fun k hk=>by
 match k,hk with
 |0,_=>exact bH (id:=3) alx) fun _ _ _=>aK fun _ _=>aK fun _ _=>aK fun _ _=>bf<|bf<|aJ fun _=>aJ fun _=>aJ fun _=>fun h=>by intros;subst_vars;exact bn (asT _ _ _) h
def QH:(Int×Int×Int)→Tre ((Int×Int×Int) ⊕ Int):=fun s2=>
 .cond (decide (s2.2.1>0))
  (.cond (decide (ah7 .i64 s2.2.1 1=1))
   (.ret (.inl (Ua .i64 s2.1 1,aaA .i64 s2.2.1 1,jw .i64 s2.2.2 s2.1)))
   (.ret (.inl (Ua .i64 s2.1 1,aaA .i64 s2.2.1 1,s2.2.2))))
  (.ret (.inr s2.2.2))
def anX (p0:Int) (p1:Int):Tre Int:=
 .mat (aO QH (p0,p1,0)) fun l1=>
 .ret l1
def agI (p0:Int) (p1:Int):Option Int:=(anX p0 p1).run some
def Lm:Env:=⟨tau,[],[]⟩
def agJ:Code:=(Tryz.f112.body).getD .skip
def Sd:(Int×Int×Int)→St:=fun x=>bP [(0,(.i x.1)),(1,(.i x.2.1)),(5,(.i x.2.2))] []
def Ow:Int→Ex×St:=fun x=>(.exit 0,bP [(5,(.i x))] [])
def akl (s:St):Tre (Ex×St):=
 ay true .n (s.tmps 0) fun d2=>
 ay true .n (s.tmps 1) fun d4=>
 ay true .n (s.tmps 5) fun d6=>
 .mat (aO QH (d2,d4,d6)) fun x=>.ret (Ow x)
def Ay:bq:=⟨([0,1,5],[]),([5],[]),akl⟩
def Vt:List (Nat×bq):=[(2,Ay)]
theorem acf:∀(x:(Int×Int×Int))(c:St→Option (Ex×St)),den Lm Vt (aT agJ 0) (Sd x) (bR Ay.kp Ay.kx c)=(QH x).run (bS (Sd) (Ow) c):=fun _ _=>by
 kernel_rfl
theorem ah2:bQ Lm Vt (aT agJ 0) Ay:=bX fun _ _ _=>aJ fun _=>aJ fun _=>aJ fun _=>fun h e5 e3 e1=>bO acf h (by subst_vars;exact aP rfl rfl ⟨e1,e3,e5,trivial⟩ trivial)
def arF:FnI:=fnI Tryz.f112 Vt
def YX (_:Int) (_:Int):Int→au:=fun r=>⟨(.i r),[],[]⟩
theorem ao5:∀(p0 p1:Int),bJ Lm arF ⟨[(.i p0),(.i p1)],[]⟩=(anX p0 p1).run fun r=>some (YX p0 p1 r):=fun _ _=>by kernel_rfl
def arE (av:List AV) (rs:List Root):Tre au:=
 aC av fun a0_ av0=>
 aC av0 fun a1_ av1=>
 aM av1<|
 aM rs<|
 ay true .n a0_ fun d1=>
 ay true .n a1_ fun d2=>
 .mat (agI d1 d2) fun r=>.ret (YX d1 d2 r)
def agK:Ctr:=dD [] arE
theorem ao6:Contract Tryz.prog .none 112 agK:=aD (V:=Lm) aW aH Tryz.func112 (bF (n:=1) fun k hk=>by
 match k,hk with
 |0,_=>exact bH (id:=2) ah2) fun _ _ _=>aK fun _ _=>aK fun _ _=>bf<|bf<|aJ fun _=>aJ fun _=>fun h=>by intros;subst_vars;exact bn (ao5 _ _) h
def M5:(Int×Int)→Tre ((Int×Int) ⊕ Int):=fun s2=>
 .cond (decide (s2.1>0))
  (.ret (.inl (aaA .i64 s2.1 1,aI .i64 (s2.2+1))))
  (.ret (.inr s2.2))
def akd (p0:Int):Tre Int:=
 .mat (aO M5 (p0,-1)) fun l1=>
 .ret l1
def qP (p0:Int):Option Int:=(akd p0).run some
def Hl:Env:=⟨tau,[],[]⟩
def ab8:Code:=(Tryz.f133.body).getD .skip
def Ot:(Int×Int)→St:=fun x=>bP [(0,(.i x.1)),(3,(.i x.2))] []
def Lg:Int→Ex×St:=fun x=>(.exit 0,bP [(3,(.i x))] [])
def ahZ (s:St):Tre (Ex×St):=
 ay true .n (s.tmps 0) fun d2=>
 ay true .n (s.tmps 3) fun d4=>
 .mat (aO M5 (d2,d4)) fun x=>.ret (Lg x)
def xS:bq:=⟨([0,3],[]),([3],[]),ahZ⟩
def QF:List (Nat×bq):=[(2,xS)]
theorem aas:∀(x:(Int×Int))(c:St→Option (Ex×St)),den Hl QF (aT ab8 0) (Ot x) (bR xS.kp xS.kx c)=(M5 x).run (bS (Ot) (Lg) c):=fun _ _=>by
 kernel_rfl
theorem ae4:bQ Hl QF (aT ab8 0) xS:=bX fun _ _ _=>aJ fun _=>aJ fun _=>fun h e3 e1=>bO aas h (by subst_vars;exact aP rfl rfl ⟨e1,e3,trivial⟩ trivial)
def ao2:FnI:=fnI Tryz.f133 QF
def Vs (_:Int):Int→au:=fun r=>⟨(.i r),[],[]⟩
theorem amJ:∀(p0:Int),bJ Hl ao2 ⟨[(.i p0)],[]⟩=(akd p0).run fun r=>some (Vs p0 r):=fun _=>by kernel_rfl
def ao1 (av:List AV) (rs:List Root):Tre au:=
 aC av fun a0_ av0=>
 aM av0<|
 aM rs<|
 ay true .n a0_ fun d1=>
 .mat (qP d1) fun r=>.ret (Vs d1 r)
def Ho:Ctr:=dD [] ao1
theorem M6:Contract Tryz.prog .none 133 Ho:=aD (V:=Hl) aW aH Tryz.func133 (bF (n:=1) fun k hk=>by
 match k,hk with
 |0,_=>exact bH (id:=2) ae4) fun _ _ _=>aK fun _ _=>bf<|bf<|aJ fun _=>fun h=>by intros;subst_vars;exact bn (amJ _) h
def Vu (bG:Int) (dA:Int):Int→Tre (Int ⊕ Int):=fun s2=>
 .mat (qP s2) fun r2=>
 .cond (decide (r2 ≥ dA))
  (.mat (qP s2) fun r3=>
  .ite (0≤aI .i64 (r3-dA))<|
  let v4:=Ua .i64 bG (aI .i64 (r3-dA))
  .ret (.inl (jw .i64 s2 v4)))
  (.ret (.inr s2))
def arI (p0:Int) (p1:Int):Tre Int:=
 .mat (qP p1) fun r1=>
 .mat (aO (Vu p1 r1) p0) fun l5=>
 .ret l5
def aax (p0:Int) (p1:Int):Option Int:=(arI p0 p1).run some
def QJ:Env:=⟨tau,[(133,Ho)],[]⟩
def akp:Code:=(Tryz.f111.body).getD .skip
def Vv (bG:Int) (dA:Int):Int→St:=fun x=>bP [(0,(.i x)),(1,(.i bG)),(5,(.i dA))] []
def Sg (_:Int) (_:Int):Int→Ex×St:=fun x=>(.exit 0,bP [(0,(.i x))] [])
def amK (s:St):Tre (Ex×St):=
 ay true .n (s.tmps 0) fun d2=>
 ay true .n (s.tmps 1) fun d4=>
 ay true .n (s.tmps 5) fun d6=>
 .mat (aO (Vu d4 d6) d2) fun x=>.ret (Sg d4 d6 x)
def DF:bq:=⟨([0,1,5],[]),([0],[]),amK⟩
def aaw:List (Nat×bq):=[(2,DF)]
theorem ae7:∀(bG dA x:Int)(c:St→Option (Ex×St)),den QJ aaw (aT akp 0) (Vv bG dA x) (bR DF.kp DF.kx c)=(Vu bG dA x).run (bS (Vv bG dA) (Sg bG dA) c):=fun _ _ _ _=>by
 kernel_rfl
theorem akq:bQ QJ aaw (aT akp 0) DF:=bX fun _ _ _=>aJ fun _=>aJ fun _=>aJ fun _=>fun h e5 e3 e1=>bO (ae7 _ _) h (by subst_vars;exact aP rfl rfl ⟨e1,e3,e5,trivial⟩ trivial)
def auC:FnI:=fnI Tryz.f111 aaw
def ach (_:Int) (_:Int):Int→au:=fun r=>⟨(.i r),[],[]⟩
theorem arJ:∀(p0 p1:Int),bJ QJ auC ⟨[(.i p0),(.i p1)],[]⟩=(arI p0 p1).run fun r=>some (ach p0 p1 r):=fun _ _=>by kernel_rfl
def auB (av:List AV) (rs:List Root):Tre au:=
 aC av fun a0_ av0=>
 aC av0 fun a1_ av1=>
 aM av1<|
 aM rs<|
 ay true .n a0_ fun d1=>
 ay true .n a1_ fun d2=>
 .mat (aax d1 d2) fun r=>.ret (ach d1 d2 r)
def aay:Ctr:=dD [] auB
theorem agL:Contract Tryz.prog .none 111 aay:=aD (V:=QJ) aW (ak M6 aun aH) Tryz.func111 (bF (n:=1) fun k hk=>by
 match k,hk with
 |0,_=>exact bH (id:=2) akq) fun _ _ _=>aK fun _ _=>aK fun _ _=>bf<|bf<|aJ fun _=>aJ fun _=>fun h=>by intros;subst_vars;exact bn (arJ _ _) h
def agD (p0:(Int×(Int×Unit))) (p1:Int) (p2:Int):Tre Int:=
 .mat (agI p1 p2) fun r1=>
 .mat (aax r1 p0.2.1) fun r2=>
 .ret r2
def cO (p0:(Int×(Int×Unit))) (p1:Int) (p2:Int):Option Int:=(agD p0 p1 p2).run some
-- more
set_option maxRecDepth 100000
theorem aDv:zT cO mulN 1 2=true:=by kernel_rfl
theorem aDw:zT cO mulN 1 3=true:=by kernel_rfl
theorem aDx:zT cO mulN 2 7=true:=by kernel_rfl
theorem aBa:zT cO mulN 3 11=true:=by kernel_rfl
theorem aBb:zT cO mulN 3 13=true:=by kernel_rfl
theorem aBd:zT cO mulN 4 19=true:=by kernel_rfl
theorem aBe:zT cO mulN 4 25=true:=by kernel_rfl
theorem aBf:zT cO mulN 4 31=true:=by kernel_rfl
theorem aBg:zT cO mulN 5 37=true:=by kernel_rfl
theorem aBh:zT cO mulN 5 41=true:=by kernel_rfl
theorem aBi:zT cO mulN 5 47=true:=by kernel_rfl
theorem aBj:zT cO mulN 5 55=true:=by kernel_rfl
theorem aBk:zT cO mulN 5 59=true:=by kernel_rfl
theorem aBl:zT cO mulN 5 61=true:=by kernel_rfl
theorem ao9{f:TF3}(hf:aN f=true){a b:Int}(ha:inF f a)(hb:inF f b):cO f a b=some (gJ f a b):=by
 refine aAB (fun q hq=>?_) hf ha hb
 simp only [iW,List.mem_cons,List.not_mem_nil,or_false] at hq
 rcases hq with rfl|rfl|rfl|rfl|rfl|rfl|rfl|rfl|rfl|rfl|rfl|rfl|rfl|rfl
 ·exact aDv
 ·exact aDw
 ·exact aDx
 ·exact aBa
 ·exact aBb
 ·exact aBd
 ·exact aBe
 ·exact aBf
 ·exact aBg
 ·exact aBh
 ·exact aBi
 ·exact aBj
 ·exact aBk
 ·exact aBl
def YR:Env:=⟨tau,[(112,agK),(111,aay)],[]⟩
def amH:FnI:=fnI Tryz.f75 []
def R3 (_:(Int×(Int×Unit))) (_:Int) (_:Int):Int→au:=fun r=>⟨(.i r),[],[]⟩
theorem aj5:∀(p0:(Int×(Int×Unit)))(p1 p2:Int),bJ YR amH ⟨[(.imm true aL p0),(.i p1),(.i p2)],[]⟩=(agD p0 p1 p2).run fun r=>some (R3 p0 p1 p2 r):=fun _ _ _=>by kernel_rfl
def amG (av:List AV) (rs:List Root):Tre au:=
 aC av fun a0_ av0=>
 aC av0 fun a1_ av1=>
 aC av1 fun a2_ av2=>
 aM av2<|
 aM rs<|
 ay true aL a0_ fun d1=>
 ay true .n a1_ fun d2=>
 ay true .n a2_ fun d3=>
 .mat (cO d1 d2 d3) fun r=>.ret (R3 d1 d2 d3 r)
def oC:Ctr:=dD [] amG
theorem pK:Contract Tryz.prog .none 75 oC:=aD (V:=YR) aW (ak ao6 aC3 (ak agL ay3 aH)) Tryz.func75 bI fun _ _ _=>aK fun _ _=>aK fun _ _=>aK fun _ _=>bf<|bf<|aJ fun _=>aJ fun _=>aJ fun _=>fun h=>by intros;subst_vars;exact bn (aj5 _ _ _) h
def kT (bG:Int) (bK:(Int×(Int×Unit))):(Int×Int)→Tre ((Int×Int) ⊕ Int):=fun s2=>
 .cond (decide (s2.2<bG))
  (.mat (cO bK s2.1 s2.1) fun r1=>
  .ret (.inl (r1,aI .i64 (s2.2+1))))
  (.ret (.inr s2.1))
def IY (p0:(Int×(Int×Unit))) (p1:Int) (p2:Int):Tre Int:=
 .ifn (p0.1=0)<|
 .mat (aO (kT (Int.tmod p2 p0.1) p0) (p1,0)) fun l2=>
 .ret l2
def gG (p0:(Int×(Int×Unit))) (p1:Int) (p2:Int):Option Int:=(IY p0 p1 p2).run some
-- more
theorem ao8{f:TF3}(hf:aN f=true){a b:Nat}(ha:a<(FOf f hf).q)(hb:b<(FOf f hf).q):cO f (a:Int) (b:Int)=some (((FOf f hf).mul a b:Nat):Int):=by
 rw [ao9 hf ((Y2 hf).2 ⟨a,rfl,ha⟩) ((Y2 hf).2 ⟨b,rfl,hb⟩),apF hf ha hb]
theorem aAU{f:TF3}(hf:aN f=true):f.1=(f.1.toNat:Int)∧f.1≠0∧1≤f.1.toNat∧f.1.toNat≤5:=by
 have:=nI hf
 refine ⟨by omega,by omega,by omega,by omega⟩
theorem akF{f:TF3}(hf:aN f=true){x:Nat}(hx:x<(FOf f hf).q)(k:Nat):gG f (x:Int) (k:Int)=some (((FOf f hf).sqn k x:Nat):Int):=by
 obtain ⟨h1,h2,h3,h4⟩:=aAU hf
 have hm:Int.tmod (k:Int) f.1=((k%f.1.toNat:Nat):Int):=by
  conv=>lhs;rw [h1]
  exact (Int.ofNat_tmod k f.1.toNat).symm
 have hml:k%f.1.toNat<f.1.toNat:=Nat.mod_lt _ (by omega)
 unfold gG IY
 rw [Tre.Rf,if_neg h2,hm,ah (show aO (kT ((k%f.1.toNat:Nat):Int) f) ((x:Int),0)=some (((FOf f hf).sqn k x:Nat):Int) from ?_),Tre.aF]
 refine dh (fun i=>(((((FOf f hf).sqn i x:Nat):Int)),(i:Int))) (k%f.1.toNat) _ (fun i hi=>?_) ?_
 ·have hl:=(FOf f hf).F8 i hx
  unfold kT
  dsimp only
  rw [Tre.aA,decide_eq_true (by omega),cond_true,ah (ao8 hf hl hl),Tre.aF,aR (by omega),FO.atu]
  rfl
 ·unfold kT
  dsimp only
  rw [dF,Tre.aF,aea hf hx]
def vH:Env:=⟨tau,[(75,oC)],[]⟩
def N8:Code:=(Tryz.f62.body).getD .skip
def Ej (bG:Int) (bK:(Int×(Int×Unit))):(Int×Int)→St:=fun x=>bP [(1,(.i x.1)),(3,(.ptr (5,0) [])),(10,(.i bG)),(11,(.i x.2))] [((5,0),some ⟨true,aL,.own,bK⟩)]
def BX (_:Int) (_:(Int×(Int×Unit))):Int→Ex×St:=fun x=>(.exit 0,bP [(1,(.i x))] [])
def X3 (s:St):Tre (Ex×St):=
 ay true .n (s.tmps 1) fun d2=>
 eF (5,0) [] (s.tmps 3)<|
 ay true .n (s.tmps 10) fun d5=>
 ay true .n (s.tmps 11) fun d7=>
 bg true aL (s.roots (5,0)) fun m9 d10=>
 asM .own m9<|
 .mat (aO (kT d5 d10) (d2,d7)) fun x=>.ret (BX d5 d10 x)
def oQ:bq:=⟨([1,3,10,11],[(5,0)]),([1],[]),X3⟩
def CG:List (Nat×bq):=[(2,oQ)]
theorem Qx:∀(bG:Int)(bK:(Int×(Int×Unit)))(x:(Int×Int))(c:St→Option (Ex×St)),den vH CG (aT N8 0) (Ej bG bK x) (bR oQ.kp oQ.kx c)=(kT bG bK x).run (bS (Ej bG bK) (BX bG bK) c):=fun _ _ _ _=>by
 kernel_rfl
theorem U8:bQ vH CG (aT N8 0) oQ:=bX fun _ _ _=>aJ fun _=>jD<|aJ fun _=>aJ fun _=>bV fun _ _=>tM<|fun h _ e8 e6 e4 e3 e1=>bO (Qx _ _) h (by subst_vars;exact aP rfl rfl ⟨e1,e3,e4,e6,trivial⟩ ⟨e8,trivial⟩)
def aeV:FnI:=fnI Tryz.f62 CG
def IZ (_:(Int×(Int×Unit))) (_:Int) (_:Int):Int→au:=fun r=>⟨(.i r),[],[]⟩
theorem ab2:∀(p0:(Int×(Int×Unit)))(p1 p2:Int),bJ vH aeV ⟨[(.imm true aL p0),(.i p1),(.i p2)],[]⟩=(IY p0 p1 p2).run fun r=>some (IZ p0 p1 p2 r):=fun _ _ _=>by kernel_rfl
def aeU (av:List AV) (rs:List Root):Tre au:=
 aC av fun a0_ av0=>
 aC av0 fun a1_ av1=>
 aC av1 fun a2_ av2=>
 aM av2<|
 aM rs<|
 ay true aL a0_ fun d1=>
 ay true .n a1_ fun d2=>
 ay true .n a2_ fun d3=>
 .mat (gG d1 d2 d3) fun r=>.ret (IZ d1 d2 d3 r)
def mD:Ctr:=dD [] aeU
theorem nQ:Contract Tryz.prog .none 62 mD:=aD (V:=vH) aW (ak pK anQ aH) Tryz.func62 (bF (n:=1) fun k hk=>by
 match k,hk with
 |0,_=>exact bH (id:=2) U8) fun _ _ _=>aK fun _ _=>aK fun _ _=>aK fun _ _=>bf<|bf<|aJ fun _=>aJ fun _=>aJ fun _=>fun h=>by intros;subst_vars;exact bn (ab2 _ _ _) h
def qd (dA:(Int×(Int×Unit))):(Int×Int)→Tre ((Int×Int) ⊕ Int):=fun s2=>
 .cond (decide (s2.2>0))
  (.mat (dW dA s2.1 s2.1) fun r1=>
  .ret (.inl (r1,aI .i64 (s2.2-1))))
  (.ret (.inr s2.1))
def WK (p0:(Int×(Int×Unit))) (p1:Int) (p2:Int):Tre Int:=
 .ifn (p0.1=0)<|
 .mat (aO (qd p0) (p1,Int.tmod p2 p0.1)) fun l2=>
 .ret l2
def ko (p0:(Int×(Int×Unit))) (p1:Int) (p2:Int):Option Int:=(WK p0 p1 p2).run some
-- more
theorem agl{f:TF3}(hf:aN f=true){a b:Nat}(ha:a<(FOf f hf).q)(hb:b<(FOf f hf).q):dW f (a:Int) (b:Int)=some (((FOf f hf).mul a b:Nat):Int):=by
 rw [awG hf ((Y2 hf).2 ⟨a,rfl,ha⟩) ((Y2 hf).2 ⟨b,rfl,hb⟩),apF hf ha hb]
theorem agm{f:TF3}(hf:aN f=true){x:Nat}(hx:x<(FOf f hf).q)(k:Nat):ko f (x:Int) (k:Int)=some (((FOf f hf).sqn k x:Nat):Int):=by
 obtain ⟨h1,h2,h3,h4⟩:=aAU hf
 have hm:Int.tmod (k:Int) f.1=((k%f.1.toNat:Nat):Int):=by
  conv=>lhs;rw [h1]
  exact (Int.ofNat_tmod k f.1.toNat).symm
 have hml:k%f.1.toNat<f.1.toNat:=Nat.mod_lt _ (by omega)
 unfold ko WK
 rw [Tre.Rf,if_neg h2,hm,ah (show aO (qd f) ((x:Int),((k%f.1.toNat:Nat):Int))=some (((FOf f hf).sqn k x:Nat):Int) from ?_),Tre.aF]
 refine dh (fun i=>(((((FOf f hf).sqn i x:Nat):Int)),((k%f.1.toNat-i:Nat):Int))) (k%f.1.toNat) _ (fun i hi=>?_) ?_
 ·have hl:=(FOf f hf).F8 i hx
  unfold qd
  dsimp only
  rw [Tre.aA,decide_eq_true (by omega),cond_true,ah (agl hf hl hl),Tre.aF,gQ (by omega) (by omega),FO.atu,Nat.sub_sub]
  rfl
 ·unfold qd
  dsimp only
  rw [Nat.sub_self,Tre.aA,decide_eq_false (by omega),cond_false,Tre.aF,aea hf hx]
def DU:Env:=⟨tau,[(68,qW)],[]⟩
def Zm:Code:=(Tryz.f56.body).getD .skip
def L9 (dA:(Int×(Int×Unit))):(Int×Int)→St:=fun x=>bP [(1,(.i x.1)),(2,(.i x.2)),(3,(.ptr (5,0) []))] [((5,0),some ⟨true,aL,.own,dA⟩)]
def JF (_:(Int×(Int×Unit))):Int→Ex×St:=fun x=>(.exit 0,bP [(1,(.i x))] [])
def afP (s:St):Tre (Ex×St):=
 ay true .n (s.tmps 1) fun d2=>
 ay true .n (s.tmps 2) fun d4=>
 eF (5,0) [] (s.tmps 3)<|
 bg true aL (s.roots (5,0)) fun m7 d8=>
 asM .own m7<|
 .mat (aO (qd d8) (d2,d4)) fun x=>.ret (JF d8 x)
def vT:bq:=⟨([1,2,3],[(5,0)]),([1],[]),afP⟩
def Np:List (Nat×bq):=[(2,vT)]
theorem Yv:∀(dA:(Int×(Int×Unit)))(x:(Int×Int))(c:St→Option (Ex×St)),den DU Np (aT Zm 0) (L9 dA x) (bR vT.kp vT.kx c)=(qd dA x).run (bS (L9 dA) (JF dA) c):=fun _ _ _=>by
 kernel_rfl
theorem adx:bQ DU Np (aT Zm 0) vT:=bX fun _ _ _=>aJ fun _=>aJ fun _=>jD<|bV fun _ _=>tM<|fun h _ e6 e5 e3 e1=>bO (Yv _) h (by subst_vars;exact aP rfl rfl ⟨e1,e3,e5,trivial⟩ ⟨e6,trivial⟩)
def anf:FnI:=fnI Tryz.f56 Np
def SH (_:(Int×(Int×Unit))) (_:Int) (_:Int):Int→au:=fun r=>⟨(.i r),[],[]⟩
theorem alA:∀(p0:(Int×(Int×Unit)))(p1 p2:Int),bJ DU anf ⟨[(.imm true aL p0),(.i p1),(.i p2)],[]⟩=(WK p0 p1 p2).run fun r=>some (SH p0 p1 p2 r):=fun _ _ _=>by kernel_rfl
def ane (av:List AV) (rs:List Root):Tre au:=
 aC av fun a0_ av0=>
 aC av0 fun a1_ av1=>
 aC av1 fun a2_ av2=>
 aM av2<|
 aM rs<|
 ay true aL a0_ fun d1=>
 ay true .n a1_ fun d2=>
 ay true .n a2_ fun d3=>
 .mat (ko d1 d2 d3) fun r=>.ret (SH d1 d2 d3 r)
def sI:Ctr:=dD [] ane
theorem uY:Contract Tryz.prog .none 56 sI:=aD (V:=DU) aW (ak qw agz aH) Tryz.func56 (bF (n:=1) fun k hk=>by
 match k,hk with
 |0,_=>exact bH (id:=2) adx) fun _ _ _=>aK fun _ _=>aK fun _ _=>aK fun _ _=>bf<|bf<|aJ fun _=>aJ fun _=>aJ fun _=>fun h=>by intros;subst_vars;exact bn (alA _ _ _) h
def mE (aV:Int) (bW:List Int) (dY:Int) (iZ:(Int×(Int×Unit))):(Int×Int)→Tre ((Int×Int) ⊕ Int):=fun s3=>
 .cond (decide (s3.2<dY))
  (.ite (0≤s3.2∧s3.2<(bW.length:Int))<|
  .mat (bW[s3.2.toNat]?) fun x1=>
  .mat (gG iZ aV s3.2) fun r2=>
  .mat (cO iZ x1 r2) fun r3=>
  .ret (.inl (jw .i64 s3.1 r3,aI .i64 (s3.2+1))))
  (.ret (.inr s3.1))
def MP (p0:(Int×(Int×Unit))) (p1:List Int) (p2:Int):Tre Int:=
 .mat (aO (mE p2 p1 (p1.length:Int) p0) (0,0)) fun l4=>
 .ret l4
def rQ (p0:(Int×(Int×Unit))) (p1:List Int) (p2:Int):Option Int:=(MP p0 p1 p2).run some
-- more
theorem apB(F:FO):∀(p:List Nat)(c x:Nat),F.lp (p++[c]) x=F.lp p x^^^F.mul c (F.sqn p.length x):=by
 intro p
 induction p with
 |nil=>intro c x;simp [FO.lp,FO.sqn]
 |cons a p ih=>
  intro c x
  simp only [List.cons_append,FO.lp,List.length_cons,FO.sqn]
  rw [ih,Nat.xor_assoc]
theorem an2{f:TF3}(hf:aN f=true){P:List Nat}(hP:inL (FOf f hf) P)(hl:P.length≤1000){x:Nat}(hx:x<(FOf f hf).q):rQ f (aQ P) (x:Int)=some (((FOf f hf).lp P x:Nat):Int):=by
 unfold rQ MP
 rw [ah (show aO (mE (x:Int) (aQ P) ((aQ P).length:Int) f) (0,0)=some (((FOf f hf).lp P x:Nat):Int) from ?_),Tre.aF]
 refine dh (fun i=>((((FOf f hf).lp (P.take i) x:Nat):Int),(i:Int))) P.length _ (fun i hi=>?_) ?_
 ·have hs:=(FOf f hf).F8 i hx
  have hti:(P.take i).length=i:=by rw [List.length_take];omega
  unfold mE
  dsimp only
  rw [dX (dL (eO hi)),ah (akF hf hx i),ah (ao8 hf (kC hP i) hs),Tre.aF,aR (by omega),Xq hf ((FOf f hf).Y9 _ _) ((FOf f hf).lt _ _),List.take_add_one,eO hi,Option.toList_some,apB,hti]
 ·unfold mE
  dsimp only
  rw [aS,dF,Tre.aF,List.take_length]
def xQ:Env:=⟨tau,[(62,mD),(75,oC)],[]⟩
def R7:Code:=(Tryz.f69.body).getD .skip
def Gf (dZ:Bool) (aV:Int) (bW:List Int) (dY:Int) (iZ:(Int×(Int×Unit))):(Int×Int)→St:=fun x=>bP [(2,(.i aV)),(3,(.ptr (5,0) [])),(7,(.i x.1)),(10,(.imm dZ .il bW)),(11,(.i dY)),(12,(.i x.2))] [((5,0),some ⟨true,aL,.own,iZ⟩)]
def El (_:Bool) (_:Int) (_:List Int) (_:Int) (_:(Int×(Int×Unit))):Int→Ex×St:=fun x=>(.exit 0,bP [(7,(.i x))] [])
def aaf (s:St):Tre (Ex×St):=
 ay true .n (s.tmps 2) fun d2=>
 eF (5,0) [] (s.tmps 3)<|
 ay true .n (s.tmps 7) fun d5=>
 aZ .il (s.tmps 10) fun z8 d7=>
 ay true .n (s.tmps 11) fun d10=>
 ay true .n (s.tmps 12) fun d12=>
 bg true aL (s.roots (5,0)) fun m14 d15=>
 asM .own m14<|
 .mat (aO (mE d2 d7 d10 d15) (d5,d12)) fun x=>.ret (El z8 d2 d7 d10 d15 x)
def qJ:bq:=⟨([2,3,7,10,11,12],[(5,0)]),([7],[]),aaf⟩
def FB:List (Nat×bq):=[(3,qJ)]
theorem TG:∀(dZ:Bool)(aV:Int)(bW:List Int)(dY:Int)(iZ:(Int×(Int×Unit)))(x:(Int×Int))(c:St→Option (Ex×St)),den xQ FB (aT R7 0) (Gf dZ aV bW dY iZ x) (bR qJ.kp qJ.kx c)=(mE aV bW dY iZ x).run (bS (Gf dZ aV bW dY iZ) (El dZ aV bW dY iZ) c):=fun _ _ _ _ _ _ _=>by
 kernel_rfl
theorem X4:bQ xQ FB (aT R7 0) qJ:=bX fun _ _ _=>aJ fun _=>jD<|aJ fun _=>bY fun _ _=>aJ fun _=>aJ fun _=>bV fun _ _=>tM<|fun h _ e13 e11 e9 e6 e4 e3 e1=>bO (TG _ _ _ _ _) h (by subst_vars;exact aP rfl rfl ⟨e1,e3,e4,e6,e9,e11,trivial⟩ ⟨e13,trivial⟩)
def ahQ:FnI:=fnI Tryz.f69 FB
def La (_:Bool) (_:(Int×(Int×Unit))) (_:List Int) (_:Int):Int→au:=fun r=>⟨(.i r),[],[]⟩
theorem aeW:∀(zp0:Bool)(p0:(Int×(Int×Unit)))(p1:List Int)(p2:Int),bJ xQ ahQ ⟨[(.imm true aL p0),(.imm zp0 .il p1),(.i p2)],[]⟩=(MP p0 p1 p2).run fun r=>some (La zp0 p0 p1 p2 r):=fun _ _ _ _=>by kernel_rfl
def ahP (av:List AV) (rs:List Root):Tre au:=
 aC av fun a0_ av0=>
 aC av0 fun a1_ av1=>
 aC av1 fun a2_ av2=>
 aM av2<|
 aM rs<|
 ay true aL a0_ fun d1=>
 aZ .il a1_ fun z3 d2=>
 ay true .n a2_ fun d4=>
 .mat (rQ d1 d2 d4) fun r=>.ret (La z3 d1 d2 d4 r)
def FC:Ctr:=dD [] ahP
theorem N9:Contract Tryz.prog .none 69 FC:=aD (V:=xQ) aW (ak nQ ari (ak pK anQ aH)) Tryz.func69 (bF (n:=1) fun k hk=>by
 match k,hk with
 |0,_=>exact bH (id:=3) X4) fun _ _ _=>aK fun _ _=>aK fun _ _=>aK fun _ _=>bf<|bf<|aJ fun _=>bY fun _ _=>aJ fun _=>fun h=>by intros;subst_vars;exact bn (aeW _ _ _ _) h
def sJ (aV:List Int) (bA:Int) (dB:(Int×(Int×Unit))):(Int×Int)→Tre ((Int×Int) ⊕ Int):=fun s3=>
 .cond (decide (s3.2<(aV.length:Int)))
  (.ite (0≤s3.2∧s3.2<(aV.length:Int))<|
  .mat (aV[s3.2.toNat]?) fun x1=>
  .mat (ko dB bA s3.2) fun r2=>
  .mat (dW dB x1 r2) fun r3=>
  .ret (.inl (jw .i64 s3.1 r3,aI .i64 (s3.2+1))))
  (.ret (.inr s3.1))
def abg (p0:(Int×(Int×Unit))) (p1:List Int) (p2:Int):Tre Int:=
 .mat (aO (sJ p1 p2 p0) (0,0)) fun l4=>
 .ret l4
def H6 (p0:(Int×(Int×Unit))) (p1:List Int) (p2:Int):Option Int:=(abg p0 p1 p2).run some
-- more
theorem avk{f:TF3}(hf:aN f=true){P:List Nat}(hP:inL (FOf f hf) P)(hl:P.length≤1000){x:Nat}(hx:x<(FOf f hf).q):H6 f (aQ P) (x:Int)=some (((FOf f hf).lp P x:Nat):Int):=by
 unfold H6 abg
 rw [ah (show aO (sJ (aQ P) (x:Int) f) (0,0)=some (((FOf f hf).lp P x:Nat):Int) from ?_),Tre.aF]
 refine dh (fun i=>((((FOf f hf).lp (P.take i) x:Nat):Int),(i:Int))) P.length _ (fun i hi=>?_) ?_
 ·have hs:=(FOf f hf).F8 i hx
  have hti:(P.take i).length=i:=by rw [List.length_take];omega
  unfold sJ
  dsimp only
  rw [dX (dL (eO hi)),ah (agm hf hx i),ah (agl hf (kC hP i) hs),Tre.aF,aR (by omega),Xq hf ((FOf f hf).Y9 _ _) ((FOf f hf).lt _ _),List.take_add_one,eO hi,Option.toList_some,apB,hti]
 ·unfold sJ
  dsimp only
  rw [aS,dF,Tre.aF,List.take_length]
def H7:Env:=⟨tau,[(56,sI),(68,qW)],[]⟩
def adM:Code:=(Tryz.f101.body).getD .skip
def O8 (dZ:Bool) (aV:List Int) (bA:Int) (dB:(Int×(Int×Unit))):(Int×Int)→St:=fun x=>bP [(1,(.imm dZ .il aV)),(2,(.i bA)),(3,(.ptr (5,0) [])),(7,(.i x.1)),(8,(.i x.2))] [((5,0),some ⟨true,aL,.own,dB⟩)]
def Mr (_:Bool) (_:List Int) (_:Int) (_:(Int×(Int×Unit))):Int→Ex×St:=fun x=>(.exit 0,bP [(7,(.i x))] [])
def aiN (s:St):Tre (Ex×St):=
 aZ .il (s.tmps 1) fun z3 d2=>
 ay true .n (s.tmps 2) fun d5=>
 eF (5,0) [] (s.tmps 3)<|
 ay true .n (s.tmps 7) fun d8=>
 ay true .n (s.tmps 8) fun d10=>
 bg true aL (s.roots (5,0)) fun m12 d13=>
 asM .own m12<|
 .mat (aO (sJ d2 d5 d13) (d8,d10)) fun x=>.ret (Mr z3 d2 d5 d13 x)
def yh:bq:=⟨([1,2,3,7,8],[(5,0)]),([7],[]),aiN⟩
def Ru:List (Nat×bq):=[(3,yh)]
theorem abh:∀(dZ:Bool)(aV:List Int)(bA:Int)(dB:(Int×(Int×Unit)))(x:(Int×Int))(c:St→Option (Ex×St)),den H7 Ru (aT adM 0) (O8 dZ aV bA dB x) (bR yh.kp yh.kx c)=(sJ aV bA dB x).run (bS (O8 dZ aV bA dB) (Mr dZ aV bA dB) c):=fun _ _ _ _ _ _=>by
 kernel_rfl
theorem af0:bQ H7 Ru (aT adM 0) yh:=bX fun _ _ _=>bY fun _ _=>aJ fun _=>jD<|aJ fun _=>aJ fun _=>bV fun _ _=>tM<|fun h _ e11 e9 e7 e6 e4 e1=>bO (abh _ _ _ _) h (by subst_vars;exact aP rfl rfl ⟨e1,e4,e6,e7,e9,trivial⟩ ⟨e11,trivial⟩)
def aqe:FnI:=fnI Tryz.f101 Ru
def Xa (_:Bool) (_:(Int×(Int×Unit))) (_:List Int) (_:Int):Int→au:=fun r=>⟨(.i r),[],[]⟩
theorem anj:∀(zp0:Bool)(p0:(Int×(Int×Unit)))(p1:List Int)(p2:Int),bJ H7 aqe ⟨[(.imm true aL p0),(.imm zp0 .il p1),(.i p2)],[]⟩=(abg p0 p1 p2).run fun r=>some (Xa zp0 p0 p1 p2 r):=fun _ _ _ _=>by kernel_rfl
def aqd (av:List AV) (rs:List Root):Tre au:=
 aC av fun a0_ av0=>
 aC av0 fun a1_ av1=>
 aC av1 fun a2_ av2=>
 aM av2<|
 aM rs<|
 ay true aL a0_ fun d1=>
 aZ .il a1_ fun z3 d2=>
 ay true .n a2_ fun d4=>
 .mat (H6 d1 d2 d4) fun r=>.ret (Xa z3 d1 d2 d4 r)
def adN:Ctr:=dD [] aqd
theorem ank:Contract Tryz.prog .none 101 adN:=aD (V:=H7) aW (ak uY arh (ak qw agz aH)) Tryz.func101 (bF (n:=1) fun k hk=>by
 match k,hk with
 |0,_=>exact bH (id:=3) af0) fun _ _ _=>aK fun _ _=>aK fun _ _=>aK fun _ _=>bf<|bf<|aJ fun _=>bY fun _ _=>aJ fun _=>fun h=>by intros;subst_vars;exact bn (anj _ _ _ _) h
def vU (aU:List Int):Int→Tre (Int ⊕ Int):=fun s2=>
 .cond (decide (s2>0))
  (.ite (0≤aI .i64 (s2-1)∧aI .i64 (s2-1)<(aU.length:Int))<|
  .mat (aU[(aI .i64 (s2-1)).toNat]?) fun x1=>
  .cond (decide (x1=0))
   (.ret (.inl (aI .i64 (s2-1))))
   (.ret (.inr s2)))
  (.ret (.inr s2))
def afZ (p0:List Int):Tre (List Int):=
 .mat (aO (vU p0) (p0.length:Int)) fun l2=>
 .ite (0≤(0:Int)∧(0:Int)≤l2∧l2≤(p0.length:Int))<|
 let v3:=(p0.drop 0).take (l2-0).toNat
 .mat (fT v3) fun r4=>
 .ret r4
def EX (p0:List Int):Option (List Int):=(afZ p0).run some
-- more
theorem atw{l:List Nat}(hl2:l.length≤1000):EX (aQ l)=some (aQ (cB l)):=by
 have htl:=iP l
 have hlen:=aS l
 have hm:∀n,0<n→n≤l.length→aI .i64 ((n:Int)-1)=((n-1:Nat):Int):=fun n h1 h2=>gQ h1 (by omega)
 have hx:∀n,0<n→n≤l.length→(aQ l)[n-1]?=some (cf l (n-1):Int):=fun n h1 h2=>dL (eO (by omega))
 unfold EX afZ
 rw [ah (show aO (vU (aQ l)) ((aQ l).length:Int)=some (((cB l).length:Nat):Int) from ?_)]
 ·rw [Tre.run_ite,if_pos (by omega)]
  dsimp only
  rw [show ((((cB l).length:Nat):Int)-0).toNat=(cB l).length by omega,List.drop_zero,←XC,aef,ah (show fT (aQ (cB l))=some _ from FH (by rw [aS];omega)),Tre.aF]
 have h0:((aQ l).length:Int)=((l.length-0:Nat):Int):=by rw [hlen];omega
 rw [h0]
 refine dh (fun i=>((l.length-i:Nat):Int)) (l.length-(cB l).length) _ (fun i hi=>?_) ?_
 ·unfold vU
  rw [Tre.aA,decide_eq_true (by omega),cond_true,hm _ (by omega) (by omega),dN (hx _ (by omega) (by omega)),Tre.aA,decide_eq_true (by rw [Ct (by omega)];rfl),cond_true,Tre.aF,Nat.sub_sub]
 ·rw [show l.length-(l.length-(cB l).length)=(cB l).length by omega]
  unfold vU
  by_cases hz:(cB l).length=0
  ·rw [Tre.aA,decide_eq_false (by omega),cond_false,Tre.aF]
  ·have h1:=(PE l).resolve_left hz
   rw [Tre.aA,decide_eq_true (by omega),cond_true,hm _ (by omega) htl,dN (hx _ (by omega) htl),Tre.aA,decide_eq_false (by omega),cond_false,Tre.aF]
def Mq:Env:=⟨tau,[(108,Db)],[]⟩
def ahl:Code:=(Tryz.f126.body).getD .skip
def SX (eH:Bool) (aU:List Int):Int→St:=fun x=>bP [(0,(.imm eH .il aU)),(3,(.i x))] []
def O7 (eH:Bool) (aU:List Int):Int→Ex×St:=fun x=>(.exit 0,bP [(0,(.imm eH .il aU)),(3,(.i x))] [])
def alR (s:St):Tre (Ex×St):=
 aZ .il (s.tmps 0) fun z3 d2=>
 ay true .n (s.tmps 3) fun d5=>
 .mat (aO (vU d2) d5) fun x=>.ret (O7 z3 d2 x)
def Bj:bq:=⟨([0,3],[]),([0,3],[]),alR⟩
def WZ:List (Nat×bq):=[(2,Bj)]
theorem adK:∀(eH:Bool)(aU:List Int)(x:Int)(c:St→Option (Ex×St)),den Mq WZ (aT ahl 0) (SX eH aU x) (bR Bj.kp Bj.kx c)=(vU aU x).run (bS (SX eH aU) (O7 eH aU) c):=fun _ _ _ _=>by
 kernel_rfl
theorem aiM:bQ Mq WZ (aT ahl 0) Bj:=bX fun _ _ _=>bY fun _ _=>aJ fun _=>fun h e4 e1=>bO (adK _ _) h (by subst_vars;exact aP rfl rfl ⟨e1,e4,trivial⟩ trivial)
def atd:FnI:=fnI Tryz.f126 WZ
def Zt (_:Bool) (_:List Int):(List Int)→au:=fun r=>⟨(.ref (1,0) []),[],[⟨false,.il,.own,r⟩]⟩
theorem aqc:∀(zp0:Bool)(p0:List Int),bJ Mq atd ⟨[(.imm zp0 .il p0)],[]⟩=(afZ p0).run fun r=>some (Zt zp0 p0 r):=fun _ _=>by kernel_rfl
def atc (av:List AV) (rs:List Root):Tre au:=
 aC av fun a0_ av0=>
 aM av0<|
 aM rs<|
 aZ .il a0_ fun z2 d1=>
 .mat (EX d1) fun r=>.ret (Zt z2 d1 r)
def W9:Ctr:=dD [] atc
theorem adL:Contract Tryz.prog .none 126 W9:=aD (V:=Mq) aW (ak EP aeD aH) Tryz.func126 (bF (n:=1) fun k hk=>by
 match k,hk with
 |0,_=>exact bH (id:=2) aiM) fun _ _ _=>aK fun _ _=>bf<|bf<|bY fun _ _=>fun h=>by intros;subst_vars;exact bn (aqc _ _) h
def fC:((List Int) ⊕ (Nat×Nat×(List Int)))→Tre (((List Int) ⊕ (Nat×Nat×(List Int))) ⊕ ((List Int) ⊕ (Nat×Nat×(List Int))))
 |.inl s1=>
  .cond (decide ((s1.length:Int)>0))
   (let v1:=aI .i64 ((s1.length:Int)-1)
   .ite (0≤v1∧v1<(s1.length:Int))<|
   .mat (s1[v1.toNat]?) fun x2=>
   .cond (decide (x2=0))
    (.ite (0≤(0:Int)∧(0:Int)≤v1∧v1≤(s1.length:Int))<|
    .ret (.inl (.inr (0,(v1-0).toNat,s1))))
    (.ret (.inr (.inl s1))))
   (.ret (.inr (.inl s1)))
 |.inr s1=>
  .cond (decide ((s1.2.1:Int)>0))
   (let v3:=aI .i64 ((s1.2.1:Int)-1)
   .ite (0≤v3∧v3<(s1.2.1:Int))<|
   .mat (s1.2.2[s1.1+v3.toNat]?) fun x4=>
   .cond (decide (x4=0))
    (.ite (0≤(0:Int)∧(0:Int)≤v3∧v3≤(s1.2.1:Int))<|
    .ret (.inl (.inr (s1.1+0,(v3-0).toNat,s1.2.2))))
    (.ret (.inr (.inr (s1.1,s1.2.1,s1.2.2)))))
   (.ret (.inr (.inr (s1.1,s1.2.1,s1.2.2))))
def Vx (p0:List Int):Tre ((List Int) ⊕ (Nat×Nat×(List Int))):=
 .mat (aO fC (.inl p0)) fun l5=>
 .alt l5
  (fun a6=>
   .ret (.inl a6))
  (fun b7=>
   .ret (.inr (b7.1,b7.2.1,b7.2.2)))
def sw (p0:List Int):Option ((List Int) ⊕ (Nat×Nat×(List Int))):=(Vx p0).run some
-- more
def aFl:(List Int) ⊕ (Nat×Nat×(List Int))→List Int
 |.inl a=>a
 |.inr b=>(b.2.2.drop b.1).take b.2.1
def st4(l:List Nat)(n:Nat):(List Int) ⊕ (Nat×Nat×(List Int)):=if n=l.length then .inl (aQ l) else .inr (0,n,aQ l)
theorem afa{l:List Nat}(hl2:l.length≤1000):∃r,sw (aQ l)=some r∧aFl r=aQ (cB l):=by
 have htl:=iP l
 have hlen:=aS l
 have hx:∀n,0<n→n≤l.length→(aQ l)[n-1]?=some (cf l (n-1):Int):=fun n h1 h2=>dL (eO (by omega))
 have hstep:∀n,0<n→n≤l.length→cf l (n-1)=0→(fC (if n=l.length then .inl (aQ l) else .inr (0,n,aQ l))).run some=some (.inl (.inr (0,n-1,aQ l))):=by
  intro n h1 h2 h0
  by_cases hn:n=l.length
  ·have hm:aI .i64 (((aQ l).length:Int)-1)=((n-1:Nat):Int):=by rw [hlen,←hn,gQ (by omega) (by omega)]
   rw [if_pos hn]
   unfold fC
   dsimp only
   rw [Tre.aA,decide_eq_true (by omega),cond_true,hm,dN (hx n h1 h2),Tre.aA,decide_eq_true (by omega),cond_true,Tre.run_ite,if_pos (by omega),Tre.aF]
   rw [show (((n-1:Nat):Int)-0).toNat=n-1 by omega]
  ·have hm:aI .i64 ((n:Int)-1)=((n-1:Nat):Int):=gQ (by omega) (by omega)
   rw [if_neg hn]
   unfold fC
   dsimp only
   rw [Tre.aA,decide_eq_true (by omega),cond_true,hm,Tre.run_ite,if_pos (by omega),Int.toNat_natCast,Nat.zero_add,ah (hx n h1 h2),Tre.aA,decide_eq_true (by omega),cond_true,Tre.run_ite,if_pos (by omega),Tre.aF]
   rw [show (((n-1:Nat):Int)-0).toNat=n-1 by omega]
 have hend:∀n,n≤l.length→(n=0∨cf l (n-1)≠0)→∃r,(fC (if n=l.length then .inl (aQ l) else .inr (0,n,aQ l))).run some=some (.inr r)∧r=if n=l.length then .inl (aQ l) else .inr (0,n,aQ l):=by
  intro n h2 h0
  refine ⟨_,?_,rfl⟩
  by_cases hn:n=l.length
  ·have hm:0<n→aI .i64 (((aQ l).length:Int)-1)=((n-1:Nat):Int):=fun h1=>by rw [hlen,←hn,gQ (by omega) (by omega)]
   rw [if_pos hn]
   unfold fC
   dsimp only
   by_cases h1:n=0
   ·rw [Tre.aA,decide_eq_false (by omega),cond_false,Tre.aF]
   ·have h0:=h0.resolve_left h1
    rw [Tre.aA,decide_eq_true (by omega),cond_true,hm (by omega),dN (hx n (by omega) h2),Tre.aA,decide_eq_false (by omega),cond_false,Tre.aF]
  ·rw [if_neg hn]
   unfold fC
   dsimp only
   by_cases h1:n=0
   ·rw [Tre.aA,decide_eq_false (by omega),cond_false,Tre.aF]
   ·have hm:aI .i64 ((n:Int)-1)=((n-1:Nat):Int):=gQ (by omega) (by omega)
    have h0:=h0.resolve_left h1
    rw [Tre.aA,decide_eq_true (by omega),cond_true,hm,Tre.run_ite,if_pos (by omega),Int.toNat_natCast,Nat.zero_add,ah (hx n (by omega) h2),Tre.aA,decide_eq_false (by omega),cond_false,Tre.aF]
 obtain ⟨r,hr1,hr2⟩:=hend (cB l).length htl (PE l)
 refine ⟨r,?_,?_⟩
 ·unfold sw Vx
  have hl:aO fC (.inl (aQ l))=some r:=by
   have h0:(.inl (aQ l):(List Int) ⊕ (Nat×Nat×(List Int)))=st4 l (l.length-0):=by simp [st4]
   rw [h0]
   refine dh (fun i=>st4 l (l.length-i)) (l.length-(cB l).length) _ (fun i hi=>?_) ?_
   ·unfold st4
    rw [hstep (l.length-i) (by omega) (by omega) (Ct (by omega))]
    rw [if_neg (show ¬l.length-(i+1)=l.length by omega),Nat.sub_sub]
   ·rw [show l.length-(l.length-(cB l).length)=(cB l).length by omega];exact hr1
  rw [ah hl]
  cases r<;>rfl
 ·rw [hr2]
  split
  ·rename_i h
   show aQ l=_
   have:=aef l
   rw [h,List.take_length] at this
   rw [←this]
  ·show ((aQ l).drop 0).take (cB l).length=_
   rw [List.drop_zero,←XC,aef]
def DI:Env:=⟨tau,[],[]⟩
def Y0:Code:=(Tryz.f48.body).getD .skip
def tO:((List Int) ⊕ (Nat×Nat×(List Int)))→St
 |.inl x=>bP [(0,(.ref (0,0) []))] [((0,0),some ⟨false,.il,.own,x⟩)]
 |.inr x=>bP [(0,(.slc (0,0) [] x.1 x.2.1))] [((0,0),some ⟨false,.il,.own,x.2.2⟩)]
def iH:((List Int) ⊕ (Nat×Nat×(List Int)))→Ex×St
 |.inl x=>(.exit 0,bP [(0,(.ref (0,0) []))] [((0,0),some ⟨false,.il,.own,x⟩)])
 |.inr x=>(.exit 0,bP [(0,(.slc (0,0) [] x.1 x.2.1))] [((0,0),some ⟨false,.il,.own,x.2.2⟩)])
def Oy (s:St):Tre (Ex×St):=
 cond (AV.isRef (s.tmps 0))
 (dI (0,0) [] (s.tmps 0)<|
 bg false .il (s.roots (0,0)) fun m3 d4=>
 asM .own m3<|
 .mat (aO fC (.inl d4)) fun x=>.alt x (fun a0=>.ret (iH (.inl a0))) (fun b0=>.ret (iH (.inr b0))))
 (ayC (0,0) [] (s.tmps 0) fun i2 n3=>
 bg false .il (s.roots (0,0)) fun m5 d6=>
 asM .own m5<|
 .mat (aO fC (.inr (i2,n3,d6))) fun x=>.alt x (fun a0=>.ret (iH (.inl a0))) (fun b0=>.ret (iH (.inr b0))))
def pU:bq:=⟨([0],[(0,0)]),([0],[(0,0)]),Oy⟩
def M7:List (Nat×bq):=[(1,pU)]
theorem Gi:∀(x:((List Int) ⊕ (Nat×Nat×(List Int))))(c:St→Option (Ex×St)),den DI M7 (aT Y0 0) (tO x) (bR pU.kp pU.kx c)=(fC x).run (bS (tO) (iH) c):=fun x _=>by
 rcases x with x|x<;>kernel_rfl
theorem acn:bQ DI M7 (aT Y0 0) pU:=fK fun s e s' h=>by
 generalize hs:restrict pU.kp s=s1 at h
 have h:(Oy s1).run some=some (e,s'):=h
 cases ht0:AV.isRef (s1.tmps 0) with
 |true=>
  have h:=aAy ht0 h
  obtain ⟨e1,h_0⟩:=PU h
  obtain ⟨m3,d4,e2,h_1⟩:=fQ h_0
  obtain ⟨rfl,h_2⟩:=rO h_1
  obtain ⟨y,hy,hz⟩:=gN h_2
  refine ⟨_,_,tO,iH,fC,(.inl d4),y,?_,hy,?_,Gi⟩
  ·subst hs;exact aP (T:=[(0,(.ref (0,0) []))]) (U:=[((0,0),some ⟨false,.il,.own,d4⟩)]) rfl rfl ⟨e1,trivial⟩ ⟨e2,trivial⟩
  ·rcases y with x|x<;>exact Option.some.inj hz
 |false=>
  have h:=ayn ht0 h
  obtain ⟨i2,n3,e1,h_0⟩:=atQ h
  obtain ⟨m5,d6,e4,h_1⟩:=fQ h_0
  obtain ⟨rfl,h_2⟩:=rO h_1
  obtain ⟨y,hy,hz⟩:=gN h_2
  refine ⟨_,_,tO,iH,fC,(.inr (i2,n3,d6)),y,?_,hy,?_,Gi⟩
  ·subst hs;exact aP (T:=[(0,(.slc (0,0) [] i2 n3))]) (U:=[((0,0),some ⟨false,.il,.own,d6⟩)]) rfl rfl ⟨e1,trivial⟩ ⟨e4,trivial⟩
  ·rcases y with x|x<;>exact Option.some.inj hz
def amM:FnI:=fnI Tryz.f48 M7
def FE (_:List Int):((List Int) ⊕ (Nat×Nat×(List Int)))→au
 |.inl r=>⟨(.ref (0,0) []),[⟨false,.il,.own,r⟩],[]⟩
 |.inr r=>⟨(.slc (0,0) [] r.1 r.2.1),[⟨false,.il,.own,r.2.2⟩],[]⟩
theorem aku:∀(p0:List Int),bJ DI amM ⟨[(.ref (0,0) [])],[⟨false,.il,.own,p0⟩]⟩=(Vx p0).run fun r=>some (FE p0 r):=fun _=>by kernel_rfl
def amL (av:List AV) (rs:List Root):Tre au:=
 aC av fun a0_ av0=>
 aM av0<|
 aC rs fun r0_ rs0=>
 aM rs0<|
 dI (0,0) [] a0_<|
 wV false .il r0_ fun m1 d2=>
 asM .own m1<|
 .mat (sw d2) fun r=>.alt r (fun a0=>.ret (FE d2 (.inl a0))) (fun b0=>.ret (FE d2 (.inr b0)))
def DJ:Ctr:=dD [0] amL
theorem Jq:Contract Tryz.prog .none 48 DJ:=aD (V:=DI) aW aH Tryz.func48 (bF (n:=1) fun k hk=>by
 match k,hk with
 |0,_=>exact bH (id:=1) acn) fun _ _ _=>aK fun _ _=>bf<|aK fun _ _=>bf<|fI<|tRt fun _ _=>tM<|fun h=>by intros;subst_vars;exact ajT (aku _) h (by rintro (x|x)<;>rfl)
end Go.Proofs.YtihiobjhogpmdaaGreat
