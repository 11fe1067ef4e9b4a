/- Part 4 of the proof of FnExactDecodeErased. -/
import Derived.Test.YtihiobjhogpmdaaGreatDe3
set_option maxRecDepth 100000
noncomputable section
namespace Go.Proofs.YtihiobjhogpmdaaGreat
open Go Go.Abs Go.Proofs
def aga (aS:List Int) (bK:Int) (bM:aT):Int→Tre (Int ⊕ (Int ⊕ Unit)):=fun s2=>
 .cond (decide (s2<bK))
  (.ite (0≤s2∧s2<(aS.length:Int))<|
  .mat (aS[s2.toNat]?) fun x1=>
  .mat (lV x1 bM) fun r2=>
  .cond r2
   (.ret (.inr (.inl s2)))
   (.ret (.inl (aJ .i64 (s2+1)))))
  (.ret (.inr (.inr ())))
def nm6 (p0:List Int) (p1:aT):Tre Int:=
 .mat (aL (aga p0 (p0.length:Int) p1) 0) fun l3=>
 .alt l3
  (fun a4=>
   .ret a4)
  (fun _=>
   .ret (-1))
def axP (p0:List Int) (p1:aT):Option Int:=(nm6 p0 p1).run some
def axQ:Env:=⟨tau,[(131,AP)],[]⟩
def aEk:Code:=(Tryz.f99.body).getD .skip
def agb (eF:Bool) (X7:Bool) (aS:List Int) (bK:Int) (bM:aT):Int→St:=fun x=>bO [(0,(.imm eF .il aS)),(1,(.fn 131 [(0,0)])),(7,(.i bK)),(8,(.i x))] [((0,0),some ⟨true,bC,(.imm X7),bM⟩)]
def RD (_:Bool) (X7:Bool) (_:List Int) (_:Int) (bM:aT):(Int ⊕ Unit)→Ex×St
 |.inl x=>(.ret,bO [(4,(.i x))] [((0,0),some ⟨true,bC,(.imm X7),bM⟩)])
 |.inr _=>(.exit 0,bO [(4,.dead)] [((0,0),some ⟨true,bC,(.imm X7),bM⟩)])
def atN (s:St):Tre (Ex×St):=
 bg .il (s.tmps 0) fun z3 d2=>
 Ua 131 [(0,0)] (s.tmps 1)<|
 ay true .n (s.tmps 7) fun d6=>
 ay true .n (s.tmps 8) fun d8=>
 aZ true bC (s.roots (0,0)) fun m10 d11=>
 kr m10 fun z12=>
 .mat (aL (aga d2 d6 d11) d8) fun x=>.alt x (fun a0=>.ret (RD z3 z12 d2 d6 d11 (.inl a0))) (fun b0=>.ret (RD z3 z12 d2 d6 d11 (.inr b0)))
def WO:bA:=⟨([0,1,7,8],[(0,0)]),([4],[(0,0)]),atN⟩
def aBp:List (Nat×bA):=[(2,WO)]
theorem atO:∀(eF X7:Bool)(aS:List Int)(bK:Int)(bM:aT)(x:Int)(c:St→Option (Ex×St)),den axQ aBp (aR aEk 0) (agb eF X7 aS bK bM x) (bR WO.kp WO.kx c)=(aga aS bK bM x).run (bS (agb eF X7 aS bK bM) (RD eF X7 aS bK bM) c):=fun _ _ _ _ _ _ _=>by
 kernel_rfl
theorem azf:bP axQ aBp (aR aEk 0) WO:=fP fun s e s' h=>by
 generalize hs:restrict WO.kp s=s1 at h
 have h:(atN s1).run some=some (e,s'):=h
 obtain ⟨z3,d2,e1,h_0⟩:=fG h
 obtain ⟨e4,h_1⟩:=CJ h_0
 obtain ⟨d6,e5,h_2⟩:=cu h_1
 obtain ⟨d8,e7,h_3⟩:=cu h_2
 obtain ⟨m10,d11,e9,h_4⟩:=gQ h_3
 obtain ⟨z12,rfl,h_5⟩:=KX h_4
 obtain ⟨y,hy,hz⟩:=iE h_5
 refine ⟨_,_,agb z3 z12 d2 d6 d11,RD z3 z12 d2 d6 d11,aga d2 d6 d11,d8,y,?_,hy,?_,atO z3 z12 d2 d6 d11⟩
 ·subst hs;exact aM (T:=[(0,(.imm z3 .il d2)),(1,(.fn 131 [(0,0)])),(7,(.i d6)),(8,(.i d8))]) (U:=[((0,0),some ⟨true,bC,(.imm z12),d11⟩)]) rfl rfl ⟨e1,e4,e5,e7,trivial⟩ ⟨e9,trivial⟩
 ·rcases y with x|x<;>exact Option.some.inj hz
def aG9:FnI:=fnI Tryz.f99 aBp
def axR (_:Bool) (zp1:Bool) (_:List Int) (p1:aT):Int→au:=fun r=>⟨(.i r),[⟨true,bC,(.imm zp1),p1⟩],[]⟩
theorem aFs:∀(zp0 zp1:Bool)(p0:List Int)(p1:aT),bL axQ aG9 ⟨[(.imm zp0 .il p0),(.fn 131 [(0,0)])],[⟨true,bC,(.imm zp1),p1⟩]⟩=(nm6 p0 p1).run fun r=>some (axR zp0 zp1 p0 p1 r):=fun _ _ _ _=>by kernel_rfl
def aG8 (av:List AV) (rs:List Root):Tre au:=
 aD av fun a0_ av0=>
 aD av0 fun a1_ av1=>
 aN av1<|
 aD rs fun r0_ rs0=>
 aN rs0<|
 bg .il a0_ fun z2 d1=>
 Ua 131 [(0,0)] a1_<|
 wQ true bC r0_ fun m3 d4=>
 kr m3 fun z5=>
 .mat (axP d1 d4) fun r=>.ret (axR z2 z5 d1 d4 r)
def aEl:Ctr:=dD [] aG8
theorem aFt:Contract Tryz.prog .none 99 aEl:=aB (V:=axQ) aV (ak OJ aEY aI) Tryz.func99 (bD (n:=1) fun k hk=>by
 match k,hk with
 |0,_=>exact bF (id:=2) azf) fun _ _ _=>aK fun _ _=>aK fun _ _=>bn<|aK fun _ _=>bn<|bZ fun _ _=>tFn<|tRt fun _ _=>zU fun _=>fun h=>by intros;subst_vars;exact bB (aFs _ _ _ _) h
def nm1 (p0:List Int) (p1:aT):Tre Bool:=
 .mat (axP p0 p1) fun r1=>
 .ret (decide (r1 ≥ 0))
def axC (p0:List Int) (p1:aT):Option Bool:=(nm1 p0 p1).run some
def aEa:Env:=⟨tau,[(99,aEl)],[]⟩
def aGZ:FnI:=fnI Tryz.f93 []
def axD (_:Bool) (zp1:Bool) (_:List Int) (p1:aT):Bool→au:=fun r=>⟨(.imm true .bool r),[⟨true,bC,(.imm zp1),p1⟩],[]⟩
theorem aFh:∀(zp0 zp1:Bool)(p0:List Int)(p1:aT),bL aEa aGZ ⟨[(.imm zp0 .il p0),(.fn 131 [(0,0)])],[⟨true,bC,(.imm zp1),p1⟩]⟩=(nm1 p0 p1).run fun r=>some (axD zp0 zp1 p0 p1 r):=fun _ _ _ _=>by kernel_rfl
def aGY (av:List AV) (rs:List Root):Tre au:=
 aD av fun a0_ av0=>
 aD av0 fun a1_ av1=>
 aN av1<|
 aD rs fun r0_ rs0=>
 aN rs0<|
 bg .il a0_ fun z2 d1=>
 Ua 131 [(0,0)] a1_<|
 wQ true bC r0_ fun m3 d4=>
 kr m3 fun z5=>
 .mat (axC d1 d4) fun r=>.ret (axD z2 z5 d1 d4 r)
def aEb:Ctr:=dD [] aGY
theorem aFi:Contract Tryz.prog .none 93 aEb:=aB (V:=aEa) aV (ak aFt axg aI) Tryz.func93 bN fun _ _ _=>aK fun _ _=>aK fun _ _=>bn<|aK fun _ _=>bn<|bZ fun _ _=>tFn<|tRt fun _ _=>zU fun _=>fun h=>by intros;subst_vars;exact bB (aFh _ _ _ _) h
-- shared
theorem avF{b:Nat}{xs:List Int}(hb:b≤62)(h:Dr b xs=true):kK (xs.map Int.toNat) (ech (xs.map Int.toNat)):=by
 obtain ⟨ns,rfl,hlen,hn,he⟩:=agj h
 obtain ⟨E,_,h2⟩:=Mr b hb ns b 0 [] ns (by omega) (Inv.start ns) (Nat.zero_le _) hlen hn (fun a ha=>by cases ha)
 rw [he,apY h2];exact h2
theorem asv(xs:List Int):(NW xs).length=(ech (xs.map Int.toNat)).length:=by unfold NW;rw [mo]
theorem am7:∀(l:List (Nat×Nat))(lo b:Nat),(l.Pairwise fun a b=>a.1<b.1)→(∀a∈l,lo≤a.1∧a.1<b)→l.length≤b-lo:=by
 intro l
 induction l with
 |nil=>intro lo b _ _;exact Nat.zero_le _
 |cons a l ih=>
  intro lo b h hb
  obtain ⟨h1,h2⟩:=List.pairwise_cons.1 h
  have:=ih (a.1+1) b h2 fun x hx=>⟨h1 x hx,(hb x (.tail _ hx)).2⟩
  have h0:=hb a (.head _)
  simp only [List.length_cons]
  omega
-- shared
def aqT(m:Int×List Int×Unit):Bool:=inR m.1 1 10&&(decide (m.2.1.length≤10)&&m.2.1.all (inP m.1))
def ajJ (m:Int×List Int×Unit):Bool:=aqT m&&decide (NW m.2.1=m.2.1)
theorem aqU{m:Int×List Int×Unit}(h:aqT m=true):∃(c:Nat) (ns:List Nat),m=((c:Int),up ns,())∧1≤c∧c≤10∧ns.length≤10∧∀n∈ns,n<2 ^ c:=by
 obtain ⟨a,xs,_⟩:=m
 simp only [aqT,Bool.and_eq_true,gX,decide_eq_true_eq,List.all_eq_true] at h
 obtain ⟨⟨h1,h2⟩,h3,h4⟩:=h
 obtain ⟨c,rfl⟩:=Int.eq_ofNat_of_zero_le (show 0≤a by omega)
 have hc:c≤62:=by omega
 refine ⟨c,xs.map Int.toNat,?_,by omega,by omega,by simpa using h3,fun n hn=>?_⟩
 ·have:up (xs.map Int.toNat)=xs:=by
   unfold up
   rw [List.map_map]
   refine (List.map_congr_left fun x hx=>?_).trans (List.map_id xs)
   obtain ⟨n,rfl,_⟩:=axo hc (h4 x hx)
   simp
  rw [this]
 ·obtain ⟨x,hx,rfl⟩:=List.mem_map.1 hn
  obtain ⟨k,rfl,hk⟩:=axo hc (h4 x hx)
  simpa using hk
theorem Yo{c b:Nat}{ns:List Nat}(hc:c≤b)(hl:ns.length≤1048576)(hn:∀n∈ns,n<2 ^ c):Dr b (up ns)=true:=
 Pe hl fun n h=>Nat.lt_of_lt_of_le (hn n h) (aqW hc)
theorem ax9{m:Int×List Int×Unit}(h:ajJ m=true):∃(c:Nat) (ns:List Nat),m=((c:Int),up ns,())∧1≤c∧c≤10∧ns.length≤10∧(∀n∈ns,n<2 ^ c)∧kK ns ns:=by
 unfold ajJ at h
 rw [Bool.and_eq_true] at h
 obtain ⟨c,ns,rfl,h1,h2,h3,h4⟩:=aqU h.1
 refine ⟨c,ns,rfl,h1,h2,h3,h4,?_⟩
 have he:=of_decide_eq_true h.2
 have hi:=avF (b:=62) (by omega) (Yo (b:=62) (by omega) (by omega) h4)
 rw [up_toNat] at hi
 unfold NW at he
 rw [up_toNat] at he
 have:ech ns=ns:=by
  have:=congrArg (List.map Int.toNat) he
  rwa [up_toNat,up_toNat] at this
 rw [this] at hi
 exact hi
theorem Wm{k:Nat}(h:k≤10):F7 .i64 1 (k:Int)=((2 ^ k:Nat):Int):=by
 have:∀k:Nat,k<11→F7 .i64 1 (k:Int)=((2 ^ k:Nat):Int):=by decide
 exact this k (by omega)
def Ni (p0:aT):Tre Bool:=
 .cond (inR p0.1 1 10)
  (.cond (decide ((p0.2.1.length:Int)≤10))
   (.mat (axC p0.2.1 p0) fun r1=>
   .ret (!r1))
   (.ret false))
  (.ret false)
def yg (p0:aT):Option Bool:=(Ni p0).run some
-- more
theorem aiC(m:Int×List Int×Unit)(x:Int)(h:0≤m.1):Av m x=some (inP m.1 x):=by
 unfold Av Q5
 rw [Tre.run_ite,if_pos h]
 rfl
theorem OI(m:Int×List Int×Unit)(x:Int)(h:0≤m.1):lV x m=some (!inP m.1 x):=by
 unfold lV uN
 rw [ah (aiC m x h)]
 rfl
theorem acS(xs:List Int)(m:Int×List Int×Unit)(h:0≤m.1)(hl:xs.length≤1048576):axP xs m=some (nI (fun x=>!inP m.1 x) 0 xs):=by
 unfold axP nm6
 rw [Tre.jl,vF (xs:=xs) (fun i x=>cond (!inP m.1 x) (some (.inl (i:Int))) none) (.inr ())]
 ·rw [Option.bind_some,←NZ (p:=fun x=>!inP m.1 x)]
  generalize Gq _ _ _ _=r
  cases r<;>rfl
 ·intro i x hx
  have hi:i<xs.length:=(List.getElem?_eq_some_iff.1 hx).1
  unfold aga
  rw [dW hx,ah (OI m x h),Tre.aA]
  cases inP m.1 x
  ·rfl
  ·simp only [Bool.not_true,cond_false,Tre.aG,aQ (show i<4611686018427387904 by omega)]
 ·unfold aga
  exact dB
theorem acR(xs:List Int)(m:Int×List Int×Unit)(h:0≤m.1)(hl:xs.length≤1048576):axC xs m=some (xs.any fun x=>!inP m.1 x):=by
 unfold axC nm1
 rw [ah (acS xs m h hl),Tre.aG,as9]
theorem afH(m:Int×List Int×Unit)(hl:m.2.1.length≤1048576):yg m=some (aqT m):=by
 unfold yg Ni aqT
 rw [Tre.aA]
 cases h1:inR m.1 1 10
 ·rfl
 rw [cond_true,Tre.aA,Bool.true_and]
 rw [gX] at h1
 by_cases h2:(m.2.1.length:Int)≤10
 ·rw [decide_eq_true h2,cond_true,ah (acR m.2.1 m (by omega) hl),Tre.aG,decide_eq_true (show m.2.1.length≤10 by omega),Bool.true_and,List.not_any_eq_all_not]
  simp only [Bool.not_not]
 ·rw [decide_eq_false h2,decide_eq_false (show ¬m.2.1.length≤10 by omega)];rfl
def SQ:Env:=⟨tau,[(92,yS),(93,aEb)],[]⟩
def aiH:FnI:=fnI Tryz.f109 []
def LB (_:Bool) (_:aT):Bool→au:=fun r=>⟨(.imm true .bool r),[],[]⟩
theorem afG:∀(zp0:Bool)(p0:aT),bL SQ aiH ⟨[(.imm zp0 bC p0)],[]⟩=(Ni p0).run fun r=>some (LB zp0 p0 r):=fun _ _=>by kernel_rfl
def aiG (av:List AV) (rs:List Root):Tre au:=
 aD av fun a0_ av0=>
 aN av0<|
 aN rs<|
 bg bC a0_ fun z2 d1=>
 .mat (yg d1) fun r=>.ret (LB z2 d1 r)
def SS:Ctr:=dD [] aiG
theorem afI:Contract Tryz.prog .none 109 SS:=aB (V:=SQ) aV (ak zy aoW (ak aFi aD4 aI)) Tryz.func109 bN fun _ _ _=>aK fun _ _=>bn<|bn<|bZ fun _ _=>fun h=>by intros;subst_vars;exact bB (afG _ _) h
def zR:Tre (List Int):=
 .ret []
def KS:Option (List Int):=(zR).run some
theorem Gp:KS=some []:=rfl
def wO:Env:=⟨tau,[],[]⟩
def KU:FnI:=fnI Tryz.f65 []
def uq:(List Int)→au:=fun r=>⟨(.ref (1,0) []),[],[⟨false,.il,.own,r⟩]⟩
theorem Ku:bL wO KU ⟨[.nil],[]⟩=(zR).run fun r=>some (uq r):=by kernel_rfl
def KT (av:List AV) (rs:List Root):Tre au:=
 aD av fun a0_ av0=>
 aN av0<|
 aN rs<|
 aw7 a0_<|
 .ret (uq [])
def KV:Ctr:=dD [] KT
theorem Kv:Contract Tryz.prog .none 65 KV:=aB (V:=wO) aV aI Tryz.func65 bN fun _ _ _=>aK fun _ _=>bn<|bn<|aHm<|fun h=>by intros;subst_vars;exact sW Ku Gp h
def qz (p0:List Int):Tre (List Int):=
 .ite ((0+p0.length)*8≤bI∧1≤8)<|
 .ret ([]++p0)
def wM (p0:List Int):Option (List Int):=(qz p0).run some
theorem Gn(p0 y:List Int)(h:fQ p0=some y):wM p0=some y:=by
 obtain ⟨hl,rfl⟩:=Pb h
 have hb:(0+p0.length)*8≤bI∧1≤8:=by unfold bI;omega
 unfold wM qz
 rw [Tre.run_ite,if_pos hb]
 rfl
def wN:Env:=⟨tau,[],[]⟩
def KQ:FnI:=fnI Tryz.f65 []
def uo (_:Bool) (_:List Int):(List Int)→au:=fun r=>⟨(.ref (1,0) []),[],[⟨false,.il,.own,r⟩]⟩
theorem Kr:∀(zp0:Bool)(p0:List Int),bL wN KQ ⟨[(.nn zp0 .n p0)],[]⟩=(qz p0).run fun r=>some (uo zp0 p0 r):=fun _ _=>by kernel_rfl
def KP (av:List AV) (rs:List Root):Tre au:=
 aD av fun a0_ av0=>
 aN av0<|
 aN rs<|
 aCv .n a0_ fun z1 d2=>
 .mat (fQ d2) fun r=>.ret (uo z1 d2 r)
def KR:Ctr:=dD [] KP
theorem Kt:Contract Tryz.prog .none 65 KR:=aB (V:=wN) aV aI Tryz.func65 bN fun _ _ _=>aK fun _ _=>bn<|bn<|tNn fun _ _=>fun h=>by intros;subst_vars;exact nR (Kr _ _) (Gn _) h
theorem Sk(y:List Int)(h:fQ ([]:List Int)=some y):y=[]:=(Pb h).2.symm
def FK (av:List AV) (rs:List Root):Tre au:=
 aD av fun a0_ av0=>
 aN av0<|
 aN rs<|
 bg .il a0_ fun _ d1=>
 .mat (fQ d1) fun r=>.ret ⟨(.ref (1,0) []),[],[⟨false,.il,.own,r⟩]⟩
def kJ:Ctr:=⟨[],fun ci=>FK ci.args ci.roots,false⟩
theorem nD:Contract Tryz.prog .none 65 kJ:=by
 refine apS (e:=.n) Kv Kt ?_
 rintro ⟨av,rs⟩ co h
 have h:(FK av rs).run some=some co:=h
 obtain ⟨a0_,av0,rfl,h_0⟩:=ahd h
 obtain ⟨rfl,h_1⟩:=aas h_0
 obtain ⟨rfl,h_2⟩:=aas h_1
 obtain ⟨z2,d1,rfl,h_3⟩:=fG h_2
 refine ⟨z2,d1,rfl,?_,?_⟩
 ·exact h_3
 ·rintro rfl
  obtain ⟨y,h1,h2⟩:=ajR h_3
  have hy:y=[]:=by
   have:=Sk y h1
   exact this
  subst hy
  rw [←h2];rfl
def Df (p0:Int) (p1:Int):Tre Bool:=
 .ite (0≤p1)<|
 let v1:=Rj .i64 (OU .i64 p0 p1) 1
 .ret (decide (v1=1))
def JA (p0:Int) (p1:Int):Option Bool:=(Df p0 p1).run some
def aCx(x j:Int):Option Bool:=akg (decide (0≤j)) (nO x j)
theorem UF(p0 p1:Int)(y:Bool)(h:aCx p0 p1=some y):JA p0 p1=some y:=by
 obtain ⟨hl,rfl⟩:=rW h
 unfold JA Df
 rw [Tre.run_ite,if_pos (of_decide_eq_true hl)]
 rfl
def JB:Env:=⟨tau,[],[]⟩
def aa8:FnI:=fnI Tryz.f100 []
def E8 (_:Int) (p1:Int):Bool→au:=fun r=>⟨(.imm true .bool r),[⟨true,.n,.own,p1⟩],[]⟩
theorem YQ:∀(p0 p1:Int),bL JB aa8 ⟨[(.i p0),(.ptr (0,0) [])],[⟨true,.n,.own,p1⟩]⟩=(Df p0 p1).run fun r=>some (E8 p0 p1 r):=fun _ _=>by kernel_rfl
def aa7 (av:List AV) (rs:List Root):Tre au:=
 aD av fun a0_ av0=>
 aD av0 fun a1_ av1=>
 aN av1<|
 aD rs fun r0_ rs0=>
 aN rs0<|
 ay true .n a0_ fun d1=>
 dR (0,0) [] a1_<|
 wQ true .n r0_ fun m2 d3=>
 asM .own m2<|
 .mat (aCx d1 d3) fun r=>.ret (E8 d1 d3 r)
def JC:Ctr:=dD [] aa7
theorem YR:Contract Tryz.prog .none 100 JC:=aB (V:=JB) aV aI Tryz.func100 bN fun _ _ _=>aK fun _ _=>aK fun _ _=>bn<|aK fun _ _=>bn<|aH fun _=>gL<|tRt fun _ _=>tM<|fun h=>by intros;subst_vars;exact nR (YQ _ _) (UF _ _) h
def agf (aS:List Int) (bK:Int) (bM:Int):Int→Tre (Int ⊕ (Int ⊕ Unit)):=fun s2=>
 .cond (decide (s2<bK))
  (.ite (0≤s2∧s2<(aS.length:Int))<|
  .mat (aS[s2.toNat]?) fun x1=>
  .mat (aCx x1 bM) fun r2=>
  .cond r2
   (.ret (.inr (.inl s2)))
   (.ret (.inl (aJ .i64 (s2+1)))))
  (.ret (.inr (.inr ())))
def nm8 (p0:List Int) (p1:Int):Tre Int:=
 .mat (aL (agf p0 (p0.length:Int) p1) 0) fun l3=>
 .alt l3
  (fun a4=>
   .ret a4)
  (fun _=>
   .ret (-1))
def aEo (p0:List Int) (p1:Int):Option Int:=(nm8 p0 p1).run some
def aCI(xs:List Int)(j:Int):Option Int:=akg (decide (0≤j)&&decide (xs.length≤1048576)) (nI (fun x=>nO x j) 0 xs)
theorem aBs(p0:List Int)(p1 y:Int)(h:aCI p0 p1=some y):aEo p0 p1=some y:=by
 obtain ⟨hl,rfl⟩:=rW h
 rw [Bool.and_eq_true] at hl
 obtain ⟨hm,hl⟩:=hl
 have hl:=of_decide_eq_true hl
 unfold aEo nm8
 rw [Tre.jl,vF (xs:=p0) (fun i x=>cond (nO x p1) (some (.inl (i:Int))) none) (.inr ())]
 ·rw [Option.bind_some,←NZ (p:=fun x=>nO x p1)]
  generalize Gq _ _ _ _=r
  cases r<;>rfl
 ·intro i x hx
  have hi:i<p0.length:=(List.getElem?_eq_some_iff.1 hx).1
  unfold agf
  rw [dW hx,ah (show aCx x p1=some _ from gY hm),Tre.aA]
  cases nO x p1
  ·simp only [cond_false,Tre.aG,aQ (show i<4611686018427387904 by omega)]
  ·rfl
 ·unfold agf
  exact dB
def axV:Env:=⟨tau,[(100,JC)],[]⟩
def aEp:Code:=(Tryz.f99.body).getD .skip
def agh (eF:Bool) (aS:List Int) (bK:Int) (bM:Int):Int→St:=fun x=>bO [(0,(.imm eF .il aS)),(1,(.fn 100 [(0,0)])),(7,(.i bK)),(8,(.i x))] [((0,0),some ⟨true,.n,.own,bM⟩)]
def RH (_:Bool) (_:List Int) (_:Int) (bM:Int):(Int ⊕ Unit)→Ex×St
 |.inl x=>(.ret,bO [(4,(.i x))] [((0,0),some ⟨true,.n,.own,bM⟩)])
 |.inr _=>(.exit 0,bO [(4,.dead)] [((0,0),some ⟨true,.n,.own,bM⟩)])
def atS (s:St):Tre (Ex×St):=
 bg .il (s.tmps 0) fun z3 d2=>
 Ua 100 [(0,0)] (s.tmps 1)<|
 ay true .n (s.tmps 7) fun d6=>
 ay true .n (s.tmps 8) fun d8=>
 aZ true .n (s.roots (0,0)) fun m10 d11=>
 asM .own m10<|
 .mat (aL (agf d2 d6 d11) d8) fun x=>.alt x (fun a0=>.ret (RH z3 d2 d6 d11 (.inl a0))) (fun b0=>.ret (RH z3 d2 d6 d11 (.inr b0)))
def WR:bA:=⟨([0,1,7,8],[(0,0)]),([4],[(0,0)]),atS⟩
def aBr:List (Nat×bA):=[(2,WR)]
theorem atT:∀(eF:Bool)(aS:List Int)(bK bM x:Int)(c:St→Option (Ex×St)),den axV aBr (aR aEp 0) (agh eF aS bK bM x) (bR WR.kp WR.kx c)=(agf aS bK bM x).run (bS (agh eF aS bK bM) (RH eF aS bK bM) c):=fun _ _ _ _ _ _=>by
 kernel_rfl
theorem azh:bP axV aBr (aR aEp 0) WR:=fP fun s e s' h=>by
 generalize hs:restrict WR.kp s=s1 at h
 have h:(atS s1).run some=some (e,s'):=h
 obtain ⟨z3,d2,e1,h_0⟩:=fG h
 obtain ⟨e4,h_1⟩:=CJ h_0
 obtain ⟨d6,e5,h_2⟩:=cu h_1
 obtain ⟨d8,e7,h_3⟩:=cu h_2
 obtain ⟨m10,d11,e9,h_4⟩:=gQ h_3
 obtain ⟨rfl,h_5⟩:=uI h_4
 obtain ⟨y,hy,hz⟩:=iE h_5
 refine ⟨_,_,agh z3 d2 d6 d11,RH z3 d2 d6 d11,agf d2 d6 d11,d8,y,?_,hy,?_,atT z3 d2 d6 d11⟩
 ·subst hs;exact aM (T:=[(0,(.imm z3 .il d2)),(1,(.fn 100 [(0,0)])),(7,(.i d6)),(8,(.i d8))]) (U:=[((0,0),some ⟨true,.n,.own,d11⟩)]) rfl rfl ⟨e1,e4,e5,e7,trivial⟩ ⟨e9,trivial⟩
 ·rcases y with x|x<;>exact Option.some.inj hz
def aHd:FnI:=fnI Tryz.f99 aBr
def axW (_:Bool) (_:List Int) (p1:Int):Int→au:=fun r=>⟨(.i r),[⟨true,.n,.own,p1⟩],[]⟩
theorem aFw:∀(zp0:Bool)(p0:List Int)(p1:Int),bL axV aHd ⟨[(.imm zp0 .il p0),(.fn 100 [(0,0)])],[⟨true,.n,.own,p1⟩]⟩=(nm8 p0 p1).run fun r=>some (axW zp0 p0 p1 r):=fun _ _ _=>by kernel_rfl
def aHc (av:List AV) (rs:List Root):Tre au:=
 aD av fun a0_ av0=>
 aD av0 fun a1_ av1=>
 aN av1<|
 aD rs fun r0_ rs0=>
 aN rs0<|
 bg .il a0_ fun z2 d1=>
 Ua 100 [(0,0)] a1_<|
 wQ true .n r0_ fun m3 d4=>
 asM .own m3<|
 .mat (aCI d1 d4) fun r=>.ret (axW z2 d1 d4 r)
def aEq:Ctr:=dD [] aHc
theorem aFx:Contract Tryz.prog .none 99 aEq:=aB (V:=axV) aV (ak YR aEB aI) Tryz.func99 (bD (n:=1) fun k hk=>by
 match k,hk with
 |0,_=>exact bF (id:=2) azh) fun _ _ _=>aK fun _ _=>aK fun _ _=>bn<|aK fun _ _=>bn<|bZ fun _ _=>tFn<|tRt fun _ _=>tM<|fun h=>by intros;subst_vars;exact nR (aFw _ _ _) (aBs _ _) h
def oO (vG:Int) (K6:Int) (Ab:Int):(Int×(List Int))→Tre ((Int×(List Int)) ⊕ (List Int)):=fun s10=>
 .cond (decide (s10.1<K6))
  (.cond (!decide (s10.1=vG))
   (.ite (0≤s10.1∧s10.1<(s10.2.length:Int))<|
   .mat (s10.2[s10.1.toNat]?) fun x9=>
   .ite (0≤Ab)<|
   let v10:=Rj .i64 (OU .i64 x9 Ab) 1
   .cond (decide (v10=1))
    (.ite (0≤s10.1∧s10.1<(s10.2.length:Int))<|
    .mat (s10.2[s10.1.toNat]?) fun x11=>
    .ite (0≤vG∧vG<(s10.2.length:Int))<|
    .mat (s10.2[vG.toNat]?) fun x12=>
    .ite (0≤s10.1∧s10.1<(s10.2.length:Int))<|
    .mat (s10.2[s10.1.toNat]?) fun _=>
    let v14:=s10.2.set s10.1.toNat (iD .i64 x11 x12)
    .ret (.inl (aJ .i64 (s10.1+1),v14)))
    (.ret (.inl (aJ .i64 (s10.1+1),s10.2))))
   (.ret (.inl (aJ .i64 (s10.1+1),s10.2))))
  (.ret (.inr s10.2))
def ji:(Int×(List Int)×Int)→Tre ((Int×(List Int)×Int) ⊕ (Int×(List Int))):=fun s4=>
 .cond (decide (s4.2.2<62))
  (.cond (decide (s4.1<(s4.2.1.length:Int)))
   (.ite (0≤s4.1∧s4.1≤(s4.2.1.length:Int)∧(s4.2.1.length:Int)≤(s4.2.1.length:Int))<|
   .mat (aCI ((s4.2.1.drop s4.1.toNat).take (((s4.2.1.length:Int)-s4.1).toNat)) s4.2.2) fun r2=>
   .cond (decide (r2<0))
    (.ret (.inl (s4.1,s4.2.1,aJ .i64 (s4.2.2+1))))
    (.ite (0≤aJ .i64 (s4.1+r2)∧aJ .i64 (s4.1+r2)<(s4.2.1.length:Int))<|
    .mat (s4.2.1[(aJ .i64 (s4.1+r2)).toNat]?) fun x3=>
    .ite (0≤s4.1∧s4.1<(s4.2.1.length:Int))<|
    .mat (s4.2.1[s4.1.toNat]?) fun x4=>
    .ite (0≤s4.1∧s4.1<(s4.2.1.length:Int))<|
    .mat (s4.2.1[s4.1.toNat]?) fun _=>
    let v6:=s4.2.1.set s4.1.toNat x3
    .ite (0≤aJ .i64 (s4.1+r2)∧aJ .i64 (s4.1+r2)<(v6.length:Int))<|
    .mat (v6[(aJ .i64 (s4.1+r2)).toNat]?) fun _=>
    let v8:=v6.set ((aJ .i64 (s4.1+r2)).toNat) x4
    .mat (aL (oO s4.1 (v8.length:Int) s4.2.2) (0,v8)) fun l15=>
    .ret (.inl (aJ .i64 (s4.1+1),l15,aJ .i64 (s4.2.2+1)))))
   (.ret (.inr (s4.1,s4.2.1))))
  (.ret (.inr (s4.1,s4.2.1)))
def afL (p0:List Int):Tre (List Int):=
 .mat (fQ p0) fun r1=>
 .mat (aL ji (0,r1,0)) fun l16=>
 .ite (0≤(0:Int)∧(0:Int)≤l16.1∧l16.1≤(l16.2.length:Int))<|
 .ret ((l16.2.drop 0).take ((l16.1-0).toNat))
def ahp (p0:List Int):Option (List Int):=(afL p0).run some
def acn (xs:List Int):Option (List Int):=akg (Dr 62 xs) (NW xs)
theorem akV(k c r:Nat)(hc:c≤62)(hr:r<2 ^ 62)(A B:List Nat)(hk:A.length=k)(hb:∀n∈A++r::B,n<2 ^ 62)(hl:(A++r::B).length≤1048576) :
  aL (oO (k:Int) ((A++r::B).length:Int) (c:Int)) (0,up (A++r::B))=some (up (A.map (gU c r)++r::B.map (gU c r))):=by
 have hkr:(A++r::B)[k]?=some r:=by rw [List.getElem?_append_right (by omega),hk];simp
 generalize hL:A++r::B=l at *
 have:=apq (step:=oO (k:Int) (l.length:Int) (c:Int)) (fun i x=>if i=k then x else gU c r x) l id (by
  intro i x hx
  have hi:i<l.length:=(List.getElem?_eq_some_iff.1 hx).1
  have hx2:=X5 (ajT (g:=fun i x=>if i=k then x else gU c r x) (i:=i) hx)
  rw [if_neg (Nat.lt_irrefl i)] at hx2
  have hr2:=X5 (ajT (g:=fun i x=>if i=k then x else gU c r x) (i:=i) hkr)
  simp only [if_true,ite_self] at hr2
  have hxb:=hb x (List.mem_of_getElem? hx)
  rw [←atW hx]
  generalize hP:zF (fun i x=>if i=k then x else gU c r x) i l=P at *
  have hset:(up P).set i (x:Int)=up P:=List.ext_getElem? fun j=>by
   rw [List.getElem?_set]
   by_cases hj:i=j
   ·subst hj;rw [if_pos rfl,hx2,if_pos (List.getElem?_eq_some_iff.1 hx2).1]
   ·rw [if_neg hj]
  unfold oO
  rw [Tre.aA]
  show cond (decide ((i:Int)<(l.length:Int))) _ _=_
  rw [show decide ((i:Int)<(l.length:Int))=true from by simpa using hi,cond_true,Tre.aA]
  show cond (!decide ((i:Int)=(k:Int))) _ _=_
  by_cases hik:i=k
  ·rw [show decide ((i:Int)=(k:Int))=true from decide_eq_true (by omega),Bool.not_true,cond_false,Tre.aG,aQ (by omega),if_pos hik,←X6,hset]
  ·rw [show decide ((i:Int)=(k:Int))=false from decide_eq_false (by omega),Bool.not_false,cond_true,dM hx2,Tre.run_ite,if_pos (by omega),Tre.aA,if_neg hik]
   show cond (nO (x:Int) (c:Int)) _ _=_
   rw [vC (by omega) (by omega)]
   have he:gU c r x=cond (x.testBit c) (x^^^r) x:=rfl
   rw [he]
   cases x.testBit c
   ·rw [cond_false,Tre.aG,aQ (by omega),cond_false,←X6,hset]
   ·rw [cond_true,dM hx2,dM hr2,dM hx2,Tre.aG,aQ (by omega),mV (by omega) (by omega),Int.toNat_natCast,cond_true,←X6])
  (by
  unfold oO
  exact dB)
 rw [this,←hL,aqP (f:=gU c r) (g:=fun i x=>if i=k then x else gU c r x) (r:=r) (B:=B) hk (fun i x h=>if_neg h) (if_pos rfl)]
 rfl
theorem akX(orig:List Nat):∀(n c:Nat)(E:List (Nat×Nat))(R:List Nat),c+n=62→Inv orig c E R→E.length+R.length≤1048576→(∀x∈R,x<2 ^ 62)→(∀a∈E,a.2<2 ^ 62) →
  ∃(E' L:List Nat),aL ji ((E.length:Int),up (E.map (·.2)++R),(c:Int))=some ((E'.length:Int),up (E'++L))∧kK orig E':=by
 intro n
 induction n with
 |zero=>
  intro c E R hc hI _ hR _
  have:c=62:=hc
  subst this
  refine ⟨E.map (·.2),R,fE ?_,hI.done fun x hx=>Ir (hR x hx) (hI.low x hx)⟩
  unfold ji
  simp [Tre.aA,Tre.aG]
 |succ n ih=>
  intro c E R hc hI hl hR hEb
  have hcm:c<62:=by omega
  have hlen:(up (E.map (·.2)++R)).length=E.length+R.length:=by rw [mo];simp
  by_cases hR0:R=[]
  ·subst hR0
   refine ⟨E.map (·.2),[],fE ?_,hI.done fun x hx=>by cases hx⟩
   unfold ji
   simp [Tre.aA,Tre.aG]
  have hRl:0<R.length:=List.length_pos_iff.2 hR0
  have hstep:∀E2 R2,Inv orig (c+1) E2 R2→E2.length+R2.length≤1048576→(∀x∈R2,x<2 ^ 62)→(∀a∈E2,a.2<2 ^ 62)→(ji ((E.length:Int),up (E.map (·.2)++R),(c:Int))).run some=some (.inl ((E2.length:Int),up (E2.map (·.2)++R2),((c+1:Nat):Int))) →
    ∃(E' L:List Nat),aL ji ((E.length:Int),up (E.map (·.2)++R),(c:Int))=some ((E'.length:Int),up (E'++L))∧kK orig E':=by
   intro E2 R2 h1 h2 h3 h4 h5
   rw [lJ h5]
   exact ih (c+1) E2 R2 (by omega) h1 h2 h3 h4
  have hsub:((up (E.map (·.2)++R)).drop E.length).take (((E.length+R.length:Nat):Int)-(E.length:Int)).toNat=up R:=by
   rw [show (((E.length+R.length:Nat):Int)-(E.length:Int)).toNat=R.length from by omega]
   unfold up
   rw [List.map_append,List.drop_append_of_le_length (by simp),List.drop_of_length_le (by simp),List.nil_append,List.take_of_length_le (by simp)]
  have hfind:aCI (up R) (c:Int)=some _:=gY (by rw [mo];simp;omega)
  have hw:aJ .i64 ((c:Int)+1)=((c+1:Nat):Int):=aQ (by omega)
  have hdec:decide ((c:Int)<62)=true:=by simp;omega
  have hdec2:decide ((E.length:Int)<((E.length+R.length:Nat):Int))=true:=by simp;omega
  rcases yT (fun x=>nO x (c:Int)) (up R) 0 with ⟨h1,h2⟩|⟨j,x,h1,h2,h3⟩
  ·refine hstep E R (hI.skip fun x hx=>?_) hl hR hEb ?_
   ·have:=h2 (x:Int) (List.mem_map.2 ⟨x,hx,rfl⟩)
    have hxb:=hR x hx
    rwa [vC (by omega) (by omega)] at this
   ·unfold ji
    dsimp only
    rw [hlen,Tre.aA,hdec,cond_true,Tre.aA,hdec2,cond_true,Tre.run_ite,if_pos (by omega),Int.toNat_natCast,hsub,ah (hfind.trans (by rw [h1])),Tre.aA]
    simp only [show decide ((-1:Int)<0)=true from rfl,cond_true,Tre.aG,hw]
  ·obtain ⟨r,hr1,rfl⟩:∃r:Nat,R[j]?=some r∧(r:Int)=x:=by
    simp only [up,List.getElem?_map,Option.map_eq_some_iff] at h1
    exact h1
   have hrm:r∈R:=List.mem_of_getElem? hr1
   have hrb:=hR r hrm
   rw [vC (by omega) (by omega)] at h2
   rw [Nat.zero_add] at h3
   have hj:j<R.length:=(List.getElem?_eq_some_iff.1 hr1).1
   obtain ⟨y,R',rfl⟩:∃y R',R=y::R':=by
    cases R with
    |nil=>exact absurd rfl hR0
    |cons y R'=>exact ⟨y,R',rfl⟩
-- the rows behind the swap
   obtain ⟨B,hB,hB1,hB2,hBl⟩:∃B,((y::R').set 0 r).set j y=r::B∧(∀x∈B,x∈y::R')∧(∀x∈y::R',x=r∨x∈B)∧B.length=R'.length:=by
    cases j with
    |zero=>
     have hyr:y=r:=by simpa using hr1
     subst hyr
     exact ⟨R',by simp,fun x hx=>.tail _ hx,fun x hx=>by
      cases hx with
      |head=>exact .inl rfl
      |tail _ hx=>exact .inr hx,rfl⟩
    |succ j=>
     have hr1:R'[j]?=some r:=by simpa using hr1
     have hj':j<R'.length:=(List.getElem?_eq_some_iff.1 hr1).1
     refine ⟨R'.set j y,by simp,fun x hx=>?_,fun x hx=>?_,by simp⟩
     ·rcases List.mem_or_eq_of_mem_set hx with hx|rfl
      ·exact .tail _ hx
      ·exact .head _
     ·cases hx with
      |head=>exact .inr (List.mem_set hj' _)
      |tail _ hx=>
       obtain ⟨i,hi⟩:=List.getElem?_of_mem hx
       by_cases hij:j=i
       ·subst hij;rw [hr1] at hi;exact .inl (Option.some.inj hi).symm
       ·exact .inr (List.mem_of_getElem? (i:=i) (by rw [List.getElem?_set,if_neg hij,hi]))
   have hE2:((E.map fun a=>(a.1,gU c r a.2))++[(c,r)]).map (·.2)=(E.map (·.2)).map (gU c r)++[r]:=by simp [List.map_map,Function.comp_def]
   have hRB:(E.map (·.2)++r::B).length=E.length+(y::R').length:=by simp [hBl]
   have hall:∀x∈E.map (·.2)++r::B,x<2 ^ 62:=by
    intro x hx
    rcases List.mem_append.1 hx with hx|hx
    ·obtain ⟨a,ha,rfl⟩:=List.mem_map.1 hx;exact hEb a ha
    ·cases hx with
     |head=>exact hrb
     |tail _ hx=>exact hR x (hB1 x hx)
   refine hstep (E.map (fun a=>(a.1,gU c r a.2))++[(c,r)]) (B.map (gU c r)) (hI.step hrm h2 ?_ ?_) (by simp [hBl] at hl ⊢;omega) ?_ ?_ ?_
   ·intro z hz
    obtain ⟨x,hx,rfl⟩:=List.mem_map.1 hz
    exact .inr ⟨x,hB1 x hx,rfl⟩
   ·intro x hx
    rcases hB2 x hx with h|h
    ·exact .inl h
    ·exact .inr (List.mem_map.2 ⟨x,h,rfl⟩)
   ·intro z hz
    obtain ⟨x,hx,rfl⟩:=List.mem_map.1 hz
    exact aco hrb (hR x (hB1 x hx))
   ·intro a ha
    rcases List.mem_append.1 ha with ha|ha
    ·obtain ⟨b,hb,rfl⟩:=List.mem_map.1 ha
     exact aco hrb (hEb b hb)
    ·simp only [List.mem_singleton] at ha;subst ha;exact hrb
   ·have e1:=akV E.length c r (by omega) hrb (E.map (·.2)) B (by simp) hall (by rw [hRB];exact hl)
    have hkj:aJ .i64 ((E.length:Int)+(j:Int))=((E.length+j:Nat):Int):=by rw [dS (by omega) (by omega)];omega
    have hat1:(up (E.map (·.2)++y::R'))[E.length+j]?=some (r:Int):=X5 (by rw [List.getElem?_append_right (by simp)];simpa using hr1)
    have hat2:(up (E.map (·.2)++y::R'))[E.length]?=some (y:Int):=X5 (by rw [List.getElem?_append_right (by simp)];simp)
    have hs1:(up (E.map (·.2)++y::R')).set E.length (r:Int)=up (E.map (·.2)++(y::R').set 0 r):=by
     rw [X6,List.set_append_right _ _ (by simp)]
     simp
    have hs2:(up (E.map (·.2)++(y::R').set 0 r)).set (E.length+j) (y:Int)=up (E.map (·.2)++r::B):=by
     rw [X6,List.set_append_right _ _ (by simp),←hB]
     simp
    have hat3:∃z,(up (E.map (·.2)++(y::R').set 0 r))[E.length+j]?=some z:=⟨_,List.getElem?_eq_getElem (by rw [mo];simp at hj ⊢;omega)⟩
    obtain ⟨z,hat3⟩:=hat3
    have hlen3:((up (E.map (·.2)++r::B)).length:Int)=((E.map (·.2)++r::B).length:Int):=by rw [mo]
    unfold ji
    dsimp only
    rw [hlen,Tre.aA,hdec,cond_true,Tre.aA,hdec2,cond_true,Tre.run_ite,if_pos (by omega),Int.toNat_natCast,hsub,ah (hfind.trans (by rw [h3])),Tre.aA]
    rw [show decide ((j:Int)<0)=false from by simp,cond_false,hkj,←hlen,dM hat1,aq0 hat2,aq0 hat2]
    rw [Int.toNat_natCast,hs1,aq0 hat3,hs2,hlen3,ah e1,Tre.aG,aQ (by omega),hw,hE2]
    simp [List.append_assoc]
theorem akY(p0 y:List Int)(h:acn p0=some y):ahp p0=some y:=by
 obtain ⟨hl,rfl⟩:=rW h
 obtain ⟨ns,rfl,hlen,hb,hn⟩:=agj hl
 obtain ⟨E,L,h1,h2⟩:=akX ns 62 0 [] ns (by omega) (Inv.start ns) (by simpa using hlen) hb (fun a ha=>by cases ha)
 unfold ahp afL
 have e1:fQ (up ns)=some (up ns):=Dl (by rw [mo];exact hlen)
 have h1:aL ji (0,up ns,0)=some ((E.length:Int),up (E++L)):=h1
 rw [ah e1,ah h1,Tre.run_ite,if_pos (by rw [mo];simp;omega),Tre.aG]
 unfold NW
 rw [hn,apY h2]
 simp [up]
def zw:Env:=⟨tau,[(65,kJ),(99,aEq)],[]⟩
def LD:Code:=(Tryz.f64.body).getD .skip
def OM (vG:Int) (K6:Int) (Ab:Int):(Int×(List Int))→St:=fun x=>bO [(0,(.ref (2,0) [])),(3,(.i vG)),(4,(.ptr (6,0) [])),(45,(.i K6)),(46,(.i x.1))] [((2,0),some ⟨false,.il,.own,x.2⟩),((6,0),some ⟨true,.n,.own,Ab⟩)]
def LG (vG:Int) (_:Int) (Ab:Int):(List Int)→Ex×St:=fun x=>(.exit 2,bO [(0,(.ref (2,0) [])),(3,(.i vG)),(4,(.ptr (6,0) []))] [((2,0),some ⟨false,.il,.own,x⟩),((6,0),some ⟨true,.n,.own,Ab⟩)])
def aiK (s:St):Tre (Ex×St):=
 dF (2,0) [] (s.tmps 0)<|
 ay true .n (s.tmps 3) fun d3=>
 dR (6,0) [] (s.tmps 4)<|
 ay true .n (s.tmps 45) fun d6=>
 ay true .n (s.tmps 46) fun d8=>
 aZ false .il (s.roots (2,0)) fun m10 d11=>
 asM .own m10<|
 aZ true .n (s.roots (6,0)) fun m13 d14=>
 asM .own m13<|
 .mat (aL (oO d3 d6 d14) (d8,d11)) fun x=>.ret (LG d3 d6 d14 x)
def yj:bA:=⟨([0,3,4,45,46],[(2,0),(6,0)]),([0,3,4],[(2,0),(6,0)]),aiK⟩
def SV:(Int×(List Int)×Int)→St:=fun x=>bO [(0,(.ref (2,0) [])),(3,(.i x.1)),(4,(.ptr (6,0) []))] [((2,0),some ⟨false,.il,.own,x.2.1⟩),((6,0),some ⟨true,.n,.own,x.2.2⟩)]
def OO:(Int×(List Int))→Ex×St:=fun x=>(.exit 0,bO [(0,(.ref (2,0) [])),(3,(.i x.1))] [((2,0),some ⟨false,.il,.own,x.2⟩)])
def akW (s:St):Tre (Ex×St):=
 dF (2,0) [] (s.tmps 0)<|
 ay true .n (s.tmps 3) fun d3=>
 dR (6,0) [] (s.tmps 4)<|
 aZ false .il (s.roots (2,0)) fun m6 d7=>
 asM .own m6<|
 aZ true .n (s.roots (6,0)) fun m9 d10=>
 asM .own m9<|
 .mat (aL ji (d3,d7,d10)) fun x=>.ret (OO x)
def AQ:bA:=⟨([0,3,4],[(2,0),(6,0)]),([0,3],[(2,0)]),akW⟩
def E5:List (Nat×bA):=[(10,yj),(4,AQ)]
theorem aa6:∀(vG K6 Ab:Int)(x:(Int×(List Int)))(c:St→Option (Ex×St)),den zw E5 (aR LD 1) (OM vG K6 Ab x) (bR yj.kp yj.kx c)=(oO vG K6 Ab x).run (bS (OM vG K6 Ab) (LG vG K6 Ab) c):=fun _ _ _ _ _=>by
 kernel_rfl
theorem afM:bP zw E5 (aR LD 1) yj:=bV fun _ _ _=>fu<|aH fun _=>gL<|aH fun _=>aH fun _=>bT fun _ _=>tM<|bT fun _ _=>tM<|fun h _ e12 _ e9 e7 e5 e4 e2 e1=>bJ (aa6 _ _ _) h (by subst_vars;exact aM rfl rfl ⟨e1,e2,e4,e5,e7,trivial⟩ ⟨e9,e12,trivial⟩)
theorem acU:∀(x:(Int×(List Int)×Int))(c:St→Option (Ex×St)),den zw E5 (aR LD 0) (SV x) (bR AQ.kp AQ.kx c)=(ji x).run (bS (SV) (OO) c):=fun _ _=>by
 kernel_rfl
theorem aiL:bP zw E5 (aR LD 0) AQ:=bV fun _ _ _=>fu<|aH fun _=>gL<|bT fun _ _=>tM<|bT fun _ _=>tM<|fun h _ e8 _ e5 e4 e2 e1=>bJ acU h (by subst_vars;exact aM rfl rfl ⟨e1,e2,e4,trivial⟩ ⟨e5,e8,trivial⟩)
def asP:FnI:=fnI Tryz.f64 E5
def ZA (_:Bool) (_:List Int):(List Int)→au:=fun r=>⟨(.ref (1,0) []),[],[⟨false,.il,.own,r⟩]⟩
theorem aqb:∀(zp0:Bool)(p0:List Int),bL zw asP ⟨[(.imm zp0 .il p0)],[]⟩=(afL p0).run fun r=>some (ZA zp0 p0 r):=fun _ _=>by kernel_rfl
def asO (av:List AV) (rs:List Root):Tre au:=
 aD av fun a0_ av0=>
 aN av0<|
 aN rs<|
 bg .il a0_ fun z2 d1=>
 .mat (acn d1) fun r=>.ret (ZA z2 d1 r)
def zx:Ctr:=dD [] asO
theorem AU:Contract Tryz.prog .none 64 zx:=aB (V:=zw) aV (ak nD axf (ak aFx axg aI)) Tryz.func64 (bD (n:=2) fun k hk=>by
 match k,hk with
 |0,_=>exact bF (id:=4) aiL
 |1,_=>exact bF (id:=10) afM) fun _ _ _=>aK fun _ _=>bn<|bn<|bZ fun _ _=>fun h=>by intros;subst_vars;exact nR (aqb _ _) (akY _) h
def iw (bU:List Int) (cZ:List Int) (iC:Int):Int→Tre (Int ⊕ (Bool ⊕ Unit)):=fun s4=>
 .cond (decide (s4<iC))
  (.ite (0≤s4∧s4<(bU.length:Int))<|
  .mat (bU[s4.toNat]?) fun x1=>
  .ite (0≤s4∧s4<(cZ.length:Int))<|
  .mat (cZ[s4.toNat]?) fun x2=>
  .cond (!decide (x1=x2))
   (.ret (.inr (.inl false)))
   (.ret (.inl (aJ .i64 (s4+1)))))
  (.ret (.inr (.inr ())))
def yZ (p0:List Int) (p1:List Int):Tre Bool:=
 .cond (!decide ((p0.length:Int)=(p1.length:Int)))
  (.ret false)
  (.mat (aL (iw p0 p1 (p0.length:Int)) 0) fun l3=>
  .alt l3
   (fun a4=>
    .ret a4)
   (fun _=>
    .ret true))
def FL (p0:List Int) (p1:List Int):Option Bool:=(yZ p0 p1).run some
theorem P8(p0 p1:List Int)(y:Bool)(h:aia p0 p1=some y):FL p0 p1=some y:=by
 obtain ⟨hok,rfl⟩:=rW h
 simp only [Bool.and_eq_true,decide_eq_true_eq] at hok
 unfold FL yZ
 rw [Tre.aA]
 by_cases hl:p0.length=p1.length
 ·rw [decide_eq_true (show (p0.length:Int)=(p1.length:Int) by omega),Bool.not_true,cond_false,Tre.jl,vF (xs:=p0) (sameAt p1) (.inr ()),akC p1 p0 0 (by simpa using hl)]
  ·rw [List.drop_zero]
   cases decide (p0=p1)<;>rfl
  ·intro i x hx
   have hi:i<p0.length:=(List.getElem?_eq_some_iff.1 hx).1
   have hy:p1[i]?=some p1[i]:=List.getElem?_eq_getElem (by omega)
   unfold iw
   unfold sameAt
   rw [dW hx,dM hy,Tre.aA,hy]
   dsimp only
   cases decide (x=p1[i])
   ·rfl
   ·simp only [Bool.not_true,cond_true,cond_false,Tre.aG,aQ (show i<4611686018427387904 by omega)]
  ·unfold iw
   exact dB
 ·rw [decide_eq_false (show ¬(p0.length:Int)=(p1.length:Int) by omega),Bool.not_false,cond_true,Tre.aG,decide_eq_false (fun h=>hl (by rw [h]))]
def oK:Env:=⟨tau,[],[]⟩
def FM:Code:=(Tryz.f110.body).getD .skip
def oU (nG:Bool) (X8:Bool) (bU:List Int) (cZ:List Int) (iC:Int):Int→St:=fun x=>bO [(0,(.imm nG .il bU)),(1,(.imm X8 .il cZ)),(12,(.i iC)),(13,(.i x))] []
def jG (_:Bool) (_:Bool) (_:List Int) (_:List Int) (_:Int):(Bool ⊕ Unit)→Ex×St
 |.inl x=>(.ret,bO [(4,(.imm true .bool x))] [])
 |.inr _=>(.exit 0,bO [(4,.dead)] [])
def zT (s:St):Tre (Ex×St):=
 bg .il (s.tmps 0) fun z3 d2=>
 bg .il (s.tmps 1) fun z6 d5=>
 ay true .n (s.tmps 12) fun d8=>
 ay true .n (s.tmps 13) fun d10=>
 .mat (aL (iw d2 d5 d8) d10) fun x=>.alt x (fun a0=>.ret (jG z3 z6 d2 d5 d8 (.inl a0))) (fun b0=>.ret (jG z3 z6 d2 d5 d8 (.inr b0)))
def iU:bA:=⟨([0,1,12,13],[]),([4],[]),zT⟩
def vg:List (Nat×bA):=[(4,iU)]
theorem Kw:∀(nG X8:Bool)(bU cZ:List Int)(iC x:Int)(c:St→Option (Ex×St)),den oK vg (aR FM 0) (oU nG X8 bU cZ iC x) (bR iU.kp iU.kx c)=(iw bU cZ iC x).run (bS (oU nG X8 bU cZ iC) (jG nG X8 bU cZ iC) c):=fun _ _ _ _ _ _ _=>by
 kernel_rfl
theorem NP:bP oK vg (aR FM 0) iU:=fP fun s e s' h=>by
 generalize hs:restrict iU.kp s=s1 at h
 have h:(zT s1).run some=some (e,s'):=h
 obtain ⟨z3,d2,e1,h_0⟩:=fG h
 obtain ⟨z6,d5,e4,h_1⟩:=fG h_0
 obtain ⟨d8,e7,h_2⟩:=cu h_1
 obtain ⟨d10,e9,h_3⟩:=cu h_2
 obtain ⟨y,hy,hz⟩:=iE h_3
 refine ⟨_,_,oU z3 z6 d2 d5 d8,jG z3 z6 d2 d5 d8,iw d2 d5 d8,d10,y,?_,hy,?_,Kw z3 z6 d2 d5 d8⟩
 ·subst hs;exact aM (T:=[(0,(.imm z3 .il d2)),(1,(.imm z6 .il d5)),(12,(.i d8)),(13,(.i d10))]) (U:=[]) rfl rfl ⟨e1,e4,e7,e9,trivial⟩ trivial
 ·rcases y with x|x<;>exact Option.some.inj hz
def X0:FnI:=fnI Tryz.f110 vg
def BO (_:Bool) (_:Bool) (_:List Int) (_:List Int):Bool→au:=fun r=>⟨(.imm true .bool r),[],[]⟩
theorem U0:∀(zp0 zp1:Bool)(p0 p1:List Int),bL oK X0 ⟨[(.imm zp0 .il p0),(.imm zp1 .il p1)],[]⟩=(yZ p0 p1).run fun r=>some (BO zp0 zp1 p0 p1 r):=fun _ _ _ _=>by kernel_rfl
def XZ (av:List AV) (rs:List Root):Tre au:=
 aD av fun a0_ av0=>
 aD av0 fun a1_ av1=>
 aN av1<|
 aN rs<|
 bg .il a0_ fun z2 d1=>
 bg .il a1_ fun z4 d3=>
 .mat (aia d1 d3) fun r=>.ret (BO z2 z4 d1 d3 r)
def FN:Ctr:=dD [] XZ
theorem U1:Contract Tryz.prog .none 110 FN:=aB (V:=oK) aV aI Tryz.func110 (bD (n:=1) fun k hk=>by
 match k,hk with
 |0,_=>exact bF (id:=4) NP) fun _ _ _=>aK fun _ _=>aK fun _ _=>bn<|bn<|bZ fun _ _=>bZ fun _ _=>fun h=>by intros;subst_vars;exact nR (U0 _ _ _ _) (P8 _ _) h
def afD (p0:aT):Tre Bool:=
 .mat (yg p0) fun r1=>
 .cond r1
  (.mat (acn p0.2.1) fun r2=>
  .mat (aia r2 p0.2.1) fun r3=>
  .ret r3)
  (.ret false)
def Lv (p0:aT):Option Bool:=(afD p0).run some
-- more
theorem akt{c:Nat}{ns:List Nat}(hc:c≤10)(hl:ns.length≤10)(hn:∀n∈ns,n<2 ^ c):(NW (up ns)).length≤ns.length:=by
 have hi:=avF (b:=62) (by omega) (Yo (c:=c) (b:=62) (ns:=ns) (by omega) (by omega) hn)
 rw [up_toNat] at hi
 rw [asv,up_toNat]
 exact hi.le
theorem ap5(m:Int×List Int×Unit)(hl:m.2.1.length≤1048576):Lv m=some (ajJ m):=by
 unfold Lv afD
 rw [ah (afH m hl),Tre.aA]
 unfold ajJ
 cases h:aqT m
 ·rfl
 obtain ⟨c,ns,rfl,h1,h2,h3,h4⟩:=aqU h
 dsimp only at hl ⊢
 rw [cond_true,ah (show acn (up ns)=some _ from gY (Yo (c:=c) (by omega) (by omega) h4))]
 rw [ah (show aia (NW (up ns)) (up ns)=some _ from gY (by
  have:=akt h2 h3 h4
  simp only [Bool.and_eq_true,decide_eq_true_eq,mo];omega))]
 rfl
def ahm:Env:=⟨tau,[(109,SS),(64,zx),(110,FN)],[]⟩
def asN:FnI:=fnI Tryz.f74 []
def Zy (_:Bool) (_:aT):Bool→au:=fun r=>⟨(.imm true .bool r),[],[]⟩
theorem ap4:∀(zp0:Bool)(p0:aT),bL ahm asN ⟨[(.imm zp0 bC p0)],[]⟩=(afD p0).run fun r=>some (Zy zp0 p0 r):=fun _ _=>by kernel_rfl
def asL (av:List AV) (rs:List Root):Tre au:=
 aD av fun a0_ av0=>
 aN av0<|
 aN rs<|
 bg bC a0_ fun z2 d1=>
 .mat (Lv d1) fun r=>.ret (Zy z2 d1 r)
def ahn:Ctr:=dD [] asL
theorem ap6:Contract Tryz.prog .none 74 ahn:=aB (V:=ahm) aV (ak afI aEH (ak AU asz (ak U1 aEI aI))) Tryz.func74 bN fun _ _ _=>aK fun _ _=>bn<|bn<|bZ fun _ _=>fun h=>by intros;subst_vars;exact bB (ap4 _ _) h
def Gf (p0:aT):Tre Bool:=
 .mat (Bt p0) fun r1=>
 .cond r1
  (.mat (apW p0.1 p0.2.1) fun r2=>
  .mat (aia r2 p0.2.1) fun r3=>
  .ret r3)
  (.ret false)
def tZ (p0:aT):Option Bool:=(Gf p0).run some
-- more
theorem aFN{m:Int}(h:1≤m∧m≤10):aJ .i64 (F7 .i64 1 (aJ .u64 m)-1)=aCe m:=by
 rw [OV (by omega) (by omega)];rfl
theorem ajm(m:Int×List Int×Unit):Bt m=some (aqT m):=by
 unfold Bt RZ aqT
 rw [Tre.aA]
 cases h1:inR m.1 1 10
 ·rfl
 rw [Bool.not_true,cond_false,Tre.aA,Bool.true_and]
 rw [gX] at h1
 by_cases h2:(m.2.1.length:Int)>10
 ·rw [decide_eq_true h2,decide_eq_false (show ¬m.2.1.length≤10 by omega)];rfl
 rw [decide_eq_false h2,cond_false,decide_eq_true (show m.2.1.length≤10 by omega),Bool.true_and]
 rw [Tre.jl,vF (xs:=m.2.1) (fun _ x=>cond (inP m.1 x) none (some (.inl false))) (.inr ())]
 ·rw [ayJ,Option.bind_some]
  cases m.2.1.all (inP m.1)<;>rfl
 ·intro i x hx
  have hi:i<m.2.1.length:=(List.getElem?_eq_some_iff.1 hx).1
  unfold nK
  rw [dW hx,Tre.run_ite,if_pos (OW _)]
  dsimp only
  rw [aFN h1,Tre.aA,show inR x 0 (aCe m.1)=inP m.1 x from rfl]
  cases inP m.1 x
  ·rfl
  ·simp only [Bool.not_true,cond_false,cond_true,Tre.aG,aQ (show i<4611686018427387904 by omega)]
 ·unfold nK
  exact dB
theorem abM(m:Int×List Int×Unit):tZ m=some (ajJ m):=by
 unfold tZ Gf
 rw [ah (ajm m),Tre.aA]
 unfold ajJ
 cases h:aqT m
 ·rfl
 obtain ⟨c,ns,rfl,h1,h2,h3,h4⟩:=aqU h
 dsimp only
 rw [cond_true,ah (show apW (c:Int) (up ns)=some _ from gY (by
  rw [Bool.and_eq_true,gX]
  exact ⟨by omega,by rw [Int.toNat_natCast];exact Yo (c:=c) (Nat.le_refl c) (by omega) h4⟩))]
 rw [ah (show aia (NW (up ns)) (up ns)=some _ from gY (by
  have:=akt h2 h3 h4
  simp only [Bool.and_eq_true,decide_eq_true_eq,mo];omega))]
 rfl
def Mw:Env:=⟨tau,[(104,Xy),(80,Br),(105,ahL)],[]⟩
def aem:FnI:=fnI Tryz.f71 []
def G6 (zp0:Bool) (p0:aT):Bool→au:=fun r=>⟨(.imm true .bool r),[⟨true,bC,(.imm zp0),p0⟩],[]⟩
theorem abL:∀(zp0:Bool)(p0:aT),bL Mw aem ⟨[(.ptr (0,0) [])],[⟨true,bC,(.imm zp0),p0⟩]⟩=(Gf p0).run fun r=>some (G6 zp0 p0 r):=fun _ _=>by kernel_rfl
def ael (av:List AV) (rs:List Root):Tre au:=
 aD av fun a0_ av0=>
 aN av0<|
 aD rs fun r0_ rs0=>
 aN rs0<|
 dR (0,0) [] a0_<|
 wQ true bC r0_ fun m1 d2=>
 kr m1 fun z3=>
 .mat (tZ d2) fun r=>.ret (G6 z3 d2 r)
def Mx:Ctr:=dD [] ael
theorem abN:Contract Tryz.prog .none 71 Mx:=aB (V:=Mw) aV (ak ajn aED (ak Gd aAF (ak aq7 aEE aI))) Tryz.func71 bN fun _ _ _=>aK fun _ _=>bn<|aK fun _ _=>bn<|gL<|tRt fun _ _=>zU fun _=>fun h=>by intros;subst_vars;exact bB (abL _ _) h
-- shared
def aFT:Nat→Nat→Nat→Nat
 |0,_,_=>0
 |n+1,a,b=>Nat.xor (bif Nat.beq (b%2) 1 then a else 0) (aFT n (2*a) (b/2))
def aEt:Nat→Nat→Nat→Nat
 |0,c,_=>c
 |n+1,c,p=>bif Nat.ble (Nat.log2 p) (Nat.log2 c) then aEt n (Nat.xor c (Nat.shiftLeft p (Nat.log2 c-Nat.log2 p))) p else c
def mulN(p a b:Nat):Nat:=aEt 6 (aFT 6 a b) p
def gH(f:TF3)(a b:Int):Int:=((mulN f.2.1.toNat a.toNat b.toNat:Nat):Int)
def inF(f:TF3)(a:Int):Prop:=0≤a∧a<((2 ^ f.1.toNat:Nat):Int)
def iZ:List (Nat×Nat):=[(1,2),(1,3),(2,7),(3,11),(3,13),(4,19),(4,25),(4,31),(5,37),(5,41),(5,47),(5,55),(5,59),(5,61)]
def zZ(F:TF3→Int→Int→Option Int)(G:Nat→Nat→Nat→Nat)(d p:Nat):Bool:=(List.range (2 ^ d)).all fun a=>(List.range (2 ^ d)).all fun b=>F ((d:Int),(p:Int),()) (a:Int) (b:Int) == some ((G p a b:Nat):Int)
theorem CS{f:TF3}(h:aO f=true):∃d p:Nat,(d,p)∈iZ∧f=((d:Int),(p:Int),()):=by
 have h1:=Vb h
 obtain ⟨a,b,⟨⟩⟩:=f
 have key:∀x∈akA,∃q∈iZ,x=((q.1:Int),(q.2:Int)):=by decide
 obtain ⟨q,h2,h3⟩:=key _ h1
 simp only [Prod.mk.injEq] at h3
 exact ⟨q.1,q.2,h2,by rw [h3.1,h3.2]⟩
theorem aCj{F:TF3→Int→Int→Option Int}{G:Nat→Nat→Nat→Nat}(h:∀q∈iZ,zZ F G q.1 q.2=true){f:TF3}(hf:aO f=true){a b:Int}(ha:inF f a)(hb:inF f b):F f a b=some ((G f.2.1.toNat a.toNat b.toNat:Nat):Int):=by
 obtain ⟨d,p,hq,rfl⟩:=CS hf
 obtain ⟨ha0,ha1⟩:=ha
 obtain ⟨hb0,hb1⟩:=hb
 simp only [Int.toNat_natCast] at ha1 hb1
 obtain ⟨m,rfl⟩:=Int.eq_ofNat_of_zero_le ha0
 obtain ⟨n,rfl⟩:=Int.eq_ofNat_of_zero_le hb0
 have h1:=List.all_eq_true.1 (List.all_eq_true.1 (h _ hq) m (List.mem_range.2 (by exact_mod_cast ha1))) n (List.mem_range.2 (by exact_mod_cast hb1))
 exact eq_of_beq h1
-- shared
def aHe(p a:Nat):Nat→Nat
 |0=>1
 |n+1=>mulN p (aHe p a n) a
def sO(d p a:Nat):Nat:=aHe p a (2 ^ d-2)
def zV(f:TF3)(a:Int):Int:=((sO f.1.toNat f.2.1.toNat a.toNat:Nat):Int)
def zY(F:TF3→Int→Option Int)(G:Nat→Nat→Nat→Nat)(d p:Nat):Bool:=(List.range (2 ^ d)).all fun a=>F ((d:Int),(p:Int),()) (a:Int) == some ((G d p a:Nat):Int)
theorem aBz{F:TF3→Int→Option Int}{G:Nat→Nat→Nat→Nat}(h:∀q∈iZ,zY F G q.1 q.2=true){f:TF3}(hf:aO f=true){a:Int}(ha:inF f a):F f a=some ((G f.1.toNat f.2.1.toNat a.toNat:Nat):Int):=by
 obtain ⟨d,p,hq,rfl⟩:=CS hf
 obtain ⟨ha0,ha1⟩:=ha
 simp only [Int.toNat_natCast] at ha1
 obtain ⟨m,rfl⟩:=Int.eq_ofNat_of_zero_le ha0
 have h1:=List.all_eq_true.1 (h _ hq) m (List.mem_range.2 (by exact_mod_cast ha1))
 exact eq_of_beq h1
def aBl(d p:Nat):Bool:=(List.range (2 ^ d)).all fun a=>(List.range (2 ^ d)).all fun b=>Nat.blt (mulN p a b) (2 ^ d)&&Nat.beq (mulN p a b) (mulN p b a)
def aA7(d p:Nat):Bool:=(List.range (2 ^ d)).all fun a=>Nat.blt (sO d p a) (2 ^ d)&&(Nat.beq a 0||Nat.beq (mulN p a (sO d p a)) 1)
theorem adx:(iZ.all fun q=>aBl q.1 q.2)=true:=by kernel_rfl
theorem adb:(iZ.all fun q=>aA7 q.1 q.2)=true:=by kernel_rfl
theorem Dp{f:TF3}(hf:aO f=true){a b:Int}(ha:inF f a)(hb:inF f b):inF f (gH f a b)∧gH f a b=gH f b a:=by
 obtain ⟨d,p,hq,rfl⟩:=CS hf
 obtain ⟨ha0,ha1⟩:=ha
 obtain ⟨hb0,hb1⟩:=hb
 simp only [Int.toNat_natCast] at ha1 hb1
 obtain ⟨m,rfl⟩:=Int.eq_ofNat_of_zero_le ha0
 obtain ⟨n,rfl⟩:=Int.eq_ofNat_of_zero_le hb0
 have h0:=List.all_eq_true.1 adx _ hq
 have h1:=List.all_eq_true.1 (List.all_eq_true.1 h0 m (List.mem_range.2 (by exact_mod_cast ha1))) n (List.mem_range.2 (by exact_mod_cast hb1))
 rw [Bool.and_eq_true] at h1
 have h2:mulN p m n<2 ^ d:=Nat.le_of_ble_eq_true h1.1
 have h3:mulN p m n=mulN p n m:=Nat.eq_of_beq_eq_true h1.2
 refine ⟨⟨Int.natCast_nonneg _,?_⟩,?_⟩
 ·show ((mulN p m n:Nat):Int)<_
  simp only [Int.toNat_natCast]
  exact_mod_cast h2
 ·show ((mulN p m n:Nat):Int)=((mulN p n m:Nat):Int)
  rw [h3]
theorem uP{f:TF3}(hf:aO f=true){a:Int}(ha:inF f a):inF f (zV f a)∧(a≠0→gH f a (zV f a)=1):=by
 obtain ⟨d,p,hq,rfl⟩:=CS hf
 obtain ⟨ha0,ha1⟩:=ha
 simp only [Int.toNat_natCast] at ha1
 obtain ⟨m,rfl⟩:=Int.eq_ofNat_of_zero_le ha0
 have h0:=List.all_eq_true.1 adb _ hq
 have h1:=List.all_eq_true.1 h0 m (List.mem_range.2 (by exact_mod_cast ha1))
 rw [Bool.and_eq_true,Bool.or_eq_true] at h1
 have h2:sO d p m<2 ^ d:=Nat.le_of_ble_eq_true h1.1
 refine ⟨⟨Int.natCast_nonneg _,?_⟩,fun hne=>?_⟩
 ·show ((sO d p m:Nat):Int)<_
  simp only [Int.toNat_natCast]
  exact_mod_cast h2
 ·rcases h1.2 with h|h
  ·exact absurd (by rw [Nat.eq_of_beq_eq_true h];rfl) hne
  ·show ((mulN p m (sO d p m):Nat):Int)=1
   rw [Nat.eq_of_beq_eq_true h];rfl
-- shared
def ae1(f:TF3)(u w:List Int)(x:Int):List Int:=(u.zip w).map fun p=>iD .i64 p.1 (gH f p.2 x)
theorem afi{α β γ:Type}(g:α→γ)(fin:List γ→β):∀(l:List α)(i:Nat)(acc:List γ),nH (fun _ acc x=>(.inl (acc++[g x]):List γ ⊕ β)) fin i acc l=fin (acc++l.map g):=by
 intro l
 induction l with
 |nil=>intro i acc;simp only [nH,List.map_nil,List.append_nil]
 |cons y l ih=>intro i acc;simp only [nH];rw [ih];simp
-- shared
theorem K5{f:TF3}(hf:aO f=true):1≤f.1.toNat∧f.1.toNat≤5:=by
 obtain ⟨d,p,hq,rfl⟩:=CS hf
 have:∀q∈iZ,1≤q.1∧q.1≤5:=by decide
 exact this _ hq
theorem D9{f:TF3}(hf:aO f=true){a:Int}(h:inF f a):∃n:Nat,a=(n:Int)∧n<2 ^ f.1.toNat∧n<2 ^ 63:=by
 obtain ⟨h0,h1⟩:=h
 have hd:=(K5 hf).2
 have hp:2 ^ f.1.toNat≤2 ^ 5:=Nat.pow_le_pow_right (by omega) hd
 refine ⟨a.toNat,by omega,by omega,by omega⟩
theorem gK{f:TF3}:inF f 0:=⟨Int.le_refl 0,by exact_mod_cast Nat.two_pow_pos _⟩
theorem aqo{f:TF3}(hf:aO f=true):inF f 1:=by
 have:2 ^ 1≤2 ^ f.1.toNat:=Nat.pow_le_pow_right (by omega) (K5 hf).1
 exact ⟨by omega,by omega⟩
theorem LQ{f:TF3}(hf:aO f=true){a b:Int}(ha:inF f a)(hb:inF f b):inF f (iD .i64 a b):=by
 obtain ⟨m,rfl,hm,hm2⟩:=D9 hf ha
 obtain ⟨n,rfl,hn,hn2⟩:=D9 hf hb
 rw [mV hm2 hn2]
 exact ⟨Int.natCast_nonneg _,by exact_mod_cast Nat.xor_lt_two_pow hm hn⟩
theorem qA{f:TF3}(hf:aO f=true){a:Int}(ha:inF f a):iD .i64 0 a=a:=by
 obtain ⟨m,rfl,hm,hm2⟩:=D9 hf ha
 have:=mV (a:=0) (b:=m) (by omega) hm2
 rw [show ((0:Nat):Int)=0 from rfl] at this
 rw [this,Nat.zero_xor]
def GR(f:TF3)(n:Nat)(L:List (List Int)):Prop:=∀r∈L,r.length=n∧∀y∈r,inF f y
def Dq(c:Nat)(r:List Int):Bool:=match r[c]? with
 |some x=>!decide (x=0)
 |none=>false
def oM(f:TF3)(c k:Nat)(own:List Int)(i:Nat)(r:List Int):List Int:=match r[c]? with
 |some x=>bif decide (i=k)||decide (x=0) then r else (r.zip own).map fun p=>iD .i64 p.1 (gH f x p.2)
 |none=>r
def ab3(f:TF3)(c:Nat)(row:List Int):List Int:=match row[c]? with
 |some x=>row.map fun y=>gH f y (zV f x)
 |none=>row
def UG(f:TF3)(c k a:Nat)(L:List (List Int)):List (List Int):=match L[k]?,L[a]? with
 |some row,some r0=>(L.set k r0).set a (ab3 f c row)
 |_,_=>L
def FR(f:TF3)(c a:Nat)(L:List (List Int)):List (List Int):=match L[a]? with
 |some own=>L.mapIdx (oM f c a own)
 |none=>L
def iY(f:TF3)(c:Nat)(s:Nat×List (List Int)):Nat×List (List Int):=
 bif decide (nI (Dq c) s.1 (s.2.drop s.1)<0) then s else (s.1+1,FR f c s.1 (UG f c (nI (Dq c) s.1 (s.2.drop s.1)).toNat s.1 s.2))
def gT(f:TF3):Nat→Nat→Nat×List (List Int)→Nat×List (List Int)
 |_,0,s=>s
 |c,m+1,s=>gT f (c+1) m (iY f c s)
def Eu(f:TF3)(n:Nat)(L:List (List Int)):List (List Int):=(gT f 0 n (0,L)).2.take (gT f 0 n (0,L)).1
theorem aqS{c:Nat}{r:List Int}(h:Dq c r=true):∃x,r[c]?=some x∧x≠0:=by
 unfold Dq at h
 split at h
 ·exact ⟨_,by assumption,by simpa using h⟩
 ·cases h
theorem Ep{f:TF3}{n:Nat}{L:List (List Int)}(h:GR f n L){i:Nat}{r:List Int}(hi:L[i]?=some r):r.length=n∧∀y∈r,inF f y:=h r (List.mem_of_getElem? hi)
theorem azX{f:TF3}{n:Nat}{L:List (List Int)}(h:GR f n L){i:Nat}{r:List Int}(hr:r.length=n∧∀y∈r,inF f y):GR f n (L.set i r):=by
 intro x hx
 rcases List.mem_or_eq_of_mem_set hx with hx|rfl
 ·exact h x hx
 ·exact hr
theorem azA{f:TF3}(hf:aO f=true){n c:Nat}{r:List Int}(h:r.length=n∧∀y∈r,inF f y):(ab3 f c r).length=n∧∀y∈ab3 f c r,inF f y:=by
 unfold ab3
 split
 ·rename_i x hx
  refine ⟨by simpa using h.1,fun y hy=>?_⟩
  obtain ⟨z,hz,rfl⟩:=List.mem_map.1 hy
  exact (Dp hf (h.2 z hz) (uP hf (h.2 x (List.mem_of_getElem? hx))).1).1
 ·exact h
theorem ayp{f:TF3}(hf:aO f=true){n c k i:Nat}{own r:List Int}(ho:own.length=n∧∀y∈own,inF f y)(h:r.length=n∧∀y∈r,inF f y):(oM f c k own i r).length=n∧∀y∈oM f c k own i r,inF f y:=by
 unfold oM
 split
 ·rename_i x hx
  cases decide (i=k)||decide (x=0)
  ·rw [cond_false]
   refine ⟨by simp [h.1,ho.1],fun y hy=>?_⟩
   obtain ⟨p,hp,rfl⟩:=List.mem_map.1 hy
   have h1:=List.of_mem_zip (a:=p.1) (b:=p.2) hp
   exact LQ hf (h.2 _ h1.1) (Dp hf (h.2 x (List.mem_of_getElem? hx)) (ho.2 _ h1.2)).1
  ·exact h
 ·exact h
theorem ajU{f:TF3}(hf:aO f=true){n c k a:Nat}{L:List (List Int)}(h:GR f n L):GR f n (UG f c k a L)∧(UG f c k a L).length=L.length:=by
 unfold UG
 split
 ·rename_i row r0 h1 h2
  exact ⟨azX (azX h (Ep h h2)) (azA hf (Ep h h1)),by simp⟩
 ·exact ⟨h,rfl⟩
theorem aoN{f:TF3}(hf:aO f=true){n c a:Nat}{L:List (List Int)}(h:GR f n L):GR f n (FR f c a L)∧(FR f c a L).length=L.length:=by
 unfold FR
 split
 ·rename_i own h1
  refine ⟨fun r hr=>?_,by simp⟩
  obtain ⟨i,hi,rfl⟩:=List.mem_mapIdx.1 hr
  exact ayp hf (Ep h h1) (h _ (List.getElem_mem hi))
 ·exact ⟨h,rfl⟩
theorem IK{f:TF3}(hf:aO f=true){n c:Nat}{s:Nat×List (List Int)}(h:GR f n s.2)(ha:s.1≤s.2.length):GR f n (iY f c s).2∧(iY f c s).2.length=s.2.length∧(iY f c s).1≤s.2.length:=by
 unfold iY
 rcases yT (Dq c) (s.2.drop s.1) s.1 with ⟨h1,_⟩|⟨k,x,h1,_,h3⟩
 ·rw [h1];exact ⟨h,rfl,ha⟩
 ·rw [h3,decide_eq_false (by omega),cond_false]
  have hlt:=(List.getElem?_eq_some_iff.1 h1).1
  rw [List.length_drop] at hlt
  have hp:=ajU (c:=c) (k:=((s.1+k:Nat):Int).toNat) (a:=s.1) hf h
  have hc:=aoN (c:=c) (a:=s.1) hf hp.1
  exact ⟨hc.1,by rw [hc.2,hp.2],by show s.1+1≤_;omega⟩
theorem Qo{f:TF3}(hf:aO f=true){n:Nat}:∀(m c:Nat)(s:Nat×List (List Int)),GR f n s.2→s.1≤s.2.length→GR f n (gT f c m s).2∧(gT f c m s).2.length=s.2.length∧(gT f c m s).1≤s.2.length:=by
 intro m
 induction m with
 |zero=>intro c s h ha;exact ⟨h,rfl,ha⟩
 |succ m ih=>
  intro c s h ha
  have h1:=IK (c:=c) hf h ha
  have h2:=ih (c+1) _ h1.1 (by rw [h1.2.1];exact h1.2.2)
  rw [h1.2.1] at h2
  exact h2
theorem aCE{f:TF3}(hf:aO f=true){n m:Nat}{L:List (List Int)}(h:GR f n L):GR f n (Eu f m L):=fun r hr=>(Qo hf m 0 (0,L) h (Nat.zero_le _)).1 r (List.mem_of_mem_take hr)
theorem akv{f:TF3}(hf:aO f=true){n m:Nat}{L:List (List Int)}(h:GR f n L):(Eu f m L).length=(gT f 0 m (0,L)).1:=by
 have:=Qo hf m 0 (0,L) h (Nat.zero_le _)
 unfold Eu
 rw [List.length_take,this.2.1]
 exact Nat.min_eq_left this.2.2
theorem as8{α:Type}(p:α→Bool):∀(l:List α)(i j:Nat),nI p (i+j) l=if nI p j l<0 then -1 else (i:Int)+nI p j l:=by
 intro l
 induction l with
 |nil=>intro i j;rfl
 |cons x l ih=>
  intro i j
  rcases Bool.eq_false_or_eq_true (p x) with hp|hp
  ·have e1:nI p (i+j) (x::l)=((i+j:Nat):Int):=by simp only [nI,hp,cond_true]
   have e2:nI p j (x::l)=(j:Int):=by simp only [nI,hp,cond_true]
   rw [e1,e2,if_neg (by omega)]
   omega
  ·have e1:nI p (i+j) (x::l)=nI p (i+(j+1)) l:=by simp only [nI,hp,cond_false];rfl
   have e2:nI p j (x::l)=nI p (j+1) l:=by simp only [nI,hp,cond_false]
   rw [e1,e2]
   exact ih i (j+1)
theorem akD{α β γ:Type}(g:Nat→α→γ)(fin:List γ→β):∀(l:List α)(i:Nat)(acc:List γ),acc.length=i+l.length→nH (fun i acc x=>(.inl (acc.set i (g i x)):List γ ⊕ β)) fin i acc l=fin (acc.take i++l.mapIdx fun j x=>g (i+j) x):=by
 intro l
 induction l with
 |nil=>intro i acc h;simp only [nH,List.mapIdx_nil,List.append_nil];rw [List.take_of_length_le (by simp at h;omega)]
 |cons x l ih=>
  intro i acc h
  simp only [List.length_cons] at h
  simp only [nH]
  rw [ih (i+1) _ (by simp;omega),List.take_add_one,List.mapIdx_cons]
  simp [show i<acc.length by omega,List.take_set_of_le (Nat.le_refl i),Nat.add_assoc,Nat.add_comm 1]
-- shared
theorem aB1{n d:Nat}(h0:n≠0)(hn:n<2 ^ d):∃i m,i<d∧m<n∧n=m^^^2 ^ i:=by
 have hl:=Nat.log2_lt (n:=n) (k:=d) h0 |>.2 hn
 have hself:=Nat.log2_self_le h0
 have hup:=Nat.lt_log2_self (n:=n)
 have hb1:n^^^2 ^ n.log2<2 ^ n.log2:=by
  apply Nat.lt_pow_two_of_testBit
  intro i hi
  rw [Nat.testBit_xor,Nat.testBit_two_pow]
  by_cases hi2:n.log2=i
  ·subst hi2
   rw [Nat.testBit_log2 h0]
   simp
  ·have:n.testBit i=false:=Nat.testBit_lt_two_pow (Nat.lt_of_lt_of_le hup (Nat.pow_le_pow_right (by omega) (by omega)))
   rw [this]
   simp [hi2]
 exact ⟨n.log2,n^^^2 ^ n.log2,hl,by omega,by rw [Nat.xor_assoc,Nat.xor_self,Nat.xor_zero]⟩
def au6(d:Nat)(g:Nat→Nat):Prop:=∀a b,a<2 ^ d→b<2 ^ d→g (a^^^b)=g a^^^g b
theorem au6.zero{d:Nat}{g:Nat→Nat}(h:au6 d g):g 0=0:=by
 have e1:=h 0 0 (Nat.two_pow_pos d) (Nat.two_pow_pos d)
 rw [Nat.xor_self] at e1
 rw [Nat.xor_self] at e1
 exact e1
theorem aEy{d:Nat}{g:Nat→Nat}(h0:g 0=0)(h:∀b i,b<2 ^ d→i<d→g (b^^^2 ^ i)=g b^^^g (2 ^ i)):au6 d g:=by
 intro b c
 induction c using Nat.strongRecOn generalizing b with
 |ind c ih=>
  intro hb hc
  by_cases hz:c=0
  ·subst hz;rw [Nat.xor_zero,h0,Nat.xor_zero]
  ·obtain ⟨i,m,hi,hm,he⟩:=aB1 hz hc
   have hp:2 ^ i<2 ^ d:=Nat.pow_lt_pow_right (by omega) hi
   have hm2:m<2 ^ d:=by omega
   rw [he,←Nat.xor_assoc,h _ _ (Nat.xor_lt_two_pow hb hm2) hi,ih m hm b hb hm2,h _ _ hm2 hi,Nat.xor_assoc]
theorem axv{d:Nat}{g h:Nat→Nat}(hg:au6 d g)(hh:au6 d h)(hb:∀i,i<d→g (2 ^ i)=h (2 ^ i)):∀n,n<2 ^ d→g n=h n:=by
 intro n
 induction n using Nat.strongRecOn with
 |ind n ih=>
  intro hn
  by_cases h0:n=0
  ·subst h0;rw [hg.zero,hh.zero]
  ·obtain ⟨i,m,hi,hm,he⟩:=aB1 h0 hn
   have hp:2 ^ i<2 ^ d:=Nat.pow_lt_pow_right (by omega) hi
   rw [he,hg _ _ (by omega) hp,hh _ _ (by omega) hp,ih m hm (by omega),hb i hi]
def aFU(d p:Nat):Bool:=(List.range (2 ^ d)).all fun a=>(List.range (2 ^ d)).all fun b=>(List.range d).all fun i=>Nat.beq (mulN p a (Nat.xor b (2 ^ i))) (Nat.xor (mulN p a b) (mulN p a (2 ^ i)))
def iA(d p:Nat):Bool:=(List.range (2 ^ d)).all fun a=>(List.range d).all fun j=>(List.range d).all fun i=>Nat.beq (mulN p (mulN p a (2 ^ j)) (2 ^ i)) (mulN p a (mulN p (2 ^ j) (2 ^ i)))
def aHl(d p:Nat):Bool:=(List.range (2 ^ d)).all fun a=>Nat.beq (mulN p a 1) a&&Nat.beq (mulN p a 0) 0
theorem ayt:(iZ.all fun q=>aFU q.1 q.2)=true:=by kernel_rfl
theorem avh:(iZ.all fun q=>iA q.1 q.2)=true:=by kernel_rfl
theorem aBy:(iZ.all fun q=>aHl q.1 q.2)=true:=by kernel_rfl
theorem oC{d p a b:Nat}(hq:(d,p)∈iZ)(ha:a<2 ^ d)(hb:b<2 ^ d):mulN p a b<2 ^ d∧mulN p a b=mulN p b a:=by
 have h1:=List.all_eq_true.1 (List.all_eq_true.1 (List.all_eq_true.1 adx _ hq) a (List.mem_range.2 ha)) b (List.mem_range.2 hb)
 rw [Bool.and_eq_true] at h1
 exact ⟨Nat.le_of_ble_eq_true h1.1,Nat.eq_of_beq_eq_true h1.2⟩
theorem adz{d p a:Nat}(hq:(d,p)∈iZ)(ha:a<2 ^ d):mulN p a 1=a∧mulN p a 0=0:=by
 have h1:=List.all_eq_true.1 (List.all_eq_true.1 aBy _ hq) a (List.mem_range.2 ha)
 rw [Bool.and_eq_true] at h1
 exact ⟨Nat.eq_of_beq_eq_true h1.1,Nat.eq_of_beq_eq_true h1.2⟩
theorem Fq{d p a:Nat}(hq:(d,p)∈iZ)(ha:a<2 ^ d):au6 d (mulN p a):=by
 refine aEy (adz hq ha).2 fun b i hb hi=>?_
 have h1:=List.all_eq_true.1 (List.all_eq_true.1 (List.all_eq_true.1 (List.all_eq_true.1 ayt _ hq) a (List.mem_range.2 ha)) b (List.mem_range.2 hb)) i (List.mem_range.2 hi)
 exact Nat.eq_of_beq_eq_true h1
theorem ZQ{d p b:Nat}(hq:(d,p)∈iZ)(hb:b<2 ^ d):au6 d (fun a=>mulN p a b):=by
 intro x y hx hy
 show mulN p (x^^^y) b=mulN p x b^^^mulN p y b
 rw [(oC hq (Nat.xor_lt_two_pow hx hy) hb).2,Fq hq hb x y hx hy,(oC hq hx hb).2,(oC hq hy hb).2]
theorem alL{d p a b c:Nat}(hq:(d,p)∈iZ)(ha:a<2 ^ d)(hb:b<2 ^ d)(hc:c<2 ^ d):mulN p (mulN p a b) c=mulN p a (mulN p b c):=by
 have hpow:∀i,i<d→2 ^ i<2 ^ d:=fun i hi=>Nat.pow_lt_pow_right (by omega) hi
 have k1:∀i,i<d→∀b,b<2 ^ d→mulN p (mulN p a b) (2 ^ i)=mulN p a (mulN p b (2 ^ i)):=by
  intro i hi
  refine axv (g:=fun b=>mulN p (mulN p a b) (2 ^ i)) (h:=fun b=>mulN p a (mulN p b (2 ^ i))) ?_ ?_ ?_
  ·intro x y hx hy
   show mulN p (mulN p a (x^^^y)) (2 ^ i)=_
   rw [Fq hq ha x y hx hy]
   exact ZQ hq (hpow i hi) _ _ (oC hq ha hx).1 (oC hq ha hy).1
  ·intro x y hx hy
   show mulN p a (mulN p (x^^^y) (2 ^ i))=_
   rw [show mulN p (x^^^y) (2 ^ i)=_ from ZQ hq (hpow i hi) x y hx hy]
   exact Fq hq ha _ _ (oC hq hx (hpow i hi)).1 (oC hq hy (hpow i hi)).1
  ·intro j hj
   have h1:=List.all_eq_true.1 (List.all_eq_true.1 (List.all_eq_true.1 (List.all_eq_true.1 avh _ hq) a (List.mem_range.2 ha)) j (List.mem_range.2 hj)) i (List.mem_range.2 hi)
   exact Nat.eq_of_beq_eq_true h1
 refine axv (g:=fun c=>mulN p (mulN p a b) c) (h:=fun c=>mulN p a (mulN p b c)) ?_ ?_ (fun i hi=>k1 i hi b hb) c hc
 ·exact Fq hq (oC hq ha hb).1
 ·intro x y hx hy
  show mulN p a (mulN p b (x^^^y))=_
  rw [Fq hq hb x y hx hy]
  exact Fq hq ha _ _ (oC hq hb hx).1 (oC hq hb hy).1
theorem aqn{f:TF3}(hf:aO f=true):∃d p:Nat,(d,p)∈iZ∧f=((d:Int),(p:Int),())∧∀a,inF f a→∃m:Nat,a=(m:Int)∧m<2 ^ d∧m<2 ^ 63:=by
 obtain ⟨d,p,hq,rfl⟩:=CS hf
 refine ⟨d,p,hq,rfl,fun a ha=>?_⟩
 obtain ⟨m,e,h1,h2⟩:=D9 hf ha
 exact ⟨m,e,by simpa using h1,h2⟩
theorem Bh{d p m n:Nat}:gH ((d:Int),(p:Int),()) (m:Int) (n:Int)=((mulN p m n:Nat):Int):=by
 unfold gH
 simp only [Int.toNat_natCast]
theorem vQ{f:TF3}(hf:aO f=true){a b:Int}(ha:inF f a)(hb:inF f b):inF f (gH f a b):=(Dp hf ha hb).1
theorem iP{f:TF3}(hf:aO f=true){a b:Int}(ha:inF f a)(hb:inF f b):gH f a b=gH f b a:=(Dp hf ha hb).2
theorem aEs{d p:Nat}(hq:(d,p)∈iZ){x:Nat}(h:x<2 ^ d):x<2 ^ 63:=by
 have:∀q∈iZ,q.1≤5:=by decide
 have h5:=this _ hq
 have:2 ^ d≤2 ^ 5:=Nat.pow_le_pow_right (by omega) h5
 omega
theorem alK{f:TF3}(hf:aO f=true){a b c:Int}(ha:inF f a)(hb:inF f b)(hc:inF f c):gH f a (iD .i64 b c)=iD .i64 (gH f a b) (gH f a c):=by
 obtain ⟨d,p,hq,rfl,hn⟩:=aqn hf
 obtain ⟨x,rfl,hx,hx6⟩:=hn a ha
 obtain ⟨y,rfl,hy,hy6⟩:=hn b hb
 obtain ⟨z,rfl,hz,hz6⟩:=hn c hc
 rw [mV hy6 hz6,Bh,Bh,Bh,mV (aEs hq (oC hq hx hy).1) (aEs hq (oC hq hx hz).1),Fq hq hx y z hy hz]
theorem abq{f:TF3}(hf:aO f=true){a b c:Int}(ha:inF f a)(hb:inF f b)(hc:inF f c):gH f (gH f a b) c=gH f a (gH f b c):=by
 obtain ⟨d,p,hq,rfl,hn⟩:=aqn hf
 obtain ⟨x,rfl,hx,hx6⟩:=hn a ha
 obtain ⟨y,rfl,hy,hy6⟩:=hn b hb
 obtain ⟨z,rfl,hz,hz6⟩:=hn c hc
 rw [Bh,Bh,Bh,Bh,alL hq hx hy hz]
theorem ady{f:TF3}(hf:aO f=true){a:Int}(ha:inF f a):gH f a 1=a:=by
 obtain ⟨d,p,hq,rfl,hn⟩:=aqn hf
 obtain ⟨x,rfl,hx,hx6⟩:=hn a ha
 rw [show (1:Int)=((1:Nat):Int) from rfl,Bh,(adz hq hx).1]
theorem sw{f:TF3}(hf:aO f=true){a:Int}(ha:inF f a):gH f a 0=0:=by
 obtain ⟨d,p,hq,rfl,hn⟩:=aqn hf
 obtain ⟨x,rfl,hx,hx6⟩:=hn a ha
 rw [show (0:Int)=((0:Nat):Int) from rfl,Bh,(adz hq hx).2]
theorem Yy{f:TF3}(hf:aO f=true){a b:Int}(ha:inF f a)(hb:inF f b):iD .i64 a b=iD .i64 b a:=by
 obtain ⟨x,rfl,_,hx⟩:=D9 hf ha
 obtain ⟨y,rfl,_,hy⟩:=D9 hf hb
 rw [mV hx hy,mV hy hx,Nat.xor_comm]
theorem y7{f:TF3}(hf:aO f=true){a b c:Int}(ha:inF f a)(hb:inF f b)(hc:inF f c):iD .i64 (iD .i64 a b) c=iD .i64 a (iD .i64 b c):=by
 obtain ⟨x,rfl,hx1,hx⟩:=D9 hf ha
 obtain ⟨y,rfl,hy1,hy⟩:=D9 hf hb
 obtain ⟨z,rfl,hz1,hz⟩:=D9 hf hc
 rw [mV hx hy,mV hy hz,mV (Nat.xor_lt_two_pow hx hy) hz,mV hx (Nat.xor_lt_two_pow hy hz),Nat.xor_assoc]
theorem Qd{f:TF3}(hf:aO f=true){a:Int}(ha:inF f a):iD .i64 a 0=a:=by
 rw [Yy hf ha gK,qA hf ha]
theorem Qc{f:TF3}(hf:aO f=true){a:Int}(ha:inF f a):iD .i64 a a=0:=by
 obtain ⟨x,rfl,_,hx⟩:=D9 hf ha
 rw [mV hx hx,Nat.xor_self]
 rfl
-- shared
structure FO where
 q:Nat
 dg:Nat
 mul:Nat→Nat→Nat
 hq:1<q
 hd:1≤dg
 lt:∀a b,mul a b<q
 xlt:∀a b,a<q→b<q→a^^^b<q
 comm:∀a b,mul a b=mul b a
 assoc:∀a b c,mul (mul a b) c=mul a (mul b c)
 add:∀a b c,mul a (b^^^c)=mul a b^^^mul a c
 one:∀a,a<q→mul a 1=a
 inv:∀a,a<q→a≠0→∃b,b<q∧mul a b=1
namespace FO
variable (F : FO)
theorem mul_zero(a:Nat):F.mul a 0=0:=by
 have:=F.add a 0 0
 rw [Nat.xor_self,Nat.xor_self] at this
 exact this
theorem zero_mul(a:Nat):F.mul 0 a=0:=by rw [F.comm,F.mul_zero]
theorem az1(a b c:Nat):F.mul (a^^^b) c=F.mul a c^^^F.mul b c:=by rw [F.comm,F.add,F.comm c a,F.comm c b]
theorem nz{a b:Nat}(ha:a<F.q)(hb:b<F.q)(h:F.mul a b=0):a=0∨b=0:=by
 by_cases h0:a=0
 ·exact .inl h0
 ·right
  obtain ⟨c,hc,h1⟩:=F.inv a ha h0
  rw [←F.one b hb,←h1,F.comm,F.comm a c,F.assoc,h,F.mul_zero]
theorem zlt:0<F.q:=Nat.lt_trans Nat.zero_lt_one F.hq
def sq(a:Nat):Nat:=F.mul a a
theorem aB3(a:Nat):F.sq a<F.q:=F.lt a a
theorem Iq:F.sq 0=0:=F.mul_zero 0
theorem aFQ(a b c:Nat):(a^^^b)^^^(b^^^c)=a^^^c:=by rw [Nat.xor_assoc,←Nat.xor_assoc b b c,Nat.xor_self,Nat.zero_xor]
theorem am8(a b:Nat):F.sq (a^^^b)=F.sq a^^^F.sq b:=by
 unfold sq
 rw [F.add,F.az1,F.az1,F.comm b a,aFQ]
theorem aB4(a b:Nat):F.sq (F.mul a b)=F.mul (F.sq a) (F.sq b):=by
 unfold sq
 rw [F.assoc a b (F.mul a b),←F.assoc b a b,F.comm b a,F.assoc a b b,←F.assoc a a]
theorem aFK{a:Nat}(ha:a<F.q)(h:F.sq a=0):a=0:=(F.nz ha ha h).elim id id
def sqn:Nat→Nat→Nat
 |0,a=>a
 |k+1,a=>sqn k (F.sq a)
theorem NR:∀(k:Nat){a:Nat},a<F.q→F.sqn k a<F.q:=by
 intro k
 induction k with
 |zero=>intro a h;exact h
 |succ k ih=>intro a _;exact ih (F.aB3 a)
theorem auX:∀(k:Nat),F.sqn k 0=0:=by
 intro k
 induction k with
 |zero=>rfl
 |succ k ih=>unfold sqn;rw [F.Iq];exact ih
theorem aDM:∀(k:Nat){a:Nat},a<F.q→F.sqn k a=0→a=0:=by
 intro k
 induction k with
 |zero=>intro a _ h;exact h
 |succ k ih=>intro a ha h;exact F.aFK ha (ih (F.aB3 a) h)
theorem ajX:∀(i j a:Nat),F.sqn (i+j) a=F.sqn j (F.sqn i a):=by
 intro i
 induction i with
 |zero=>intro j a;rw [Nat.zero_add];rfl
 |succ i ih=>intro j a;rw [show i+1+j=(i+j)+1 by omega];exact ih j (F.sq a)
theorem auW(k a:Nat):F.sqn (k+1) a=F.sq (F.sqn k a):=F.ajX k 1 a
def lp:List Nat→Nat→Nat
 |[],_=>0
 |c::p,x=>F.mul c x^^^lp p (F.sq x)
theorem awj:∀(p:List Nat)(x y:Nat),F.lp p (x^^^y)=F.lp p x^^^F.lp p y:=by
 intro p
 induction p with
 |nil=>intro x y;simp [lp]
 |cons c p ih=>
  intro x y
  simp only [lp]
  rw [F.add,F.am8,ih]
  ac_rfl
theorem axy:∀(p:List Nat),F.lp p 0=0:=by
 intro p
 induction p with
 |nil=>rfl
 |cons c p ih=>simp only [lp];rw [F.mul_zero,F.Iq,ih];rfl
theorem atC:∀(p:List Nat)(x:Nat),F.lp p x<F.q:=by
 intro p
 induction p with
 |nil=>intro x;exact F.zlt
 |cons c p ih=>intro x;exact F.xlt _ _ (F.lt _ _) (ih _)
def KF:Nat→List Nat→List Nat×Nat
 |_,[]=>([],0)
 |_,[c]=>([],c)
 |g,c::d::ps=>((KF (F.sq g) (d::ps)).2::(KF (F.sq g) (d::ps)).1,c^^^F.mul (KF (F.sq g) (d::ps)).2 g)
theorem aAl:∀(p:List Nat)(g:Nat),p≠[]→(F.KF g p).1.length+1=p.length:=by
 intro p
 induction p with
 |nil=>intro g h;exact absurd rfl h
 |cons c p ih=>
  intro g _
  cases p with
  |nil=>rfl
  |cons d ps=>
   have:=ih (F.sq g) (by simp)
   simp only [KF,List.length_cons] at this ⊢
   omega
theorem axc:∀(p:List Nat)(g x:Nat),F.lp p x=F.lp (F.KF g p).1 (F.sq x^^^F.mul g x)^^^F.mul (F.KF g p).2 x:=by
 intro p
 induction p with
 |nil=>intro g x;simp only [KF,lp];rw [F.zero_mul];rfl
 |cons c p ih=>
  intro g x
  cases p with
  |nil=>simp only [KF,lp];rw [Nat.xor_zero,Nat.zero_xor]
  |cons d ps=>
   have h:=ih (F.sq g) (F.sq x)
   have h1:F.sq (F.sq x^^^F.mul g x)=F.sq (F.sq x)^^^F.mul (F.sq g) (F.sq x):=by rw [F.am8,F.aB4]
   show F.mul c x^^^F.lp (d::ps) (F.sq x)=(F.mul (F.KF (F.sq g) (d::ps)).2 (F.sq x^^^F.mul g x)^^^F.lp (F.KF (F.sq g) (d::ps)).1 (F.sq (F.sq x^^^F.mul g x)))^^^F.mul (c^^^F.mul (F.KF (F.sq g) (d::ps)).2 g) x
   rw [h,h1,F.add,F.az1,F.assoc]
   generalize F.lp (F.KF (F.sq g) (d::ps)).1 _=A
   generalize F.mul (F.KF (F.sq g) (d::ps)).2 (F.sq x)=B
   generalize F.mul (F.KF (F.sq g) (d::ps)).2 (F.mul g x)=D
   generalize F.mul c x=E
   calc E^^^(A^^^B)=(B^^^A^^^E)^^^0:=by rw [Nat.xor_zero];ac_rfl
    _=(B^^^A^^^E)^^^(D^^^D):=by rw [Nat.xor_self]
    _=B^^^D^^^A^^^(E^^^D):=by ac_rfl
theorem ayu:∀(p:List Nat)(g:Nat),(∀y∈(F.KF g p).1,y=0)→(F.KF g p).2=0→∀y∈p,y=0:=by
 intro p
 induction p with
 |nil=>intro g _ _ y hy;cases hy
 |cons c p ih=>
  intro g h1 h2
  cases p with
  |nil=>intro y hy;rw [List.mem_singleton.1 hy];exact h2
  |cons d ps=>
   simp only [KF] at h1 h2
   have h3:=h1 _ (List.mem_cons_self ..)
   have h4:=ih (F.sq g) (fun y hy=>h1 y (List.mem_cons_of_mem _ hy)) h3
   rw [h3,F.zero_mul,Nat.xor_zero] at h2
   intro y hy
   rcases List.mem_cons.1 hy with rfl|hy
   ·exact h2
   ·exact h4 y hy
theorem aCC:∀(p:List Nat)(g:Nat),(∀y∈p,y<F.q)→(F.KF g p).2<F.q∧∀y∈(F.KF g p).1,y<F.q:=by
 intro p
 induction p with
 |nil=>intro g _;exact ⟨F.zlt,fun y hy=>by cases hy⟩
 |cons c p ih=>
  intro g h
  cases p with
  |nil=>exact ⟨h c (List.mem_cons_self ..),fun y hy=>by cases hy⟩
  |cons d ps=>
   have:=ih (F.sq g) fun y hy=>h y (List.mem_cons_of_mem _ hy)
   refine ⟨F.xlt _ _ (h c (List.mem_cons_self ..)) (F.lt _ _),fun y hy=>?_⟩
   rcases List.mem_cons.1 hy with rfl|hy
   ·exact this.1
   ·exact this.2 y hy
def lQ:List Bool→List Nat→Nat
 |b::bs,x::xs=>(bif b then x else 0)^^^lQ bs xs
 |_,_=>0
def uD(xs:List Nat):Prop:=∀bs:List Bool,bs.length=xs.length→lQ bs xs=0→∀b∈bs,b=false
theorem am2{φ:Nat→Nat}(h0:φ 0=0)(hφ:∀a b,φ (a^^^b)=φ a^^^φ b):∀(bs:List Bool)(xs:List Nat),lQ bs (xs.map φ)=φ (lQ bs xs):=by
 intro bs
 induction bs with
 |nil=>intro xs;cases xs<;>exact h0.symm
 |cons b bs ih=>
  intro xs
  cases xs with
  |nil=>exact h0.symm
  |cons x xs=>
   simp only [List.map_cons,lQ]
   rw [ih,hφ]
   cases b
   ·simp only [cond_false];rw [h0]
   ·rfl
theorem ab4:∀(n:Nat)(xs:List Nat),lQ (List.replicate n false) xs=0:=by
 intro n
 induction n with
 |zero=>intro xs;cases xs<;>rfl
 |succ n ih=>
  intro xs
  cases xs with
  |nil=>rfl
  |cons x xs=>simp only [List.replicate_succ,lQ,cond_false];rw [ih];rfl
theorem aDm:∀(bs:List Bool)(xs:List Nat),(∀x∈xs,x<F.q)→lQ bs xs<F.q:=by
 intro bs
 induction bs with
 |nil=>intro xs _;cases xs<;>exact F.zlt
 |cons b bs ih=>
  intro xs h
  cases xs with
  |nil=>exact F.zlt
  |cons x xs=>
   simp only [lQ]
   refine F.xlt _ _ ?_ (ih xs fun y hy=>h y (List.mem_cons_of_mem _ hy))
   cases b
   ·exact F.zlt
   ·exact h x (List.mem_cons_self ..)
theorem aib:∀(b1:List Bool)(x1:List Nat)(b2:List Bool)(x2:List Nat),b1.length=x1.length→lQ (b1++b2) (x1++x2)=lQ b1 x1^^^lQ b2 x2:=by
 intro b1
 induction b1 with
 |nil=>intro x1 b2 x2 h;cases x1 with
  |nil=>simp [lQ]
  |cons _ _=>simp at h
 |cons b b1 ih=>
  intro x1 b2 x2 h
  cases x1 with
  |nil=>simp at h
  |cons x x1=>
   simp only [List.cons_append,lQ]
   rw [ih x1 b2 x2 (by simpa using h),Nat.xor_assoc]
theorem uD.head{g:Nat}{gs:List Nat}(h:uD (g::gs)):g≠0:=by
 intro h0
 have:=h (true::List.replicate gs.length false) (by simp) (by simp only [lQ,cond_true];rw [ab4,h0];rfl) true (List.mem_cons_self ..)
 cases this
theorem uD.tail{g:Nat}{gs:List Nat}(h:uD (g::gs)):uD gs:=by
 intro bs hl hs b hb
 exact h (false::bs) (by simp [hl]) (by simp only [lQ,cond_false];rw [hs];rfl) b (List.mem_cons_of_mem _ hb)
theorem awk:∀(n:Nat)(gs p:List Nat),gs.length=n→p.length≤gs.length→(∀g∈gs,g<F.q)→(∀c∈p,c<F.q)→uD gs→(∀g∈gs,F.lp p g=0)→∀c∈p,c=0:=by
 intro n
 induction n with
 |zero=>
  intro gs p hn hl _ _ _ _ c hc
  rw [List.length_eq_zero_iff.1 (show p.length=0 by omega)] at hc
  cases hc
 |succ n ih=>
  intro gs p hn hl hg hp hi hr
  cases gs with
  |nil=>simp at hn
  |cons g gs=>
  simp only [List.length_cons,Nat.add_right_cancel_iff] at hn
  by_cases hp0:p=[]
  ·subst hp0;intro c hc;cases hc
  have hlen:=F.aAl p g hp0
  have hlt:=F.aCC p g hp
  have hg0:=hi.head
  have hgq:=hg g (List.mem_cons_self ..)
  have h1:=F.axc p g g
  rw [hr g (List.mem_cons_self ..),show F.sq g^^^F.mul g g=0 from Nat.xor_self _,F.axy,Nat.zero_xor] at h1
  have hc0:(F.KF g p).2=0:=(F.nz hlt.1 hgq h1.symm).resolve_right hg0
  have hφ0:(fun x=>F.sq x^^^F.mul g x) 0=0:=by show F.sq 0^^^F.mul g 0=0;rw [F.Iq,F.mul_zero];rfl
  have hφ:∀a b,(fun x=>F.sq x^^^F.mul g x) (a^^^b)=(fun x=>F.sq x^^^F.mul g x) a^^^(fun x=>F.sq x^^^F.mul g x) b:=by
   intro a b
   show F.sq (a^^^b)^^^F.mul g (a^^^b)=(F.sq a^^^F.mul g a)^^^(F.sq b^^^F.mul g b)
   rw [F.am8,F.add]
   ac_rfl
  refine F.ayu p g (ih (gs.map fun x=>F.sq x^^^F.mul g x) (F.KF g p).1 (by simpa using hn) ?_ ?_ hlt.2 ?_ ?_) hc0
  ·rw [List.length_map];simp only [List.length_cons] at hl;omega
  ·intro y hy
   obtain ⟨x,_,rfl⟩:=List.mem_map.1 hy
   exact F.xlt _ _ (F.aB3 x) (F.lt _ _)
  ·intro bs hbl hbs
   rw [List.length_map] at hbl
   rw [am2 hφ0 hφ] at hbs
   have hS:=F.aDm bs gs fun y hy=>hg y (List.mem_cons_of_mem _ hy)
   have h2:F.mul (lQ bs gs^^^g) (lQ bs gs)=0:=by rw [F.az1];exact hbs
   rcases F.nz (F.xlt _ _ hS hgq) hS h2 with h3|h3
   ·exfalso
    have:=hi (true::bs) (by simp [hbl]) (by simp only [lQ,cond_true];rw [Nat.xor_comm];exact h3) true (List.mem_cons_self ..)
    cases this
   ·exact hi.tail bs hbl h3
  ·intro y hy
   obtain ⟨x,hx,rfl⟩:=List.mem_map.1 hy
   have h2:=F.axc p g x
   rw [hr x (List.mem_cons_of_mem _ hx),hc0,F.zero_mul,Nat.xor_zero] at h2
   exact h2.symm
theorem aBg(gs p:List Nat)(hl:p.length≤gs.length)(hg:∀g∈gs,g<F.q)(hp:∀c∈p,c<F.q)(hi:uD gs)(h:∀g∈gs,F.lp p g=0):∀c∈p,c=0:=F.awk _ gs p rfl hl hg hp hi h
def Fe(us:List Nat)(v:Nat):Prop:=∃bs:List Bool,bs.length=us.length∧v=lQ bs us
theorem aBS:∀(b1 b2:List Bool)(us:List Nat),b1.length=us.length→b2.length=us.length→lQ (List.zipWith xor b1 b2) us=lQ b1 us^^^lQ b2 us:=by
 intro b1
 induction b1 with
 |nil=>intro b2 us h1 h2;cases us with
  |nil=>simp [lQ]
  |cons _ _=>simp at h1
 |cons b b1 ih=>
  intro b2 us h1 h2
  cases us with
  |nil=>simp at h1
  |cons u us=>
   cases b2 with
   |nil=>simp at h2
   |cons b' b2=>
    simp only [List.zipWith_cons_cons,lQ]
    rw [ih b2 us (by simpa using h1) (by simpa using h2)]
    have:(bif xor b b' then u else 0)=(bif b then u else 0)^^^(bif b' then u else 0):=by
     cases b<;>cases b'<;>simp
    rw [this]
    ac_rfl
theorem Fe.add{us:List Nat}{a b:Nat}(ha:Fe us a)(hb:Fe us b):Fe us (a^^^b):=by
 obtain ⟨b1,h1,rfl⟩:=ha
 obtain ⟨b2,h2,rfl⟩:=hb
 exact ⟨List.zipWith xor b1 b2,by simp [h1,h2],(aBS b1 b2 us h1 h2).symm⟩
theorem Fe.zero(us:List Nat):Fe us 0:=⟨List.replicate us.length false,by simp,(ab4 _ _).symm⟩
theorem Fe.cons{u:Nat}{us:List Nat}{v:Nat}(h:Fe (u::us) v):Fe us v∨Fe us (v^^^u):=by
 obtain ⟨bs,hl,rfl⟩:=h
 cases bs with
 |nil=>simp at hl
 |cons b bs=>
  simp only [List.length_cons,Nat.add_right_cancel_iff] at hl
  cases b
  ·left;exact ⟨bs,hl,by simp only [lQ,cond_false];rw [Nat.zero_xor]⟩
  ·right;exact ⟨bs,hl,by simp only [lQ,cond_true];rw [Nat.xor_comm u,Nat.xor_assoc,Nat.xor_self,Nat.xor_zero]⟩
theorem Fe.map{φ:Nat→Nat}(h0:φ 0=0)(hφ:∀a b,φ (a^^^b)=φ a^^^φ b){us:List Nat}{v:Nat}(h:Fe us v):Fe (us.map φ) (φ v):=by
 obtain ⟨bs,hl,rfl⟩:=h
 exact ⟨bs,by simpa using hl,(am2 h0 hφ bs us).symm⟩
theorem awN(ψ:Nat→Prop) [∀g,Decidable (ψ g)] (g0:Nat):∀(bs:List Bool)(gs:List Nat),bs.length=gs.length→∃b:Bool,lQ bs (gs.map fun g=>if ψ g then g else g^^^g0)=lQ (b::bs) (g0::gs):=by
 intro bs
 induction bs with
 |nil=>intro gs h;cases gs with
  |nil=>exact ⟨false,by simp [lQ]⟩
  |cons _ _=>simp at h
 |cons b bs ih=>
  intro gs h
  cases gs with
  |nil=>simp at h
  |cons g gs=>
   obtain ⟨b',hb'⟩:=ih gs (by simpa using h)
   simp only [List.map_cons,lQ] at hb' ⊢
   rw [hb']
   cases b
   ·exact ⟨b',by simp only [cond_false,Nat.zero_xor]⟩
   ·simp only [cond_true]
    by_cases hg:ψ g
    ·exact ⟨b',by rw [if_pos hg];ac_rfl⟩
    ·refine ⟨!b',?_⟩
     rw [if_neg hg]
     cases b'
     ·simp only [cond_false,Bool.not_false,cond_true,Nat.zero_xor];ac_rfl
     ·simp only [cond_true,Bool.not_true,cond_false,Nat.zero_xor]
      calc g^^^g0^^^(g0^^^lQ bs gs)=g^^^lQ bs gs^^^(g0^^^g0):=by ac_rfl
       _=g^^^lQ bs gs:=by rw [Nat.xor_self,Nat.xor_zero]
theorem aDK{φ:Nat→Nat}(hφ:∀a b,φ (a^^^b)=φ a^^^φ b)(u:Nat)(us:List Nat):∀gs:List Nat,(∀g∈gs,g<F.q)→(∀g∈gs,Fe (u::us) (φ g)) →
  ∃gs',gs.length≤gs'.length+1∧(∀g∈gs',g<F.q)∧(∀g∈gs',Fe us (φ g))∧∀zs,uD (zs++gs)→uD (zs++gs'):=by
 intro gs
 induction gs with
 |nil=>intro _ _;exact ⟨[],by simp,fun g hg=>absurd hg List.not_mem_nil,fun g hg=>absurd hg List.not_mem_nil,fun zs h=>h⟩
 |cons g0 gs ih=>
  intro hlt hs
  have hlt2:∀g∈gs,g<F.q:=fun g hg=>hlt g (List.mem_cons_of_mem _ hg)
  by_cases h0:Fe us (φ g0)
  ·obtain ⟨gs',h1,h2,h3,h4⟩:=ih hlt2 fun g hg=>hs g (List.mem_cons_of_mem _ hg)
   refine ⟨g0::gs',by simp only [List.length_cons];omega,fun g hg=>?_,fun g hg=>?_,fun zs hz=>?_⟩
   ·rcases List.mem_cons.1 hg with rfl|hg
    ·exact hlt _ (List.mem_cons_self ..)
    ·exact h2 g hg
   ·rcases List.mem_cons.1 hg with rfl|hg
    ·exact h0
    ·exact h3 g hg
   ·have:=h4 (zs++[g0]) (by simpa using hz)
    simpa using this
  ·have hu:=(hs g0 (List.mem_cons_self ..)).cons.resolve_left h0
   haveI:∀g,Decidable (Fe us (φ g)):=fun g=>Classical.propDecidable _
   refine ⟨gs.map fun g=>if Fe us (φ g) then g else g^^^g0,by simp,fun g hg=>?_,fun g hg=>?_,fun zs hz=>?_⟩
   ·obtain ⟨x,hx,rfl⟩:=List.mem_map.1 hg
    split
    ·exact hlt2 x hx
    ·exact F.xlt _ _ (hlt2 x hx) (hlt g0 (List.mem_cons_self ..))
   ·obtain ⟨x,hx,rfl⟩:=List.mem_map.1 hg
    split
    ·assumption
    ·rename_i hn
     have h1:=(hs x (List.mem_cons_of_mem _ hx)).cons.resolve_left hn
     rw [hφ]
     have h2:=h1.add hu
     rw [show φ x^^^u^^^(φ g0^^^u)=φ x^^^φ g0 from by
      calc φ x^^^u^^^(φ g0^^^u)=φ x^^^φ g0^^^(u^^^u):=by ac_rfl
       _=φ x^^^φ g0:=by rw [Nat.xor_self,Nat.xor_zero]] at h2
     exact h2
   ·intro bs hl hb b hbm
    simp only [List.length_append,List.length_map] at hl
    have hsp:bs=bs.take zs.length++bs.drop zs.length:=(List.take_append_drop _ _).symm
    have hl1:(bs.take zs.length).length=zs.length:=by rw [List.length_take];omega
    have hl2:(bs.drop zs.length).length=gs.length:=by rw [List.length_drop];omega
    rw [hsp,aib _ _ _ _ hl1] at hb
    obtain ⟨c,hc⟩:=awN (fun g=>Fe us (φ g)) g0 (bs.drop zs.length) gs hl2
    rw [hc,←aib _ _ _ _ hl1] at hb
    have hall:=hz _ (by simp [hl1,hl2]) hb
    rw [hsp] at hbm
    refine hall b ?_
    rcases List.mem_append.1 hbm with h|h
    ·exact List.mem_append.2 (.inl h)
    ·exact List.mem_append.2 (.inr (List.mem_cons_of_mem _ h))
theorem aFJ{φ:Nat→Nat}(hφ:∀a b,φ (a^^^b)=φ a^^^φ b):∀(us gs:List Nat),(∀g∈gs,g<F.q)→(∀g∈gs,Fe us (φ g))→uD gs →
  ∃hs,gs.length≤hs.length+us.length∧(∀h∈hs,h<F.q)∧(∀h∈hs,φ h=0)∧uD hs:=by
 intro us
 induction us with
 |nil=>
  intro gs hlt hs hi
  refine ⟨gs,by simp,hlt,fun g hg=>?_,hi⟩
  obtain ⟨bs,_,h⟩:=hs g hg
  rw [h]
  cases bs<;>rfl
 |cons u us ih=>
  intro gs hlt hs hi
  obtain ⟨gs',h1,h2,h3,h4⟩:=F.aDK hφ u us gs hlt hs
  obtain ⟨hs',k1,k2,k3,k4⟩:=ih gs' h2 h3 (h4 [] hi)
  exact ⟨hs',by simp only [List.length_cons];omega,k2,k3,k4⟩
theorem aBh{us gs p:List Nat}(hl:p.length+us.length≤gs.length)(hg:∀g∈gs,g<F.q)(hp:∀c∈p,c<F.q)(hi:uD gs)(h:∀g∈gs,Fe us (F.lp p g)):∀c∈p,c=0:=by
 obtain ⟨hs,h1,h2,h3,h4⟩:=F.aFJ (φ:=F.lp p) (F.awj p) us gs hg h hi
 exact F.aBg hs p (by omega) h2 hp h4 h3
end FO
-- shared
def cf(p:List Nat)(i:Nat):Nat:=p.getD i 0
theorem zX(i:Nat):cf [] i=0:=by simp [cf]
theorem Ql(a:Nat)(p:List Nat):cf (a::p) 0=a:=by simp [cf]
theorem qH(a:Nat)(p:List Nat)(i:Nat):cf (a::p) (i+1)=cf p i:=by simp [cf]
theorem aoM{p:List Nat}{i:Nat}(h:p.length≤i):cf p i=0:=by
 unfold cf
 rw [List.getD_eq_getElem?_getD,List.getElem?_eq_none h];rfl
theorem az8{p:List Nat}(h:∀i,cf p i=0):∀c∈p,c=0:=by
 intro c hc
 obtain ⟨i,hi⟩:=List.getElem?_of_mem hc
 have:=h i
 unfold cf at this
 rw [List.getD_eq_getElem?_getD,hi] at this
 exact this
theorem ayo{p:List Nat}(h:∀c∈p,c=0)(i:Nat):cf p i=0:=by
 unfold cf
 rw [List.getD_eq_getElem?_getD]
 cases hi:p[i]? with
 |none=>rfl
 |some c=>exact h c (List.mem_of_getElem? hi)
theorem apR{g:Nat→Nat}(h0:g 0=0)(p:List Nat)(i:Nat):cf (p.map g) i=g (cf p i):=by
 unfold cf
 rw [List.getD_eq_getElem?_getD,List.getD_eq_getElem?_getD,List.getElem?_map]
 cases p[i]? with
 |none=>exact h0.symm
 |some c=>rfl
theorem avm:∀{p q:List Nat},p.length=q.length→(∀i,cf p i=cf q i)→p=q:=by
 intro p
 induction p with
 |nil=>intro q h _;exact (List.length_eq_zero_iff.1 h.symm).symm
 |cons a p ih=>
  intro q h hc
  cases q with
  |nil=>simp at h
  |cons b q=>
   have h0:=hc 0
   rw [Ql,Ql] at h0
   rw [h0,ih (by simpa using h) fun i=>by have:=hc (i+1);rwa [qH,qH] at this]
def jL:List Nat→List Nat→List Nat
 |[],q=>q
 |a::p,[]=>a::p
 |a::p,b::q=>(a^^^b)::jL p q
theorem aj8(p:List Nat):jL p []=p:=by cases p<;>rfl
theorem NV:∀(p q:List Nat),(jL p q).length=max p.length q.length:=by
 intro p
 induction p with
 |nil=>intro q;simp [jL]
 |cons a p ih=>
  intro q
  cases q with
  |nil=>simp [jL]
  |cons b q=>simp only [jL,List.length_cons,ih];omega
theorem DI:∀(p q:List Nat)(i:Nat),cf (jL p q) i=cf p i^^^cf q i:=by
 intro p
 induction p with
 |nil=>intro q i;rw [zX,Nat.zero_xor];rfl
 |cons a p ih=>
  intro q i
  cases q with
  |nil=>rw [zX,Nat.xor_zero];rfl
  |cons b q=>
   cases i with
   |zero=>rfl
   |succ i=>simp only [jL,qH];exact ih q i
def dh:List Nat→List Nat
 |[]=>[]
 |a::p=>match dh p with
  |[]=>if a=0 then [] else [a]
  |b::q=>a::b::q
theorem jI:∀(p:List Nat)(i:Nat),cf (dh p) i=cf p i:=by
 intro p
 induction p with
 |nil=>intro i;rfl
 |cons a p ih=>
  intro i
  unfold dh
  cases ht:dh p with
  |nil=>
   rw [ht] at ih
   simp only
   split
   ·rename_i h
    subst h
    cases i with
    |zero=>rfl
    |succ i=>rw [qH,←ih i,zX,zX]
   ·cases i with
    |zero=>rfl
    |succ i=>rw [qH,qH,←ih i]
  |cons b q=>
   rw [ht] at ih
   simp only
   cases i with
   |zero=>rfl
   |succ i=>rw [qH,qH,←ih i]
theorem vk:∀(p:List Nat),dh p≠[]→cf (dh p) ((dh p).length-1)≠0:=by
 intro p
 induction p with
 |nil=>intro h;exact absurd rfl h
 |cons a p ih=>
  unfold dh
  cases ht:dh p with
  |nil=>
   simp only
   split
   ·intro h;exact absurd rfl h
   ·rename_i h;intro _;exact h
  |cons b q=>
   rw [ht] at ih
   intro _
   have:=ih (by simp)
   simp only [List.length_cons,Nat.add_sub_cancel] at this ⊢
   rw [qH];exact this
theorem lC:∀(p:List Nat),(dh p).length≤p.length:=by
 intro p
 induction p with
 |nil=>exact Nat.le_refl _
 |cons a p ih=>
  unfold dh
  cases ht:dh p with
  |nil=>
   simp only
   split<;>simp
  |cons b q=>rw [ht] at ih;simp only [List.length_cons] at ih ⊢;omega
theorem apG{p:List Nat}(h:∀i,cf p i=0):dh p=[]:=by
 apply Classical.byContradiction
 intro hn
 exact vk p hn (by rw [jI];exact h _)
theorem ag8{p q:List Nat}(hp:p≠[]→cf p (p.length-1)≠0)(hq:q≠[]→cf q (q.length-1)≠0)(h:∀i,cf p i=cf q i):p=q:=by
 have key:∀{p q:List Nat},(p≠[]→cf p (p.length-1)≠0)→(∀i,cf p i=cf q i)→p.length≤q.length:=by
  intro p q hp h
  by_cases hn:p=[]
  ·subst hn;exact Nat.zero_le _
  ·have:=hp hn
   have hl:0<p.length:=List.length_pos_iff.2 hn
   apply Classical.byContradiction
   intro hlt
   rw [h,aoM (by omega)] at this
   exact this rfl
 exact avm (Nat.le_antisymm (key hp h) (key hq fun i=>(h i).symm)) h
def sQ(k:Nat)(p:List Nat):List Nat:=p++List.replicate (k-p.length) 0
theorem aw8(k:Nat)(p:List Nat)(i:Nat):cf (sQ k p) i=cf p i:=by
 unfold sQ cf
 rw [List.getD_eq_getElem?_getD,List.getD_eq_getElem?_getD]
 by_cases h:i<p.length
 ·rw [List.getElem?_append_left h]
 ·rw [List.getElem?_append_right (by omega),List.getElem?_eq_none (l:=p) (by omega),List.getElem?_replicate]
  split<;>rfl
theorem adE{k:Nat}{p:List Nat}(h:p.length≤k):(sQ k p).length=k:=by simp [sQ];omega
theorem RJ{k:Nat}{m:List Nat}(h:m.length=k):sQ k (dh m)=m:=by
 have:=lC m
 exact avm (by rw [adE (by omega),h]) fun i=>by rw [aw8,jI]
namespace FO
variable (F : FO)
theorem axw:∀(p q:List Nat)(x:Nat),F.lp (jL p q) x=F.lp p x^^^F.lp q x:=by
 intro p
 induction p with
 |nil=>intro q x;simp [jL,lp]
 |cons a p ih=>
  intro q x
  cases q with
  |nil=>simp [jL,lp]
  |cons b q=>
   simp only [jL,lp]
   rw [F.az1,ih]
   ac_rfl
def fO:List Nat→(Nat→Nat)→Nat→Nat
 |[],_,_=>0
 |v::vs,x,i=>F.mul v (x i)^^^(match i with
  |0=>0
  |i+1=>fO vs (fun j=>F.sq (x j)) i)
def uK:List Nat→List Nat→List Nat
 |[],_=>[]
 |v::vs,m=>jL (m.map (F.mul v)) (0::uK vs (m.map F.sq))
theorem U7:∀(V m:List Nat)(i:Nat),cf (F.uK V m) i=F.fO V (cf m) i:=by
 intro V
 induction V with
 |nil=>intro m i;exact zX i
 |cons v vs ih=>
  intro m i
  simp only [uK,fO]
  rw [DI,apR (F.mul_zero v)]
  cases i with
  |zero=>rfl
  |succ i=>
   rw [qH,ih]
   rw [show cf (m.map F.sq)=fun j=>F.sq (cf m j) from funext fun j=>apR F.Iq m j]
theorem afa:∀(V m:List Nat),V≠[]→m≠[]→(F.uK V m).length+1=V.length+m.length:=by
 intro V
 induction V with
 |nil=>intro m h;exact absurd rfl h
 |cons v vs ih=>
  intro m _ hm
  have hl:0<m.length:=List.length_pos_iff.2 hm
  simp only [uK]
  rw [NV,List.length_map,List.length_cons]
  by_cases hv:vs=[]
  ·subst hv;simp only [uK,List.length_nil,List.length_cons];omega
  ·have:=ih (m.map F.sq) hv (by simpa using hm)
   rw [List.length_map] at this
   simp only [List.length_cons];omega
theorem ajK:∀{p q:List Nat},(∀c∈p,c<F.q)→(∀c∈q,c<F.q)→∀c∈jL p q,c<F.q:=by
 intro p
 induction p with
 |nil=>intro q _ hq;exact hq
 |cons a p ih=>
  intro q hp hq
  cases q with
  |nil=>exact hp
  |cons b q=>
   intro c hc
   rcases List.mem_cons.1 hc with rfl|hc
   ·exact F.xlt _ _ (hp _ (List.mem_cons_self ..)) (hq _ (List.mem_cons_self ..))
   ·exact ih (fun c hc=>hp c (List.mem_cons_of_mem _ hc)) (fun c hc=>hq c (List.mem_cons_of_mem _ hc)) c hc
theorem asc:∀(V m:List Nat),∀c∈F.uK V m,c<F.q:=by
 intro V
 induction V with
 |nil=>intro m c hc;cases hc
 |cons v vs ih=>
  intro m
  refine F.ajK (fun c hc=>?_) (fun c hc=>?_)
  ·obtain ⟨x,_,rfl⟩:=List.mem_map.1 hc
   exact F.lt _ _
  ·rcases List.mem_cons.1 hc with rfl|hc
   ·exact F.zlt
   ·exact ih _ c hc
theorem azb(v:Nat):∀(m:List Nat)(x:Nat),F.lp (m.map (F.mul v)) x=F.mul v (F.lp m x):=by
 intro m
 induction m with
 |nil=>intro x;exact (F.mul_zero v).symm
 |cons c m ih=>
  intro x
  simp only [List.map_cons,lp]
  rw [ih,F.add,F.assoc]
theorem aBi:∀(m:List Nat)(x:Nat),F.lp (m.map F.sq) (F.sq x)=F.sq (F.lp m x):=by
 intro m
 induction m with
 |nil=>intro x;exact F.Iq.symm
 |cons c m ih=>
  intro x
  simp only [List.map_cons,lp]
  rw [ih,F.am8,F.aB4]
theorem aBf:∀(V m:List Nat)(x:Nat),F.lp (F.uK V m) x=F.lp V (F.lp m x):=by
 intro V
 induction V with
 |nil=>intro m x;rfl
 |cons v vs ih=>
  intro m x
  simp only [uK]
  rw [F.axw,F.azb]
  simp only [lp]
  rw [F.zero_mul,Nat.zero_xor,ih,F.aBi]
theorem aoO:∀(V:List Nat)(x y:Nat→Nat)(i:Nat),F.fO V (fun j=>x j^^^y j) i=F.fO V x i^^^F.fO V y i:=by
 intro V
 induction V with
 |nil=>intro x y i;simp [fO]
 |cons v vs ih=>
  intro x y i
  simp only [fO]
  rw [F.add]
  cases i with
  |zero=>simp
  |succ i=>
   simp only
   rw [show (fun j=>F.sq (x j^^^y j))=fun j=>F.sq (x j)^^^F.sq (y j) from funext fun j=>F.am8 _ _,ih]
   ac_rfl
theorem aoP:∀(V:List Nat)(d:Nat)(x:Nat→Nat)(j:Nat),V.length≤d+1→(∀i,j<i→x i=0)→F.fO V x (d+j)=F.mul (cf V d) (F.sqn d (x j)):=by
 intro V
 induction V with
 |nil=>intro d x j _ _;rw [zX,F.zero_mul];rfl
 |cons v vs ih=>
  intro d x j hl hx
  cases d with
  |zero=>
   have:vs=[]:=by simpa using hl
   subst this
   rw [Nat.zero_add,Ql]
   simp only [fO,sqn]
   cases j with
   |zero=>simp
   |succ j=>simp
  |succ d=>
   rw [show d+1+j=d+j+1 by omega]
   simp only [fO]
   rw [hx _ (by omega),F.mul_zero,Nat.zero_xor,ih d (fun i=>F.sq (x i)) j (by simpa using hl) (fun i hi=>by rw [hx i hi,F.Iq]),qH]
   rfl
theorem ae9(V:List Nat):∀(x:Nat→Nat)(j i:Nat),(∀i,j≤i→x i=0)→V.length+j≤i+1→F.fO V x i=0:=by
 induction V with
 |nil=>intro x j i _ _;rfl
 |cons v vs ih=>
  intro x j i hx hi
  simp only [List.length_cons] at hi
  simp only [fO]
  rw [hx i (by omega),F.mul_zero,Nat.zero_xor]
  cases i with
  |zero=>rfl
  |succ i=>exact ih _ j i (fun i hi=>by rw [hx i hi,F.Iq]) (by omega)
theorem aAg{V x:List Nat}(hV:∀c∈V,c<F.q)(hx:∀c∈x,c<F.q)(hn:V≠[])(hl:cf V (V.length-1)≠0)(h:∀i,V.length-1≤i→F.fO V (cf x) i=0):∀i,cf x i=0:=by
 have hvl:0<V.length:=List.length_pos_iff.2 hn
 have hlt:∀{l:List Nat},(∀c∈l,c<F.q)→∀i,cf l i<F.q:=by
  intro l hl i
  unfold cf
  rw [List.getD_eq_getElem?_getD]
  cases hi:l[i]? with
  |none=>exact F.zlt
  |some c=>exact hl c (List.mem_of_getElem? hi)
 have key:dh x=[]:=by
  apply Classical.byContradiction
  intro hne
  have ht:=vk x hne
  rw [jI] at ht
  have htop:=F.aoP V (V.length-1) (cf x) ((dh x).length-1) (by omega) (fun i hi=>by rw [←jI];exact aoM (by omega))
  rw [h _ (by omega)] at htop
  rcases F.nz (hlt hV _) (F.NR _ (hlt hx _)) htop.symm with h0|h0
  ·exact hl h0
  ·exact ht (F.aDM _ (hlt hx _) h0)
 intro i
 rw [←jI,key,zX]
end FO
-- shared
def BQ(M k:Nat):List Int:=(List.replicate M 0).set k 1
def okV(f:TF3)(M:Nat)(r:List Int):Prop:=r.length=M∧∀y∈r,inF f y
theorem Qb{f:TF3}(hf:aO f=true)(M k:Nat):okV f M (BQ M k):=by
 refine ⟨by simp [BQ],fun y hy=>?_⟩
 rcases List.mem_or_eq_of_mem_set hy with h|rfl
 ·rw [(List.mem_replicate.1 h).2];exact gK
 ·exact aqo hf
theorem aCs{f:TF3}(M:Nat):okV f M (List.replicate M 0):=⟨by simp,fun y hy=>by rw [(List.mem_replicate.1 hy).2];exact gK⟩
def lS(f:TF3):List Int→List Int→Int
 |x::u,y::w=>iD .i64 (gH f x y) (lS f u w)
 |_,_=>0
theorem Ht{f:TF3}(hf:aO f=true):∀{u w:List Int},(∀x∈u,inF f x)→(∀x∈w,inF f x)→inF f (lS f u w):=by
 intro u
 induction u with
 |nil=>intro w _ _;exact gK
 |cons x u ih=>
  intro w hu hw
  cases w with
  |nil=>exact gK
  |cons y w=>exact LQ hf (vQ hf (hu x (List.mem_cons_self ..)) (hw y (List.mem_cons_self ..))) (ih (fun z hz=>hu z (List.mem_cons_of_mem _ hz)) fun z hz=>hw z (List.mem_cons_of_mem _ hz))
theorem Ya{f:TF3}(hf:aO f=true):∀{u w:List Int},(∀x∈u,inF f x)→(∀x∈w,inF f x)→lS f u w=lS f w u:=by
 intro u
 induction u with
 |nil=>intro w _ _;cases w<;>rfl
 |cons x u ih=>
  intro w hu hw
  cases w with
  |nil=>rfl
  |cons y w=>
   simp only [lS]
   rw [iP hf (hu x (List.mem_cons_self ..)) (hw y (List.mem_cons_self ..)),ih (fun z hz=>hu z (List.mem_cons_of_mem _ hz)) fun z hz=>hw z (List.mem_cons_of_mem _ hz)]
theorem aHn{f:TF3}(hf:aO f=true){a b c d:Int}(ha:inF f a)(hb:inF f b)(hc:inF f c)(hd:inF f d):iD .i64 (iD .i64 a b) (iD .i64 c d)=iD .i64 (iD .i64 a c) (iD .i64 b d):=by
 rw [y7 hf ha hb (LQ hf hc hd),←y7 hf hb hc hd,Yy hf hb hc,y7 hf hc hb hd,←y7 hf ha hc (LQ hf hb hd)]
theorem ayE{f:TF3}(hf:aO f=true){c:Int}(hc:inF f c):∀{u v w:List Int},u.length=v.length→(∀x∈u,inF f x)→(∀x∈v,inF f x)→(∀x∈w,inF f x)→lS f (ae1 f u v c) w=iD .i64 (lS f u w) (gH f c (lS f v w)):=by
 intro u
 induction u with
 |nil=>
  intro v w hl _ _ _
  cases v with
  |nil=>simp only [ae1,List.zip_nil_left,List.map_nil,lS];rw [sw hf hc,qA hf gK]
  |cons y v=>simp at hl
 |cons x u ih=>
  intro v w hl hu hv hw
  cases v with
  |nil=>simp at hl
  |cons y v=>
   cases w with
   |nil=>simp only [lS,ae1,List.zip_cons_cons,List.map_cons];rw [sw hf hc,qA hf gK]
   |cons z w=>
    have hx:=hu x (List.mem_cons_self ..)
    have hy:=hv y (List.mem_cons_self ..)
    have hz:=hw z (List.mem_cons_self ..)
    have hu2:∀x∈u,inF f x:=fun z hz=>hu z (List.mem_cons_of_mem _ hz)
    have hv2:∀x∈v,inF f x:=fun z hz=>hv z (List.mem_cons_of_mem _ hz)
    have hw2:∀x∈w,inF f x:=fun z hz=>hw z (List.mem_cons_of_mem _ hz)
    have:=ih (by simpa using hl) hu2 hv2 hw2
    unfold ae1 at this
    simp only [ae1,List.zip_cons_cons,List.map_cons,lS]
    rw [this]
    have hd1:=Ht hf hu2 hw2
    have hd2:=Ht hf hv2 hw2
    have hyc:=vQ hf hy hc
    rw [alK hf hc (vQ hf hy hz) hd2]
    rw [iP hf (LQ hf hx hyc) hz,alK hf hz hx hyc,iP hf hz hx]
    rw [show gH f z (gH f y c)=gH f c (gH f y z) from by
     rw [iP hf hy hc,←abq hf hz hc hy,iP hf hz hc,abq hf hc hz hy,iP hf hz hy]]
    exact aHn hf (vQ hf hx hz) (vQ hf hc (vQ hf hy hz)) hd1 (vQ hf hc hd2)
theorem afe{f:TF3}(hf:aO f=true):∀{w:List Int}(n:Nat),(∀x∈w,inF f x)→lS f (List.replicate n 0) w=0:=by
 intro w n
 induction n generalizing w with
 |zero=>intro _;rfl
 |succ n ih=>
  intro hw
  cases w with
  |nil=>rfl
  |cons y w=>
   simp only [List.replicate_succ,lS]
   rw [ih fun z hz=>hw z (List.mem_cons_of_mem _ hz),iP hf gK (hw y (List.mem_cons_self ..)),sw hf (hw y (List.mem_cons_self ..)),qA hf gK]
theorem aoS{f:TF3}(hf:aO f=true):∀{w:List Int}(n k:Nat),(∀x∈w,inF f x)→n=w.length→k<n→lS f (BQ n k) w=w.getD k 0:=by
 intro w
 induction w with
 |nil=>intro n k _ h1 h2;simp at h1;omega
 |cons y w ih=>
  intro n k hw h1 h2
  simp only [List.length_cons] at h1
  subst h1
  have hy:=hw y (List.mem_cons_self ..)
  have hw2:∀x∈w,inF f x:=fun z hz=>hw z (List.mem_cons_of_mem _ hz)
  cases k with
  |zero=>
   simp only [BQ,List.replicate_succ,List.set_cons_zero,lS,List.getD_cons_zero]
   rw [afe hf _ hw2,iP hf (aqo hf) hy,ady hf hy,Qd hf hy]
  |succ k=>
   have:=ih w.length k hw2 rfl (by omega)
   unfold BQ at this
   simp only [BQ,List.replicate_succ,List.set_cons_succ,lS,List.getD_cons_succ]
   rw [this,iP hf gK hy,sw hf hy]
   refine qA hf ?_
   rw [List.getD_eq_getElem?_getD,List.getElem?_eq_getElem (by omega)]
   exact hw2 _ (List.getElem_mem _)
-- shared
def cell(L:List (List Int))(j c:Nat):Int:=(L.getD j []).getD c 0
theorem cell_of{L:List (List Int)}{j c:Nat}{r:List Int}{x:Int}(h:L[j]?=some r)(hx:r[c]?=some x):cell L j c=x:=by
 unfold cell;rw [sZ h,sZ hx]
theorem ar9{L:List (List Int)}{j c:Nat}{r:List Int}(h:L[j]?=some r):cell L j c=r.getD c 0:=by
 unfold cell;rw [sZ h]
theorem KZ{f:TF3}{n:Nat}{L:List (List Int)}(h:GR f n L)(j c:Nat):inF f (cell L j c):=by
 unfold cell
 cases hj:L[j]? with
 |none=>rw [List.getD_eq_getElem?_getD (l:=L),hj];exact gK
 |some r=>
  rw [sZ hj,List.getD_eq_getElem?_getD]
  cases hc:r[c]? with
  |none=>exact gK
  |some x=>exact (Ep h hj).2 x (List.mem_of_getElem? hc)
theorem apm{f:TF3}{n:Nat}{L:List (List Int)}(h:GR f n L){j c:Nat}(hc:c<n){r:List Int}(hr:L[j]?=some r):Dq c r = !decide (cell L j c=0):=by
 have hx:=List.getElem?_eq_getElem (show c<r.length by rw [(Ep h hr).1];exact hc)
 rw [cell_of hr hx]
 unfold Dq
 rw [hx]
theorem ata{α:Type}(p:α→Bool):∀(l:List α)(i:Nat){k:Nat},nI p i l=((i+k:Nat):Int)→∀j,j<k→∀x,l[j]?=some x→p x=false:=by
 intro l
 induction l with
 |nil=>intro i k h j hj x hx;simp at hx
 |cons y l ih=>
  intro i k h j hj x hx
  rcases Bool.eq_false_or_eq_true (p y) with hp|hp
  ·simp only [nI,hp,cond_true] at h;omega
  ·simp only [nI,hp,cond_false] at h
   cases j with
   |zero=>simp only [List.getElem?_cons_zero,Option.some.injEq] at hx;subst hx;exact hp
   |succ j=>exact ih (i+1) (k:=k-1) (by rw [h];congr 1;omega) j (by omega) x (by simpa using hx)
theorem Zq{f:TF3}(hf:aO f=true){n c:Nat}(hc:c<n){a:Nat}{L:List (List Int)}(h:GR f n L) :
  ((∀j,a≤j→j<L.length→cell L j c=0)∧iY f c (a,L)=(a,L)) ∨
  ∃(k:Nat) (G:List (List Int)),a≤k∧k<L.length∧cell L k c≠0∧(∀j,a≤j→j<k→cell L j c=0)∧iY f c (a,L)=(a+1,G)∧GR f n G∧G.length=L.length ∧
   (∀e,e<n→cell G a e=gH f (cell L k e) (zV f (cell L k c))) ∧
   ∀j,j<L.length→j≠a→∀e,e<n→cell G j e=iD .i64 (cell L (if j=k then a else j) e) (gH f (cell L (if j=k then a else j) c) (cell G a e)):=by
 have hok:=IK (c:=c) (s:=(a,L)) hf h
 rcases yT (Dq c) (L.drop a) a with ⟨h1,h2⟩|⟨k,row,h1,h2,h3⟩
 ·left
  refine ⟨fun j hj hl=>?_,?_⟩
  ·have hr:=List.getElem?_eq_getElem hl
   have hm:L[j]∈L.drop a:=by
    refine List.mem_of_getElem? (i:=j-a) ?_
    rw [List.getElem?_drop,show a+(j-a)=j by omega]
    exact hr
   have:=h2 _ hm
   rw [apm h hc hr] at this
   simpa using this
  ·unfold iY
   dsimp only
   rw [h1]
   rfl
 ·right
  have hak:L[a+k]?=some row:=by rw [←h1,List.getElem?_drop]
  have hlt:=(List.getElem?_eq_some_iff.1 hak).1
  obtain ⟨r0,hr0⟩:∃r0,L[a]?=some r0:=⟨_,List.getElem?_eq_getElem (by omega)⟩
  obtain ⟨x,hx,hx0⟩:=aqS h2
  have hxf:=(Ep h hak).2 x (List.mem_of_getElem? hx)
  have hrl:=(Ep h hak).1
  have hst:iY f c (a,L)=(a+1,FR f c a (UG f c (a+k) a L)):=by
   unfold iY
   dsimp only
   rw [h3,decide_eq_false (by omega),cond_false,Int.toNat_natCast]
  have hp:UG f c (a+k) a L=(L.set (a+k) r0).set a (row.map fun y=>gH f y (zV f x)):=by
   unfold UG ab3
   rw [hak,hr0]
   simp only [hx]
  have hpg:=ajU (c:=c) (k:=a+k) (a:=a) hf h
  have hpa:(UG f c (a+k) a L)[a]?=some (row.map fun y=>gH f y (zV f x)):=by rw [hp];exact List.getElem?_set_self (by simp;omega)
  have hcl:FR f c a (UG f c (a+k) a L)=(UG f c (a+k) a L).mapIdx (oM f c a (row.map fun y=>gH f y (zV f x))):=by
   unfold FR;rw [hpa]
  have hcg:=aoN (c:=c) (a:=a) hf hpg.1
  have hkc:cell L (a+k) c=x:=cell_of hak hx
  have hone:gH f x (zV f x)=1:=(uP hf hxf).2 hx0
  have hownc:(row.map fun y=>gH f y (zV f x))[c]?=some 1:=by rw [List.getElem?_map,hx,Option.map_some,hone]
  have hga:(FR f c a (UG f c (a+k) a L))[a]?=some (row.map fun y=>gH f y (zV f x)):=by
   rw [hcl,List.getElem?_mapIdx,hpa,Option.map_some]
   unfold oM
   rw [hownc]
   simp
  refine ⟨a+k,FR f c a (UG f c (a+k) a L),by omega,hlt,by rw [hkc];exact hx0,fun j h4 h5=>?_,hst,hcg.1,by rw [hcg.2,hpg.2],fun e he=>?_,fun j hj hja e he=>?_⟩
  ·-- those before the pivot
   have hr:=List.getElem?_eq_getElem (show j<L.length by omega)
   have hb:=ata (Dq c) (L.drop a) a h3 (j-a) (by omega) L[j] (by rw [List.getElem?_drop,show a+(j-a)=j by omega];exact hr)
   rw [apm h hc hr] at hb
   simpa using hb
  ·have hy:=List.getElem?_eq_getElem (show e<row.length by omega)
   rw [cell_of hak hy,hkc]
   exact cell_of hga (by rw [List.getElem?_map,hy];rfl)
  ·have hj0:(UG f c (a+k) a L)[j]?=L[if j=a+k then a else j]?:=by
    rw [hp,List.getElem?_set_ne (Ne.symm hja),List.getElem?_set]
    by_cases hjk:j=a+k
    ·rw [if_pos hjk.symm,if_pos hlt,if_pos hjk,hr0]
    ·rw [if_neg (Ne.symm hjk),if_neg hjk]
   obtain ⟨r,hr⟩:∃r,L[if j=a+k then a else j]?=some r:=⟨_,List.getElem?_eq_getElem (by split<;>omega)⟩
   rw [hr] at hj0
   obtain ⟨hrl2,hrf2⟩:=Ep h hr
   have hz:=List.getElem?_eq_getElem (show c<r.length by omega)
   have hy:=List.getElem?_eq_getElem (show e<r.length by omega)
   have hye:=List.getElem?_eq_getElem (show e<(row.map fun y=>gH f y (zV f x)).length by simp;omega)
   have hyf:=hrf2 _ (List.mem_of_getElem? hy)
   have hown:=(Ep hpg.1 hpa).2
   rw [cell_of hr hy,cell_of hr hz,cell_of hga hye]
   have hgj:(FR f c a (UG f c (a+k) a L))[j]?=some (oM f c a (row.map fun y=>gH f y (zV f x)) j r):=by
    rw [hcl,List.getElem?_mapIdx,hj0,Option.map_some]
   have hwe:=hown _ (List.mem_of_getElem? hye)
   unfold oM at hgj
   rw [hz] at hgj
   dsimp only at hgj
   rw [decide_eq_false hja,Bool.false_or] at hgj
   by_cases h0:r[c]=0
   ·rw [decide_eq_true h0,cond_true] at hgj
    rw [cell_of hgj hy,h0,iP hf gK hwe,sw hf hwe,Qd hf hyf]
   ·rw [decide_eq_false h0,cond_false] at hgj
    refine cell_of hgj ?_
    rw [List.getElem?_map]
    rw [show (r.zip (row.map fun y=>gH f y (zV f x)))[e]?=some (r[e],(row.map fun y=>gH f y (zV f x))[e]'(by simp;omega)) from List.getElem?_zip_eq_some.2 ⟨hy,hye⟩]
    rfl
-- shared
structure yI(f:TF3)(n c a:Nat)(L:List (List Int))(p:List Nat):Prop where
 gr:GR f n L
 ac:a≤c
 al:a≤L.length
 pl:p.length=a
 plt:∀q∈p,q<c
 pinc:p.Pairwise (· < ·)
 low:∀j,a≤j→j<L.length→∀e,e<c→cell L j e=0
 dia:∀i q,p[i]?=some q→∀j,j<L.length→cell L j q=if j=i then 1 else 0
 lead:∀i q,p[i]?=some q→∀e,e<q→cell L i e=0
 full:a=c→p=List.range c
theorem yI.start{f:TF3}{n:Nat}{L:List (List Int)}(h:GR f n L):yI f n 0 0 L []:=
 ⟨h,Nat.le_refl _,Nat.zero_le _,rfl,fun _ h=>absurd h List.not_mem_nil,List.Pairwise.nil,fun _ _ _ _ h=>absurd h (Nat.not_lt_zero _),fun i q h=>absurd h (by simp),fun i q h=>absurd h (by simp),fun _=>rfl⟩
theorem yI.step{f:TF3}(hf:aO f=true){n c a:Nat}{L:List (List Int)}{p:List Nat}(h:yI f n c a L p)(hc hn:c<n):∃p',yI f n (c+1) (iY f c (a,L)).1 (iY f c (a,L)).2 p'∧(iY f c (a,L)).2.length=L.length:=by
 rcases Zq hf hc (a:=a) h.gr with ⟨h1,h2⟩|⟨k,G,hak,hk,hx,_,h2,hg,hgl,hga,hgj⟩
 ·rw [h2]
  refine ⟨p,⟨h.gr,by have:=h.ac;omega,h.al,h.pl,fun q hq=>by have:=h.plt q hq;omega,h.pinc,fun j hj hl e he=>?_,h.dia,h.lead,fun hh=>by have:=h.ac;dsimp only at hh;omega⟩,rfl⟩
  by_cases hec:e=c
  ·subst hec;exact h1 j hj hl
  ·exact h.low j hj hl e (by omega)
 ·rw [h2]
  have hin:=KZ h.gr
  have hgin:=KZ hg
  have hxi:=uP hf (hin k c)
  have g1:cell G a c=1:=by rw [hga c hc];exact hxi.2 hx
  have g0:∀e,e<c→cell G a e=0:=by
   intro e he
   rw [hga e (by omega),h.low k hak hk e he,iP hf gK hxi.1,sw hf hxi.1]
  have gj0:∀j,j<L.length→j≠a→∀e,e<c→cell G j e=cell L (if j=k then a else j) e:=by
   intro j hj hja e he
   rw [hgj j hj hja e (by omega),g0 e he,sw hf (hin _ _),Qd hf (hin _ _)]
  have gjc:∀j,j<L.length→j≠a→cell G j c=0:=by
   intro j hj hja
   rw [hgj j hj hja c hc,g1,ady hf (hin _ _),Qc hf (hin _ _)]
  have hpa:∀i q,(p++[c])[i]?=some q→(p[i]?=some q∧i<a)∨(i=a∧q=c):=by
   intro i q hi
   rw [List.getElem?_append,h.pl] at hi
   by_cases hia:i<a
   ·rw [if_pos hia] at hi;exact .inl ⟨hi,hia⟩
   ·rw [if_neg hia] at hi
    have:=(List.getElem?_eq_some_iff.1 hi).1
    simp only [List.length_cons,List.length_nil] at this
    have hia2:i=a:=by omega
    subst hia2
    rw [Nat.sub_self] at hi
    exact .inr ⟨rfl,(Option.some.inj hi).symm⟩
  refine ⟨p++[c],⟨hg,by have:=h.ac;dsimp only;omega,by dsimp only;rw [hgl];omega,by simp [h.pl],fun q hq=>?_,?_,fun j hj hl e he=>?_,fun i q hi j hj=>?_,fun i q hi e he=>?_,fun hh=>?_⟩,hgl⟩
  ·rcases List.mem_append.1 hq with hq|hq
   ·have:=h.plt q hq;omega
   ·simp only [List.mem_singleton] at hq;omega
  ·refine List.pairwise_append.2 ⟨h.pinc,List.pairwise_singleton _ _,fun z hz y hy=>?_⟩
   rw [List.mem_singleton.1 hy];exact h.plt z hz
  ·rw [hgl] at hl
   dsimp only at hj
   by_cases hec:e=c
   ·subst hec;exact gjc j hl (by omega)
   ·rw [gj0 j hl (by omega) e (by omega)]
    exact h.low _ (by split<;>omega) (by split<;>omega) e (by omega)
  ·rw [hgl] at hj
   rcases hpa i q hi with ⟨hi,hia⟩|⟨rfl,rfl⟩
   ·have hqc:=h.plt q (List.mem_of_getElem? hi)
    by_cases hja:j=a
    ·subst hja;rw [g0 q hqc,if_neg (by omega)]
    ·rw [gj0 j hj hja q hqc,h.dia i q hi _ (by split<;>omega)]
     by_cases hjk:j=k
     ·rw [if_pos hjk,if_neg (by omega),if_neg (by omega)]
     ·rw [if_neg hjk]
   ·by_cases hja:j=i
    ·subst hja;rw [g1,if_pos rfl]
    ·rw [gjc j hj hja,if_neg hja]
  ·rcases hpa i q hi with ⟨hi,hia⟩|⟨rfl,rfl⟩
   ·have hqc:=h.plt q (List.mem_of_getElem? hi)
    rw [gj0 i (by have:=h.al;omega) (by omega) e (by omega),if_neg (by omega)]
    exact h.lead i q hi e he
   ·exact g0 e he
  ·dsimp only at hh
   rw [h.full (by omega),←List.range_succ]
theorem yI.from{f:TF3}(hf:aO f=true){n:Nat}:∀(m c a:Nat)(L:List (List Int))(p:List Nat),c+m≤n→yI f n c a L p→∃p',yI f n (c+m) (gT f c m (a,L)).1 (gT f c m (a,L)).2 p'∧(gT f c m (a,L)).2.length=L.length:=by
 intro m
 induction m with
 |zero=>intro c a L p _ h;exact ⟨p,h,rfl⟩
 |succ m ih=>
  intro c a L p hc h
  obtain ⟨p1,h1,hl1⟩:=h.step hf (by omega) (by omega)
  obtain ⟨p2,h2,hl2⟩:=ih (c+1) _ _ p1 (by omega) h1
  rw [show c+1+m=c+(m+1) by omega] at h2
  exact ⟨p2,h2,by rw [←hl1];exact hl2⟩
theorem yI.all{f:TF3}(hf:aO f=true){n m:Nat}{L:List (List Int)}(hm:m≤n)(h:GR f n L):∃p,yI f n m (gT f 0 m (0,L)).1 (gT f 0 m (0,L)).2 p∧(gT f 0 m (0,L)).2.length=L.length:=by
 have:=yI.from hf m 0 0 L [] (by omega) (yI.start h)
 rw [Nat.zero_add] at this
 exact this
section
variable {f : TF3} (hf : aO f = true) {n c : Nat} (hc : c < n) {x : List Int} (hx : ∀ y ∈ x, inF f y)
include hc
include hf hx
end
theorem ay9{l:List Int}(h:∀e,e<l.length→l.getD e 0=0):l=List.replicate l.length 0:=by
 apply List.ext_getElem?
 intro e
 rw [List.getElem?_replicate]
 by_cases he:e<l.length
 ·rw [if_pos he]
  have:=h e he
  rw [List.getD_eq_getElem?_getD,List.getElem?_eq_getElem he] at this
  rw [List.getElem?_eq_getElem he]
  exact congrArg some this
 ·rw [if_neg he,List.getElem?_eq_none (by omega)]
-- shared
theorem ajS{f:TF3}(hf:aO f=true){b:Int}(hb:inF f b):gH f 0 b=0:=by rw [iP hf gK hb,sw hf hb]
theorem awl{f:TF3}(hf:aO f=true){a b:Int}(ha:inF f a)(hb:inF f b)(h0:a≠0)(h:gH f b (zV f a)=0):b=0:=by
 obtain ⟨h1,h2⟩:=uP hf ha
 rw [←ady hf hb,←h2 h0,iP hf ha h1,←abq hf hb h1 ha,h,ajS hf ha]
theorem au8{f:TF3}{n:Nat}{u v w:List Int}{c:Int}(hu:okV f n u)(hv:okV f n v)(hw:okV f n w)(hf:aO f=true)(hc:inF f c)(h:∀e,e<n→w.getD e 0=iD .i64 (u.getD e 0) (gH f c (v.getD e 0))):w=ae1 f u v c:=by
 apply List.ext_getElem?
 intro e
 unfold ae1
 rw [List.getElem?_map]
 by_cases he:e<n
 ·have h1:=List.getElem?_eq_getElem (show e<w.length by rw [hw.1];exact he)
  have h2:=List.getElem?_eq_getElem (show e<u.length by rw [hu.1];exact he)
  have h3:=List.getElem?_eq_getElem (show e<v.length by rw [hv.1];exact he)
  have:=h e he
  rw [sZ h1,sZ h2,sZ h3] at this
  rw [h1,(List.getElem?_zip_eq_some (z:=(u[e]'(by rw [hu.1];exact he),v[e]'(by rw [hv.1];exact he)))).2 ⟨h2,h3⟩,this,iP hf hc (hv.2 _ (List.mem_of_getElem? h3))]
  rfl
 ·rw [List.getElem?_eq_none (by rw [hw.1];omega),List.getElem?_eq_none (l:=u.zip v) (by rw [List.length_zip,hu.1];omega)]
  rfl
theorem aks{f:TF3}{n:Nat}{u v w x:List Int}{c:Int}(hf:aO f=true)(hu:okV f n u)(hv:okV f n v)(hw:okV f n w)(hc:inF f c)(hx:∀y∈x,inF f y)(h:∀e,e<n→w.getD e 0=iD .i64 (u.getD e 0) (gH f c (v.getD e 0))):lS f w x=iD .i64 (lS f u x) (gH f c (lS f v x)):=by
 rw [au8 hu hv hw hf hc h,ayE hf hc (hu.1.trans hv.1.symm) hu.2 hv.2 hx]
theorem asw{f:TF3}(hf:aO f=true){n c:Nat}(hc:c<n){a:Nat}{L:List (List Int)}(h:GR f n L)(ha:a≤L.length){x:List Int}(hx:∀y∈x,inF f y) :
  (∀r∈(iY f c (a,L)).2,lS f r x=0) ↔ ∀r∈L,lS f r x=0:=by
 rcases Zq hf hc (a:=a) h with ⟨_,h2⟩|⟨k,G,hak,hk,hnz,_,h2,hg,hgl,hga,hgj⟩
 ·rw [h2]
 rw [h2]
 dsimp only
 have hrow:∀{M:List (List Int)},GR f n M→∀{j:Nat},j<M.length→okV f n (M.getD j [])∧M.getD j []∈M:=by
  intro M hM j hj
  have:=List.getElem?_eq_getElem hj
  rw [sZ this]
  exact ⟨Ep hM this,List.mem_of_getElem? this⟩
 have hal:a<G.length:=by omega
 have hkc:=KZ h k c
 obtain ⟨hi1,hi2⟩:=uP hf hkc
 have hGa:lS f (G.getD a []) x=gH f (lS f (L.getD k []) x) (zV f (cell L k c)):=by
  have h0:=aks (u:=List.replicate n 0) hf (aCs n) (hrow h hk).1 (hrow hg hal).1 hi1 hx (fun e he=>by
   have:(G.getD a []).getD e 0=gH f (cell L k e) (zV f (cell L k c)):=hga e he
   rw [this,iP hf (KZ h k e) hi1]
   rw [List.getD_eq_getElem?_getD (l:=List.replicate n (0:Int)),List.getElem?_replicate,if_pos he]
   simp only [Option.getD_some]
   exact (qA hf (vQ hf hi1 (KZ h k e))).symm)
  rw [h0,afe hf n hx,qA hf (vQ hf hi1 (Ht hf (hrow h hk).1.2 hx)),iP hf hi1 (Ht hf (hrow h hk).1.2 hx)]
 have hGj:∀j,j<L.length→j≠a→lS f (G.getD j []) x=iD .i64 (lS f (L.getD (if j=k then a else j) []) x) (gH f (cell L (if j=k then a else j) c) (lS f (G.getD a []) x)):=by
  intro j hj hja
  have hj':(if j=k then a else j)<L.length:=by split<;>omega
  exact aks hf (hrow h hj').1 (hrow hg hal).1 (hrow hg (by omega)).1 (KZ h _ c) hx fun e he=>hgj j hj hja e he
 constructor
 ·intro hk0 r hr
  have h1:lS f (G.getD a []) x=0:=hk0 _ (hrow hg hal).2
  have h2:lS f (L.getD k []) x=0:=awl hf hkc (Ht hf (hrow h hk).1.2 hx) hnz (hGa ▸ h1)
  obtain ⟨i,hi⟩:=List.getElem?_of_mem hr
  have hil:=(List.getElem?_eq_some_iff.1 hi).1
  rw [←sZ (d:=[]) hi]
  by_cases hik:i=k
  ·subst hik;exact h2
  ·obtain ⟨j,hj,hja,hji⟩:∃j,j<L.length∧j≠a∧(if j=k then a else j)=i:=by
    by_cases hia:i=a
    ·exact ⟨k,hk,by omega,by rw [if_pos rfl,hia]⟩
    ·exact ⟨i,hil,hia,by rw [if_neg hik]⟩
   have h3:=hGj j hj hja
   rw [hji,h1,sw hf (KZ h _ c),hk0 _ (hrow hg (by omega)).2] at h3
   rw [Qd hf (Ht hf (hrow h hil).1.2 hx)] at h3
   exact h3.symm
 ·intro hL r hr
  have h1:lS f (G.getD a []) x=0:=by rw [hGa,hL _ (hrow h hk).2,ajS hf hi1]
  obtain ⟨i,hi⟩:=List.getElem?_of_mem hr
  have hil:=(List.getElem?_eq_some_iff.1 hi).1
  rw [←sZ (d:=[]) hi]
  by_cases hia:i=a
  ·subst hia;exact h1
  ·have hj':(if i=k then a else i)<L.length:=by split<;>omega
   rw [hGj i (by omega) hia,h1,sw hf (KZ h _ c),hL _ (hrow h hj').2,Qc hf gK]
theorem asu{f:TF3}(hf:aO f=true){n:Nat}{x:List Int}(hx:∀y∈x,inF f y):∀(m c a:Nat)(L:List (List Int)),c+m≤n→GR f n L→a≤L.length →
  ((∀r∈(gT f c m (a,L)).2,lS f r x=0) ↔ ∀r∈L,lS f r x=0):=by
 intro m
 induction m with
 |zero=>intro c a L _ _ _;exact Iff.rfl
 |succ m ih=>
  intro c a L hc h ha
  have h1:=IK (c:=c) (s:=(a,L)) hf h ha
  unfold gT
  rw [show iY f c (a,L)=((iY f c (a,L)).1,(iY f c (a,L)).2) from rfl,ih (c+1) _ _ (by omega) h1.1 (by rw [h1.2.1];exact h1.2.2)]
  exact asw hf (by omega) h ha hx
theorem aku{f:TF3}(hf:aO f=true){n:Nat}{L:List (List Int)}(h:GR f n L){x:List Int}(hx:∀y∈x,inF f y):(∀r∈Eu f n L,lS f r x=0) ↔ ∀r∈L,lS f r x=0:=by
 rw [←asu hf hx n 0 0 L (by omega) h (Nat.zero_le _)]
 obtain ⟨p,hI,hl⟩:=yI.all hf (Nat.le_refl n) h
 unfold Eu
 generalize hs:gT f 0 n (0,L)=s at hI hl
 obtain ⟨a,G⟩:=s
 dsimp only at hI hl ⊢
 constructor
 ·intro h0 r hr
  obtain ⟨i,hi⟩:=List.getElem?_of_mem hr
  have hil:=(List.getElem?_eq_some_iff.1 hi).1
  by_cases hia:i<a
  ·exact h0 r (List.mem_of_getElem? (i:=i) (by rw [List.getElem?_take_of_lt hia];exact hi))
  ·have hz:r=List.replicate n 0:=by
    have hrl:=(Ep hI.gr hi).1
    have:=ay9 (l:=r) fun e he=>by
     have:=hI.low i (by omega) hil e (by omega)
     rwa [ar9 hi] at this
    rwa [hrl] at this
   rw [hz,afe hf n hx]
 ·intro h0 r hr
  exact h0 r (List.mem_of_mem_take hr)
theorem asr{f:TF3}(hf:aO f=true):∀{r x:List Int}{q:Nat}{v:Int},(∀y∈r,inF f y)→(∀y∈x,inF f y)→inF f v→r.length=x.length→lS f r (x.set q v)=iD .i64 (lS f r x) (gH f (r.getD q 0) (iD .i64 (x.getD q 0) v)):=by
 intro r
 induction r with
 |nil=>
  intro x q v _ hx hv hl
  have:x=[]:=List.length_eq_zero_iff.1 hl.symm
  subst this
  simp only [lS,List.getD_nil]
  rw [qA hf hv,ajS hf hv,Qc hf gK]
 |cons a r ih=>
  intro x q v hr hx hv hl
  cases x with
  |nil=>simp at hl
  |cons b x=>
   have ha:=hr a (List.mem_cons_self ..)
   have hb:=hx b (List.mem_cons_self ..)
   have hr':∀y∈r,inF f y:=fun y hy=>hr y (List.mem_cons_of_mem _ hy)
   have hx':∀y∈x,inF f y:=fun y hy=>hx y (List.mem_cons_of_mem _ hy)
   cases q with
   |zero=>
    simp only [List.set_cons_zero,lS,List.getD_cons_zero]
    have h1:=vQ hf ha hb
    have h2:=vQ hf ha hv
    have h3:=Ht hf hr' hx'
    rw [alK hf ha hb hv,Yy hf h1 h3,y7 hf h3 h1 (LQ hf h1 h2),←y7 hf h1 h1 h2,Qc hf h1,qA hf h2,Yy hf h2 h3]
   |succ q=>
    simp only [List.set_cons_succ,lS,List.getD_cons_succ]
    have h3:=Ht hf hr' hx'
    have hq:∀{l:List Int},(∀y∈l,inF f y)→inF f (l.getD q 0):=fun {l} hl=>by
     rw [List.getD_eq_getElem?_getD]
     cases hc:l[q]? with
     |none=>exact gK
     |some y=>exact hl y (List.mem_of_getElem? hc)
    have h4:=vQ hf (hq hr') (LQ hf (hq hx') hv)
    rw [ih hr' hx' hv (by simpa using hl),y7 hf (vQ hf ha hb) h3 h4]
def jk(c:Nat):List Int→List (Nat×List Int)→List Int
 |out,[]=>out
 |out,(q,row)::l=>jk c (out.set q (row.getD c 0)) l
theorem JH{f:TF3}{n c:Nat}:∀(l:List (Nat×List Int)){out:List Int},okV f n out→(∀p∈l,okV f n p.2)→okV f n (jk c out l):=by
 intro l
 induction l with
 |nil=>intro out h _;exact h
 |cons p l ih=>
  intro out h hp
  obtain ⟨q,row⟩:=p
  refine ih ⟨by rw [List.length_set];exact h.1,fun y hy=>?_⟩ fun p hp'=>hp p (List.mem_cons_of_mem _ hp')
  rcases List.mem_or_eq_of_mem_set hy with hy|rfl
  ·exact h.2 y hy
  ·have hrow:=hp _ (List.mem_cons_self ..)
   rw [List.getD_eq_getElem?_getD]
   cases hc:row[c]? with
   |none=>exact gK
   |some z=>exact hrow.2 z (List.mem_of_getElem? hc)
theorem adD{c:Nat}:∀(l:List (Nat×List Int)){out:List Int}{e:Nat},(∀p∈l,p.1≠e)→(jk c out l).getD e 0=out.getD e 0:=by
 intro l
 induction l with
 |nil=>intro out e _;rfl
 |cons p l ih=>
  intro out e h
  obtain ⟨q,row⟩:=p
  unfold jk
  rw [ih fun p hp=>h p (List.mem_cons_of_mem _ hp),List.getD_eq_getElem?_getD,List.getElem?_set_ne (h _ (List.mem_cons_self ..)),←List.getD_eq_getElem?_getD]
theorem adC{f:TF3}(hf:aO f=true){n c:Nat}{r:List Int}(hr:okV f n r):∀(l:List (Nat×List Int)){out:List Int},okV f n out→(∀p∈l,okV f n p.2∧r.getD p.1 0=0)→lS f r (jk c out l)=lS f r out:=by
 intro l
 induction l with
 |nil=>intro out _ _;rfl
 |cons p l ih=>
  intro out h hp
  obtain ⟨q,row⟩:=p
  have h1:=hp _ (List.mem_cons_self ..)
  have ho:=JH (c:=c) [(q,row)] h fun p hp=>by rw [List.mem_singleton.1 hp];exact h1.1
  show lS f r (jk c (out.set q (row.getD c 0)) l)=_
  have ho:okV f n (out.set q (row.getD c 0)):=ho
  rw [ih ho fun p hp'=>hp p (List.mem_cons_of_mem _ hp')]
  have hrow:inF f (row.getD c 0):=by
   rw [List.getD_eq_getElem?_getD]
   cases hc:row[c]? with
   |none=>exact gK
   |some z=>exact h1.1.2 z (List.mem_of_getElem? hc)
  have hoq:inF f (out.getD q 0):=by
   rw [List.getD_eq_getElem?_getD]
   cases hc:out[q]? with
   |none=>exact gK
   |some z=>exact h.2 z (List.mem_of_getElem? hc)
  rw [asr hf hr.2 h.2 hrow (hr.1.trans h.1.symm),h1.2,ajS hf (LQ hf hoq hrow),Qd hf (Ht hf hr.2 h.2)]
-- shared
theorem ahC(c:Nat):∀(l1 l2:List (Nat×List Int))(out:List Int),jk c out (l1++l2)=jk c (jk c out l1) l2:=by
 intro l1
 induction l1 with
 |nil=>intro l2 out;rfl
 |cons p l1 ih=>intro l2 out;obtain ⟨q,row⟩:=p;exact ih l2 _
theorem getD_in{f:TF3}{l:List Int}(h:∀y∈l,inF f y)(i:Nat):inF f (l.getD i 0):=by
 rw [List.getD_eq_getElem?_getD]
 cases hc:l[i]? with
 |none=>exact gK
 |some y=>exact h y (List.mem_of_getElem? hc)
theorem ani(n c e:Nat):(BQ n c).getD e 0=if c=e∧e<n then 1 else 0:=by
 unfold BQ
 rw [List.getD_eq_getElem?_getD,List.getElem?_set,List.length_replicate]
 split
 ·rename_i h;subst h
  split
  ·rename_i h;rw [if_pos ⟨rfl,h⟩];rfl
  ·rename_i h;rw [if_neg fun hh=>h hh.2];rfl
 ·rename_i h
  rw [if_neg fun hh=>h hh.1,List.getElem?_replicate]
  split<;>rfl
def Tm(n c:Nat)(p:List Nat)(E:List (List Int)):List Int:=jk c (BQ n c) (p.zip E)
section
variable {f : TF3} {n a : Nat} {G : List (List Int)} {p : List Nat}
theorem yI.row(h:yI f n n a G p){i:Nat}(hi:i<a):∃r,(G.take a)[i]?=some r∧okV f n r∧(∀e,r.getD e 0=cell G i e):=by
 have:=h.al
 have hr:=List.getElem?_eq_getElem (show i<G.length by omega)
 exact ⟨G[i],by rw [List.getElem?_take_of_lt hi];exact hr,Ep h.gr hr,fun e=>(ar9 hr).symm⟩
theorem yI.piv(h:yI f n n a G p){i:Nat}(hi:i<a):∃q,p[i]?=some q∧q<n:=by
 have hl:=h.pl
 have hq:=List.getElem?_eq_getElem (show i<p.length by omega)
 exact ⟨_,hq,h.plt _ (List.mem_of_getElem? hq)⟩
theorem yI.pne(h:yI f n n a G p){i j q q':Nat}(hi:p[i]?=some q)(hj:p[j]?=some q')(hij:i≠j):q≠q':=by
 obtain ⟨h1,rfl⟩:=List.getElem?_eq_some_iff.1 hi
 obtain ⟨h2,rfl⟩:=List.getElem?_eq_some_iff.1 hj
 rcases Nat.lt_or_gt_of_ne hij with hlt|hlt
 ·have:=List.pairwise_iff_getElem.1 h.pinc i j h1 h2 hlt;omega
 ·have:=List.pairwise_iff_getElem.1 h.pinc j i h2 h1 hlt;omega
theorem alN(hf:aO f=true)(h:yI f n n a G p)(c:Nat):okV f n (Tm n c p (G.take a)):=by
 refine JH _ (Qb hf n c) fun x hx=>?_
 have:=List.of_mem_zip (a:=x.1) (b:=x.2) hx
 exact h.gr _ (List.mem_of_mem_take this.2)
theorem atU(_:yI f n n a G p){c:Nat}(hc:c<n)(hp:c ∉ p):(Tm n c p (G.take a)).getD c 0=1:=by
 unfold Tm
 rw [adD _ fun x hx he=>hp (by have:=List.of_mem_zip (a:=x.1) (b:=x.2) hx;rw [←he];exact this.1),ani,if_pos ⟨rfl,hc⟩]
theorem apl(hf:aO f=true)(h:yI f n n a G p){c:Nat}(hc:c<n)(hp:c ∉ p):∀r∈G.take a,lS f r (Tm n c p (G.take a))=0:=by
 intro r hr
 have hal:=h.al
 have hpl:=h.pl
 obtain ⟨i,hi⟩:=List.getElem?_of_mem hr
 have hia:i<a:=by have:=(List.getElem?_eq_some_iff.1 hi).1;rw [List.length_take] at this;omega
 obtain ⟨r',hr',hrok,hcell⟩:=h.row hia
 rw [hi] at hr'
 obtain rfl:=Option.some.inj hr'
 obtain ⟨q,hq,hqn⟩:=h.piv hia
 have hz:(p.zip (G.take a))[i]?=some (q,r):=List.getElem?_zip_eq_some.2 ⟨hq,hi⟩
 obtain ⟨hzl,hzi⟩:=List.getElem?_eq_some_iff.1 hz
 have hsp:p.zip (G.take a)=(p.zip (G.take a)).take i++(q,r)::(p.zip (G.take a)).drop (i+1):=by
  rw [←hzi,←List.drop_eq_getElem_cons hzl,List.take_append_drop]
 have hel:∀{j:Nat}{x:Nat×List Int},(p.zip (G.take a))[j]?=some x→j≠i→okV f n x.2∧r.getD x.1 0=0∧x.1≠q:=by
  intro j x hx hj
  obtain ⟨x1,x2⟩:=x
  obtain ⟨h1,h2⟩:=List.getElem?_zip_eq_some.1 hx
  have hja:j<a:=by have:=(List.getElem?_eq_some_iff.1 h1).1;omega
  refine ⟨h.gr _ (List.mem_of_mem_take (List.mem_of_getElem? h2)),?_,h.pne h1 hq hj⟩
  rw [hcell,h.dia j x1 h1 i (by omega),if_neg fun hh=>hj hh.symm]
 have h1:∀x∈(p.zip (G.take a)).take i,okV f n x.2∧r.getD x.1 0=0∧x.1≠q:=by
  intro x hx
  obtain ⟨j,hj⟩:=List.getElem?_of_mem hx
  have hjl:=(List.getElem?_eq_some_iff.1 hj).1
  rw [List.length_take] at hjl
  rw [List.getElem?_take_of_lt (by omega)] at hj
  exact hel hj (by omega)
 have h2:∀x∈(p.zip (G.take a)).drop (i+1),okV f n x.2∧r.getD x.1 0=0∧x.1≠q:=by
  intro x hx
  obtain ⟨j,hj⟩:=List.getElem?_of_mem hx
  rw [List.getElem?_drop] at hj
  exact hel hj (by omega)
 have hu:=Qb hf n c
 have hcq:c≠q:=fun hh=>hp (hh ▸ List.mem_of_getElem? hq)
 unfold Tm
 rw [hsp,ahC]
 show lS f r (jk c ((jk c (BQ n c) ((p.zip (G.take a)).take i)).set q (r.getD c 0)) _)=0
 have ho1:=JH (c:=c) _ hu fun x hx=>(h1 x hx).1
 have ho2:okV f n ((jk c (BQ n c) ((p.zip (G.take a)).take i)).set q (r.getD c 0)):=by
  refine ⟨by rw [List.length_set];exact ho1.1,fun y hy=>?_⟩
  rcases List.mem_or_eq_of_mem_set hy with hy|rfl
  ·exact ho1.2 y hy
  ·exact getD_in hrok.2 c
 have hrq:r.getD q 0=1:=by rw [hcell,h.dia i q hq i (by omega),if_pos rfl]
 have hoq:(jk c (BQ n c) ((p.zip (G.take a)).take i)).getD q 0=0:=by
  rw [adD _ fun x hx=>(h1 x hx).2.2,ani,if_neg fun hh=>hcq hh.1]
 rw [adC hf hrok _ ho2 fun x hx=>⟨(h2 x hx).1,(h2 x hx).2.1⟩,asr hf hrok.2 ho1.2 (getD_in hrok.2 c) (hrok.1.trans ho1.1.symm),adC hf hrok _ hu fun x hx=>⟨(h1 x hx).1,(h1 x hx).2.1⟩,hrq,hoq,
  qA hf (getD_in hrok.2 c),iP hf (aqo hf) (getD_in hrok.2 c),ady hf (getD_in hrok.2 c),Ya hf hrok.2 hu.2,aoS hf n c hrok.2 hrok.1.symm hc,Qc hf (getD_in hrok.2 c)]
theorem yI.aqN(h:yI f n n a G p){i:Nat}(hi:i<a){r:List Int}(hr:(G.take a)[i]?=some r){q:Nat}(hq:p[i]?=some q):r[q]?=some 1∧∀e,e<q→r[e]?=some 0:=by
 obtain ⟨r',hr',hrok,hcell⟩:=h.row hi
 rw [hr] at hr'
 obtain rfl:=Option.some.inj hr'
 have hqn:=h.plt q (List.mem_of_getElem? hq)
 have hal:=h.al
 have hget:∀e,e<n→r[e]?=some (r.getD e 0):=fun e he=>by
  have:=List.getElem?_eq_getElem (show e<r.length by rw [hrok.1];exact he)
  rw [sZ this];exact this
 exact ⟨by rw [hget q hqn,hcell,h.dia i q hq i (by omega),if_pos rfl],fun e he=>by rw [hget e (by omega),hcell,h.lead i q hq e he]⟩
end
def apH(f:TF3)(n:Nat)(L:List (List Int))(x:List Int):Prop:=okV f n x∧(∃q,x.getD q 0≠0)∧∀r∈L,lS f r x=0
theorem apH.aBx{f:TF3}(hf:aO f=true){n:Nat}{L:List (List Int)}(h:GR f n L){x:List Int}(hx:apH f n (Eu f n L) x):apH f n L x:=⟨hx.1,hx.2.1,(aku hf h hx.1.2).1 hx.2.2⟩
theorem aDa{f:TF3}(hf:aO f=true){n:Nat}{E D:List (List Int)}(hE:GR f n E)(hD:GR f n D)(h:∀r∈E,∀y∈D,lS f r y=0){c:Nat}(hc:c<n){d:List Int}(hd:d∈D)(hdc:d.getD c 0=1):∃x,(Eu f n D)[0]?=some x∧apH f n E x:=by
 obtain ⟨p,hI,hl⟩:=yI.all hf (Nat.le_refl n) hD
 have hlen:=akv hf (m:=n) hD
 have hgr:=aCE hf (m:=n) hD
 have hpos:0<(Eu f n D).length:=by
  apply Classical.byContradiction
  intro hn
  have he:Eu f n D=[]:=List.length_eq_zero_iff.1 (by omega)
  have:=(aku hf hD (Qb hf n c).2).1 (by rw [he];intro r hr;cases hr) d hd
  rw [Ya hf (hD d hd).2 (Qb hf n c).2,aoS hf n c (hD d hd).2 (hD d hd).1.symm hc,hdc] at this
  cases this
 have h0:=List.getElem?_eq_getElem hpos
 refine ⟨_,h0,hgr _ (List.mem_of_getElem? h0),?_,fun r hr=>?_⟩
 ·obtain ⟨q,hq,_⟩:=hI.piv (i:=0) (by omega)
  have:=(hI.aqN (i:=0) (by omega) (r:=(Eu f n D)[0]) h0 hq).1
  exact ⟨q,by rw [sZ this];decide⟩
 ·have hrok:=hE r hr
  have h2:=(aku hf hD hrok.2).2 (fun y hy=>by rw [Ya hf (hD y hy).2 hrok.2];exact h r hr y hy) _ (List.mem_of_getElem? h0)
  rw [Ya hf hrok.2 (hgr _ (List.mem_of_getElem? h0)).2];exact h2
theorem asG{n:Nat}{p:List Nat}(_:p.Pairwise (· < ·))(hl:p.length<n):∃c,c<n∧c ∉ p:=by
 apply Classical.byContradiction
 intro hn
 have hall:∀c,c<n→c∈p:=fun c hc=>Classical.byContradiction fun h=>hn ⟨c,hc,h⟩
 have hsub:List.range n ⊆ p:=fun c hc=>hall c (List.mem_range.1 hc)
 have hd:(List.range n).Nodup:=List.nodup_range
 have:=List.Nodup.length_le_of_subset hd hsub
 rw [List.length_range] at this
 omega
theorem cO{σ β:Type}{step:σ→Tre (σ ⊕ β)}(st:Nat→σ)(n:Nat)(b:β)(hs:∀i,i<n→(step (st i)).run some=some (.inl (st (i+1))))(he:(step (st n)).run some=some (.inr b)):aL step (st 0)=some b:=by
 have key:∀m i,i+m=n→aL step (st i)=some b:=by
  intro m
  induction m with
  |zero=>intro i hi;have hi:i=n:=hi;subst hi;exact fE he
  |succ m ih=>intro i hi;rw [lJ (hs i (by omega))];exact ih (i+1) (by omega)
 exact key n 0 (by omega)
def aW(l:List Nat):List Int:=l.map fun x:Nat=>(x:Int)
theorem aY(l:List Nat):(aW l).length=l.length:=by unfold aW;exact List.length_map _
theorem dX{l:List Nat}{i x:Nat}(h:l[i]?=some x):(aW l)[i]?=some (x:Int):=by
 unfold aW;rw [List.getElem?_map,h];rfl
theorem alO{c:Nat}{E:List (List Int)}{out:List Int}{q:Nat}{row:List Int}{p:List Nat}{i:Nat}(h1:p[i]?=some q)(h2:E[i]?=some row):jk c out ((p.zip E).take (i+1))=(jk c out ((p.zip E).take i)).set q (row.getD c 0):=by
 rw [List.take_add_one,List.getElem?_zip_eq_some.2 (show p[i]?=some (q,row).1∧E[i]?=some (q,row).2 from ⟨h1,h2⟩),ahC]
 rfl
-- shared
def aDL(p:Nat):Nat→Nat→Nat
 |0,a=>a
 |k+1,a=>aDL p k (mulN p a a)
def aGR(d p:Nat):Bool:=(List.range (2 ^ d)).all fun a=>Nat.beq (aDL p d a) a
theorem ayN:(iZ.all fun q=>aGR q.1 q.2)=true:=by kernel_rfl
theorem aqs{d p a:Nat}(hq:(d,p)∈iZ)(ha:a<2 ^ d)(h0:a≠0):sO d p a<2 ^ d∧mulN p a (sO d p a)=1:=by
 have h:=List.all_eq_true.1 (List.all_eq_true.1 adb (d,p) hq) a (List.mem_range.2 ha)
 rw [Bool.and_eq_true,Bool.or_eq_true] at h
 exact ⟨by simpa [Nat.blt_eq] using h.1,(h.2.resolve_left fun h=>h0 (Nat.eq_of_beq_eq_true h)) |> Nat.eq_of_beq_eq_true⟩
theorem L6{a d:Nat}:a%2 ^ d<2 ^ d:=Nat.mod_lt _ (Nat.two_pow_pos d)
theorem one_mod{d:Nat}(hd:1≤d):1%2 ^ d=1:=Nat.mod_eq_of_lt (Nat.lt_of_lt_of_le (by decide:1<2 ^ 1) (Nat.pow_le_pow_right (by decide) hd))
theorem aaD{d p:Nat}(hq:(d,p)∈iZ):1≤d∧d≤5:=by
 have:∀q∈iZ,1≤q.1∧q.1≤5:=by decide
 exact this _ hq
def foN(d p:Nat)(hq:(d,p)∈iZ):FO where
 q:=2 ^ d
 dg:=d
 mul:=fun a b=>mulN p (a%2 ^ d) (b%2 ^ d)
 hq:=Nat.lt_of_lt_of_le (by decide:1<2 ^ 1) (Nat.pow_le_pow_right (by decide) (aaD hq).1)
 hd:=(aaD hq).1
 lt:=fun a b=>(oC hq L6 L6).1
 xlt:=fun a b ha hb=>Nat.xor_lt_two_pow ha hb
 comm:=fun a b=>(oC hq L6 L6).2
 assoc:=fun a b c=>by rw [Nat.mod_eq_of_lt (oC hq L6 L6).1,Nat.mod_eq_of_lt (oC hq (a:=b%2 ^ d) (b:=c%2 ^ d) L6 L6).1];exact alL hq L6 L6 L6
 add:=fun a b c=>by rw [Nat.xor_mod_two_pow];exact Fq hq L6 _ _ L6 L6
 one:=fun a ha=>by rw [Nat.mod_eq_of_lt ha,one_mod (aaD hq).1];exact (adz hq ha).1
 inv:=fun a ha h0=>⟨sO d p a,(aqs hq ha h0).1,by rw [Nat.mod_eq_of_lt ha,Nat.mod_eq_of_lt (aqs hq ha h0).1];exact (aqs hq ha h0).2⟩
theorem akz{f:TF3}(hf:aO f=true):(f.1.toNat,f.2.1.toNat)∈iZ∧f=((f.1.toNat:Int),(f.2.1.toNat:Int),()):=by
 obtain ⟨d,p,hq,rfl⟩:=CS hf
 exact ⟨hq,rfl⟩
def FOf(f:TF3)(hf:aO f=true):FO:=foN f.1.toNat f.2.1.toNat (akz hf).1
section
variable {f : TF3} (hf : aO f = true)
theorem aj2:(FOf f hf).q=2 ^ f.1.toNat:=rfl
theorem ZJ{x:Int}:inF f x ↔ ∃n:Nat,x=(n:Int)∧n<(FOf f hf).q:=by
 unfold inF
 rw [aj2]
 constructor
 ·intro h;exact ⟨x.toNat,by omega,by omega⟩
 ·rintro ⟨n,rfl,h⟩;exact ⟨by omega,by exact_mod_cast h⟩
theorem F63{n:Nat}(h:n<(FOf f hf).q):n<2 ^ 63:=by
 rw [aj2] at h
 have:=Nat.pow_le_pow_right (show 0<2 by decide) (show f.1.toNat≤63 by have:=(K5 hf).2;omega)
 omega
theorem aqR{a b:Nat}(ha:a<(FOf f hf).q)(hb:b<(FOf f hf).q):gH f (a:Int) (b:Int)=(((FOf f hf).mul a b:Nat):Int):=by
 rw [aj2] at ha hb
 unfold gH FOf foN
 simp only [Int.toNat_natCast]
 rw [Nat.mod_eq_of_lt ha,Nat.mod_eq_of_lt hb]
theorem ab8{a b:Nat}(ha:a<(FOf f hf).q)(hb:b<(FOf f hf).q):iD .i64 (a:Int) (b:Int)=((a^^^b:Nat):Int):=mV (F63 hf ha) (F63 hf hb)
theorem aFe{a:Nat}(ha:a<(FOf f hf).q):∃b:Nat,zV f (a:Int)=(b:Int)∧b<(FOf f hf).q∧(a≠0→(FOf f hf).mul a b=1):=by
 obtain ⟨h1,h2⟩:=uP hf ((ZJ hf).2 ⟨a,rfl,ha⟩)
 obtain ⟨b,hb,hbl⟩:=(ZJ hf).1 h1
 refine ⟨b,hb,hbl,fun h0=>?_⟩
 have:=h2 (by omega)
 rw [hb,aqR hf ha hbl] at this
 omega
theorem aB6{d p:Nat}(hq:(d,p)∈iZ):∀(k:Nat){a:Nat},a<2 ^ d→(foN d p hq).sqn k a=aDL p k a:=by
 intro k
 induction k with
 |zero=>intro a _;rfl
 |succ k ih=>
  intro a ha
  have hs:(foN d p hq).sq a=mulN p a a:=by
   show mulN p (a%2 ^ d) (a%2 ^ d)=_
   rw [Nat.mod_eq_of_lt ha]
  show (foN d p hq).sqn k ((foN d p hq).sq a)=aDL p k (mulN p a a)
  rw [hs,ih (oC hq ha ha).1]
theorem aAL{a:Nat}(ha:a<(FOf f hf).q):(FOf f hf).sqn f.1.toNat a=a:=by
 have hq:=(akz hf).1
 rw [aj2] at ha
 unfold FOf
 rw [aB6 hq _ ha]
 exact Nat.eq_of_beq_eq_true (List.all_eq_true.1 (List.all_eq_true.1 ayN _ hq) a (List.mem_range.2 ha))
theorem aAM{a:Nat}(ha:a<(FOf f hf).q):∀j:Nat,(FOf f hf).sqn (f.1.toNat*j) a=a:=by
 intro j
 induction j with
 |zero=>rfl
 |succ j ih=>rw [Nat.mul_succ,FO.ajX,ih];exact aAL hf ha
theorem aeR{a:Nat}(ha:a<(FOf f hf).q)(k:Nat):(FOf f hf).sqn (k%f.1.toNat) a=(FOf f hf).sqn k a:=by
 have h:=Nat.div_add_mod k f.1.toNat
 have h2:(FOf f hf).sqn (f.1.toNat*(k/f.1.toNat)+k%f.1.toNat) a=(FOf f hf).sqn (k%f.1.toNat) a:=by
  rw [FO.ajX,aAM hf ha]
 rw [h] at h2
 exact h2.symm
end
def inL(F:FO)(l:List Nat):Prop:=∀x∈l,x<F.q
theorem ajQ{f:TF3}(hf:aO f=true){l:List Int}(h:∀x∈l,inF f x):∃L,l=aW L∧inL (FOf f hf) L:=by
 induction l with
 |nil=>exact ⟨[],rfl,fun x hx=>absurd hx List.not_mem_nil⟩
 |cons x l ih=>
  obtain ⟨L,rfl,hL⟩:=ih fun y hy=>h y (List.mem_cons_of_mem _ hy)
  obtain ⟨n,rfl,hn⟩:=(ZJ hf).1 (h x (List.mem_cons_self ..))
  refine ⟨n::L,rfl,fun y hy=>?_⟩
  rcases List.mem_cons.1 hy with rfl|hy
  ·exact hn
  ·exact hL y hy
theorem aC8{f:TF3}(hf:aO f=true){L:List Nat}(h:inL (FOf f hf) L):∀x∈aW L,inF f x:=by
 intro x hx
 obtain ⟨n,hn,rfl⟩:=List.mem_map.1 hx
 exact (ZJ hf).2 ⟨n,rfl,h n hn⟩
theorem ac9{F:FO}{a b:List Nat}(ha:inL F a)(hb:inL F b):inL F (a++b):=fun x hx=>(List.mem_append.1 hx).elim (ha x) (hb x)
theorem uO{F:FO}{l:List Nat}(h:inL F l):inL F (dh l):=by
 intro x hx
 obtain ⟨i,hi⟩:=List.getElem?_of_mem hx
 have hc:=jI l i
 unfold cf at hc
 rw [List.getD_eq_getElem?_getD,hi,List.getD_eq_getElem?_getD] at hc
 cases hl:l[i]? with
 |none=>rw [hl] at hc;simp at hc;rw [hc];exact F.zlt
 |some y=>rw [hl] at hc;simp at hc;rw [hc];exact h y (List.mem_of_getElem? hl)
theorem pW{F:FO}{l:List Nat}(h:inL F l)(i:Nat):cf l i<F.q:=by
 unfold cf
 rw [List.getD_eq_getElem?_getD]
 cases hi:l[i]? with
 |none=>exact F.zlt
 |some c=>exact h c (List.mem_of_getElem? hi)
theorem fI{l:List Nat}{i:Nat}(h:i<l.length):l[i]?=some (cf l i):=by
 unfold cf
 rw [List.getD_eq_getElem?_getD,List.getElem?_eq_getElem h];rfl
theorem azT{l:List Nat}{n:Nat}(hn:n≤l.length)(hz:∀i,n≤i→cf l i=0)(h:n=0∨cf l (n-1)≠0):l.take n=dh l:=by
 have hcf:∀i,cf (l.take n) i=cf l i:=by
  intro i
  by_cases hi:i<n
  ·unfold cf
   rw [List.getD_eq_getElem?_getD,List.getD_eq_getElem?_getD,List.getElem?_take_of_lt hi]
  ·rw [hz i (by omega),aoM (by rw [List.length_take];omega)]
 refine ag8 (fun hne=>?_) (vk l) fun i=>by rw [hcf,jI]
 have hl:(l.take n).length=n:=by rw [List.length_take];omega
 rw [hl,hcf]
 rcases h with h|h
 ·exact absurd (List.length_eq_zero_iff.1 (by rw [hl,h])) hne
 ·exact h
-- shared
theorem aA5{us:List Nat}{r:Nat}(h:r∈us):FO.Fe us r:=by
 induction us with
 |nil=>cases h
 |cons u us ih=>
  rcases List.mem_cons.1 h with rfl|h
  ·exact ⟨true::List.replicate us.length false,by simp,by simp only [FO.lQ,cond_true];rw [FO.ab4,Nat.xor_zero]⟩
  ·obtain ⟨bs,h1,h2⟩:=ih h
   exact ⟨false::bs,by simp [h1],by simp only [FO.lQ,cond_false];rw [Nat.zero_xor];exact h2⟩
theorem aC6{us:List Nat}{v:Nat}(h:Sp us v):FO.Fe us v:=by
 induction h with
 |zero=>exact FO.Fe.zero us
 |add hr _ ih=>exact (aA5 hr).add ih
theorem aFC:∀(bs:List Bool)(us:List Nat),Sp us (FO.lQ bs us):=by
 intro bs
 induction bs with
 |nil=>intro us;cases us<;>exact Sp.zero
 |cons b bs ih=>
  intro us
  cases us with
  |nil=>exact Sp.zero
  |cons u us=>
   have h:=Sp.trans (fun r hr=>Sp.mem (List.mem_cons_of_mem u hr)) (ih us)
   simp only [FO.lQ]
   cases b
   ·rw [cond_false,Nat.zero_xor];exact h
   ·rw [cond_true];exact (Sp.mem (List.mem_cons_self ..)).xor h
theorem aya{g:Nat}{a b:List Nat}(h:∀v,Sp a v→Sp b v){v:Nat}(hv:Sp (g::a) v):Sp (g::b) v:=by
 refine Sp.trans (fun r hr=>?_) hv
 rcases List.mem_cons.1 hr with rfl|hr
 ·exact Sp.mem (List.mem_cons_self ..)
 ·exact Sp.trans (fun r hr=>Sp.mem (List.mem_cons_of_mem _ hr)) (h r (Sp.mem hr))
theorem aAj:∀(pts:List Nat),¬FO.uD pts→∃pts':List Nat,pts'.length<pts.length∧∀v,Sp pts v↔Sp pts' v:=by
 intro pts
 induction pts with
 |nil=>intro h;exact absurd (fun bs hl _ b hb=>by rw [List.length_eq_zero_iff.1 hl] at hb;cases hb) h
 |cons g gs ih=>
  intro h
  by_cases hg:Sp gs g
  ·exact ⟨gs,by simp,fun v=>⟨fun hv=>Sp.trans (fun r hr=>(List.mem_cons.1 hr).elim (fun e=>e ▸ hg) Sp.mem) hv,fun hv=>Sp.trans (fun r hr=>Sp.mem (List.mem_cons_of_mem _ hr)) hv⟩⟩
  ·have hgs:¬FO.uD gs:=by
    intro hi
    apply h
    intro bs hl hs
    cases bs with
    |nil=>simp at hl
    |cons b bs=>
     simp only [List.length_cons,Nat.add_right_cancel_iff] at hl
     cases b with
     |false=>
      simp only [FO.lQ,cond_false] at hs
      rw [Nat.zero_xor] at hs
      intro b hb
      rcases List.mem_cons.1 hb with rfl|hb
      ·rfl
      ·exact hi bs hl hs b hb
     |true=>
      exfalso
      simp only [FO.lQ,cond_true] at hs
      apply hg
      have:g=FO.lQ bs gs:=by
       calc g=(g^^^FO.lQ bs gs)^^^FO.lQ bs gs:=by rw [Nat.xor_assoc,Nat.xor_self,Nat.xor_zero]
        _=FO.lQ bs gs:=by rw [hs,Nat.zero_xor]
      rw [this];exact aFC bs gs
   obtain ⟨gs',h1,h2⟩:=ih hgs
   exact ⟨g::gs',by simp only [List.length_cons];omega,fun v=>⟨aya fun v=>(h2 v).1,aya fun v=>(h2 v).2⟩⟩
theorem ate{pts E:List Nat}(h:kK pts E)(hl:E.length=pts.length):FO.uD pts:=by
 apply Classical.byContradiction
 intro hn
 obtain ⟨pts',h1,h2⟩:=aAj pts hn
 obtain ⟨P,c,hr,rfl,hs⟩:=h
 have h':kK pts' (P.map (·.2)):=⟨P,c,hr,rfl,fun v=>(h2 v).symm.trans (hs v)⟩
 have:=h'.le
 omega
theorem aAv{E B:List Nat}(h:kK E B){e:Nat}(he:e∈E):FO.Fe B e:=by
 obtain ⟨P,c,hr,rfl,hs⟩:=h
 exact aC6 ((hs e).1 (Sp.mem he))
theorem axp(l:List Nat):aW l=up l:=rfl
theorem atf(l:List Nat):(aW l).map Int.toNat=l:=up_toNat l
theorem aqr{f:TF3}(hf:aO f=true){L:List Nat}(h:inL (FOf f hf) L)(hl:L.length≤1000){b:Nat}(hb:f.1.toNat≤b):Dr b (aW L)=true:=by
 rw [axp]
 exact Pe (by omega) fun n hn=>Nat.lt_of_lt_of_le (h n hn) (Nat.pow_le_pow_right (by decide) hb)
def rkN (L:List Nat):Nat:=(ech L).length
theorem aBL(L:List Nat):(NW (aW L)).length=rkN L:=by rw [asv,atf];rfl
theorem atY{f:TF3}(hf:aO f=true){L:List Nat}(h:inL (FOf f hf) L)(hl:L.length≤1000):kK L (ech L):=by
 have h5:=(K5 hf).2
 have:=avF (b:=62) (by omega) (aqr hf h hl (by omega))
 rwa [atf] at this
-- shared
theorem au5{p q:List Nat}(h:∀i,cf p i=cf q i):dh p=dh q:=ag8 (vk p) (vk q) fun i=>by rw [jI,jI,h]
theorem II{l:List Nat}{i:Nat}(h:(dh l).length≤i):cf l i=0:=by rw [←jI];exact aoM h
theorem Qa(l:List Nat):(dh l).length=0∨cf l ((dh l).length-1)≠0:=by
 by_cases h:dh l=[]
 ·left;rw [h];rfl
 ·right;rw [←jI];exact vk l h
theorem aeW(l:List Nat):l.take (dh l).length=dh l:=azT (lC l) (fun _ hi=>II hi) (Qa l)
theorem Yi(l:List Nat)(n:Nat):aW (l.take n)=(aW l).take n:=by unfold aW;rw [List.map_take]
theorem mU(a b:List Nat):aW (a++b)=aW a++aW b:=by unfold aW;rw [List.map_append]
theorem Di(n:Nat):aW (List.replicate n 0)=List.replicate n (0:Int):=by unfold aW;rw [List.map_replicate];rfl
theorem Wj(l:List Nat)(i x:Nat):aW (l.set i x)=(aW l).set i (x:Int):=by unfold aW;rw [List.map_set]
theorem arV:∀(B A:List Nat)(y:Nat),B.length<A.length→(jL A B)[B.length]?=some (cf A B.length)∧(jL A B).set B.length (cf A B.length^^^y)=jL A (B++[y]):=by
 intro B
 induction B with
 |nil=>
  intro A y h
  cases A with
  |nil=>simp at h
  |cons a A=>exact ⟨rfl,by simp only [List.nil_append,jL,List.length_nil,List.set_cons_zero,Ql,aj8]⟩
 |cons b B ih=>
  intro A y h
  cases A with
  |nil=>simp at h
  |cons a A=>
   obtain ⟨h1,h2⟩:=ih A y (by simpa using h)
   simp only [jL,List.length_cons,List.cons_append,List.getElem?_cons_succ,List.set_cons_succ,qH]
   exact ⟨h1,by rw [h2]⟩
theorem aw5{A B:List Nat}(h:B.length≤A.length):(jL A B).length=A.length:=by rw [NV];omega
theorem az9(i:Nat)(l:List Nat)(s:Nat):cf (List.replicate i 0++l) s=if i≤s then cf l (s-i) else 0:=by
 unfold cf
 rw [List.getD_eq_getElem?_getD,List.getD_eq_getElem?_getD]
 by_cases h:i≤s
 ·rw [if_pos h,List.getElem?_append_right (by rw [List.length_replicate];exact h),List.length_replicate]
 ·rw [if_neg h,List.getElem?_append_left (by rw [List.length_replicate];omega),List.getElem?_replicate,if_pos (by omega)];rfl
theorem asa(n i:Nat):cf (List.replicate n 0) i=0:=by
 unfold cf
 rw [List.getD_eq_getElem?_getD,List.getElem?_replicate]
 split<;>rfl
theorem arU(M:Nat)(P Q:List Nat):dh (jL (sQ M P) Q)=dh (jL P Q):=au5 fun i=>by rw [DI,DI,aw8]
namespace FO
variable (F : FO)
theorem avo:∀(V:List Nat)(c:Nat)(x:Nat→Nat)(s:Nat),F.fO (V++[c]) x s=F.fO V x s^^^(if V.length≤s then F.mul c (F.sqn V.length (x (s-V.length))) else 0):=by
 intro V
 induction V with
 |nil=>
  intro c x s
  simp only [List.nil_append,fO,List.length_nil,Nat.zero_le,if_true,Nat.sub_zero,sqn]
  cases s<;>simp
 |cons v vs ih=>
  intro c x s
  simp only [List.cons_append,fO,List.length_cons]
  cases s with
  |zero=>simp
  |succ s=>
   simp only
   rw [ih]
   by_cases h:vs.length≤s
   ·rw [if_pos h,if_pos (by omega),show s+1-(vs.length+1)=s-vs.length by omega]
    simp only [sqn]
    ac_rfl
   ·rw [if_neg h,if_neg (by omega),Nat.xor_zero,Nat.xor_zero]
def adO(i c:Nat)(q:List Nat):List Nat:=q.map fun d=>F.mul c (F.sqn i d)
def Ij(p q:List Nat):Nat→List Nat
 |0=>List.replicate (p.length+q.length-1) 0
 |i+1=>jL (Ij p q i) (List.replicate i 0++F.adO i (cf p i) q)
theorem atV(p q:List Nat)(hq:q≠[]):∀i,i≤p.length→(F.Ij p q i).length=p.length+q.length-1:=by
 have hl:0<q.length:=List.length_pos_iff.2 hq
 intro i
 induction i with
 |zero=>intro _;exact List.length_replicate
 |succ i ih=>
  intro h
  unfold Ij
  rw [aw5 (by rw [ih (by omega),List.length_append,List.length_replicate];unfold adO;rw [List.length_map];omega),ih (by omega)]
theorem aDd(p q:List Nat):∀i,i≤p.length→∀s,cf (F.Ij p q i) s=F.fO (p.take i) (cf q) s:=by
 intro i
 induction i with
 |zero=>intro _ s;unfold Ij;rw [asa];simp [fO]
 |succ i ih=>
  intro h s
  unfold Ij
  rw [DI,ih (by omega),List.take_add_one,fI (show i<p.length by omega),Option.toList_some,F.avo,List.length_take,Nat.min_eq_left (by omega),az9]
  unfold adO
  rw [apR (by rw [F.auX,F.mul_zero])]
theorem apo(p q:List Nat):dh (F.Ij p q p.length)=dh (F.uK p q):=au5 fun s=>by rw [F.aDd p q _ (Nat.le_refl _),List.take_length,F.U7]
theorem axY(p q:List Nat):∀i,inL F (F.Ij p q i):=by
 intro i
 induction i with
 |zero=>intro x hx;rw [(List.mem_replicate.1 hx).2];exact F.zlt
 |succ i ih=>
  unfold Ij
  refine F.ajK ih fun x hx=>?_
  rcases List.mem_append.1 hx with hx|hx
  ·rw [(List.mem_replicate.1 hx).2];exact F.zlt
  ·obtain ⟨d,_,rfl⟩:=List.mem_map.1 hx
   exact F.lt _ _
end FO
-- shared
def ZU(d k:Nat):Nat:=(d-k%d)%d
theorem aB5{f:TF3}(hf:aO f=true){x:Nat}(hx:x<(FOf f hf).q)(k:Nat):(FOf f hf).sqn k ((FOf f hf).sqn (ZU f.1.toNat k) x)=x:=by
 have h3:1≤f.1.toNat:=by have:=nQ hf;omega
 unfold ZU
 rw [aeR hf hx,←aeR hf ((FOf f hf).NR _ hx) k,←FO.ajX]
 have hk:k%f.1.toNat<f.1.toNat:=Nat.mod_lt _ (by omega)
 rw [show f.1.toNat-k%f.1.toNat+k%f.1.toNat=f.1.toNat by omega]
 exact aAL hf hx
def IG(l:List Nat):Prop:=l≠[]→cf l (l.length-1)≠0
theorem vo(l:List Nat):IG (dh l):=vk l
theorem aDQ{l:List Nat}{n:Nat}(h:∀i,n≤i→cf l i=0):(dh l).length≤n:=by
 apply Classical.byContradiction
 intro hn
 rcases Qa l with h0|h0
 ·omega
 ·exact h0 (h _ (by omega))
structure T9(F:FO)(N V A R:List Nat):Prop where
 ia:inL F A
 ir:inL F R
 ta:IG A
 tr:IG R
 eq:∀i,cf N i=F.fO V (cf A) i^^^cf R i
def uw(k c:Nat):List Nat:=(List.replicate (k+1) 0).set k c
theorem Yx(k c:Nat):(uw k c).length=k+1:=by unfold uw;rw [List.length_set,List.length_replicate]
theorem ane(k c i:Nat):cf (uw k c) i=if k=i then c else 0:=by
 unfold uw cf
 rw [List.getD_eq_getElem?_getD,List.getElem?_set,List.length_replicate]
 by_cases h:k=i
 ·rw [if_pos h,if_pos h,if_pos (by omega)];rfl
 ·rw [if_neg h,if_neg h,List.getElem?_replicate];split<;>rfl
theorem X4{F:FO}{k c:Nat}(hc:c<F.q):inL F (uw k c):=by
 intro x hx
 rcases List.mem_or_eq_of_mem_set hx with hx|rfl
 ·rw [(List.mem_replicate.1 hx).2];exact F.zlt
 ·exact hc
theorem alo{F:FO}(V m:List Nat):inL F (F.uK V m):=F.asc V m
theorem aqp{F:FO}{p q:List Nat}(hp:inL F p)(hq:inL F q):inL F (jL p q):=F.ajK hp hq
theorem asl{f:TF3}(hf:aO f=true){N V A R:List Nat}(_:inL (FOf f hf) V)(h:T9 (FOf f hf) N V A R)(hn:V≠[])(hl:V.length≤R.length){iv:Nat}(_:iv<(FOf f hf).q)(hinv:(FOf f hf).mul (cf V (V.length-1)) iv=1) :
  let c:=(FOf f hf).sqn (ZU f.1.toNat (V.length-1)) ((FOf f hf).mul (cf R (R.length-1)) iv)
  c<(FOf f hf).q∧T9 (FOf f hf) N V (dh (jL A (uw (R.length-V.length) c))) (dh (jL R (dh ((FOf f hf).uK V (uw (R.length-V.length) c))))) ∧
  (dh (jL R (dh ((FOf f hf).uK V (uw (R.length-V.length) c))))).length<R.length:=by
 intro c
 have hvl:0<V.length:=List.length_pos_iff.2 hn
 have hrl:=pW h.ir (R.length-1)
 have hml:=(FOf f hf).lt (cf R (R.length-1)) iv
 have hc:c<(FOf f hf).q:=(FOf f hf).NR _ hml
 have hcf:∀i,cf (jL R (dh ((FOf f hf).uK V (uw (R.length-V.length) c)))) i=cf R i^^^(FOf f hf).fO V (cf (uw (R.length-V.length) c)) i:=fun i=>by
  rw [DI,jI,FO.U7]
 refine ⟨hc,⟨uO (aqp h.ia (X4 hc)),uO (aqp h.ir (uO (alo _ _))),vo _,vo _,fun i=>?_⟩,?_⟩
 ·rw [jI,hcf,h.eq i,show cf (dh (jL A (uw (R.length-V.length) c)))=fun j=>cf A j^^^cf (uw (R.length-V.length) c) j from funext fun j=>by rw [jI,DI],FO.aoO]
  generalize (FOf f hf).fO V (cf A) i=a
  generalize (FOf f hf).fO V (cf (uw (R.length-V.length) c)) i=t
  calc a^^^cf R i=(a^^^cf R i)^^^(t^^^t):=by rw [Nat.xor_self,Nat.xor_zero]
   _=(a^^^t)^^^(cf R i^^^t):=by ac_rfl
 ·have hlt:(dh (jL R (dh ((FOf f hf).uK V (uw (R.length-V.length) c))))).length≤R.length-1:=by
   refine aDQ fun i hi=>?_
   rw [hcf]
   by_cases he:i=R.length-1
   ·have htop:=(FOf f hf).aoP V (V.length-1) (cf (uw (R.length-V.length) c)) (R.length-V.length) (by omega) (fun i hi=>by rw [ane,if_neg (by omega)])
    rw [show V.length-1+(R.length-V.length)=i by omega,ane,if_pos rfl] at htop
    rw [htop]
    show cf R i^^^(FOf f hf).mul (cf V (V.length-1)) ((FOf f hf).sqn (V.length-1) ((FOf f hf).sqn (ZU f.1.toNat (V.length-1)) ((FOf f hf).mul (cf R (R.length-1)) iv)))=0
    rw [aB5 hf hml,FO.comm _ (cf R (R.length-1)) iv,←FO.assoc,hinv,FO.comm,FO.one _ _ hrl,he,Nat.xor_self]
   ·rw [aoM (by omega),FO.ae9 _ _ _ (R.length-V.length+1) _ (fun j hj=>by rw [ane,if_neg (by omega)]) (by omega)];rfl
  omega
theorem asb{F:FO}:∀{V:List Nat}{x:Nat→Nat}{i:Nat},(∀j,x j=0)→F.fO V x i=0:=by
 intro V
 induction V with
 |nil=>intro x i _;simp [FO.fO]
 |cons v vs ih=>
  intro x i h
  simp only [FO.fO]
  rw [h,F.mul_zero,Nat.zero_xor]
  cases i with
  |zero=>rfl
  |succ i=>exact ih fun j=>by rw [h,F.Iq]
theorem T9.uniq{F:FO}{N V A R m:List Nat}(h:T9 F N V A R)(hV:inL F V)(hn:V≠[])(ht:IG V)(hR:R.length<V.length)(hm:inL F m)(he:∀i,cf N i=F.fO V (cf m) i):A=dh m∧R=[]:=by
 have h1:∀i,F.fO V (cf (jL A m)) i=cf R i:=by
  intro i
  rw [show cf (jL A m)=fun j=>cf A j^^^cf m j from funext fun j=>DI A m j,F.aoO,←he i,h.eq i]
  generalize F.fO V (cf A) i=a
  rw [←Nat.xor_assoc,Nat.xor_self,Nat.zero_xor]
 have h2:=F.aAg hV (aqp h.ia hm) hn (ht hn) fun i hi=>by rw [h1];exact aoM (by omega)
 have h3:∀i,cf R i=0:=fun i=>by rw [←h1,asb];exact h2
 have h4:R=[]:=by
  apply Classical.byContradiction
  intro hne
  exact h.tr hne (h3 _)
 refine ⟨ag8 h.ta (vk m) fun i=>?_,h4⟩
 have:=h2 i
 rw [DI] at this
 rw [jI]
 calc cf A i=(cf A i^^^cf m i)^^^cf m i:=by rw [Nat.xor_assoc,Nat.xor_self,Nat.xor_zero]
  _=cf m i:=by rw [this,Nat.zero_xor]
-- shared
namespace FO
variable (F : FO)
theorem ahf:∀(V V':List Nat)(x:Nat→Nat)(i:Nat),(∀i,cf V i=cf V' i)→F.fO V x i=F.fO V' x i:=by
 have hz:∀(V:List Nat)(x:Nat→Nat)(i:Nat),(∀i,cf V i=0)→F.fO V x i=0:=by
  intro V
  induction V with
  |nil=>intro x i _;simp [fO]
  |cons v vs ih=>
   intro x i h
   have h0:=h 0
   rw [Ql] at h0
   simp only [fO]
   rw [h0,F.zero_mul,Nat.zero_xor]
   cases i with
   |zero=>rfl
   |succ i=>exact ih _ i fun j=>by have:=h (j+1);rwa [qH] at this
 intro V
 induction V with
 |nil=>intro V' x i h;rw [hz V' x i fun j=>(h j).symm.trans (zX j)];simp [fO]
 |cons v vs ih=>
  intro V' x i h
  cases V' with
  |nil=>rw [hz (v::vs) x i fun j=>(h j).trans (zX j)];simp [fO]
  |cons v' vs'=>
   have h0:=h 0
   rw [Ql,Ql] at h0
   simp only [fO]
   rw [h0]
   cases i with
   |zero=>rfl
   |succ i=>
    simp only
    rw [ih vs' (fun j=>F.sq (x j)) i fun j=>by have:=h (j+1);rwa [qH,qH] at this]
def aaC:List Nat→List Nat→Nat
 |a::u,b::v=>F.mul a b^^^aaC u v
 |_,_=>0
theorem aAt:∀(a c b d:List Nat),a.length=c.length→F.aaC (a++b) (c++d)=F.aaC a c^^^F.aaC b d:=by
 intro a
 induction a with
 |nil=>intro c b d h;have:c=[]:=List.length_eq_zero_iff.1 h.symm;subst this;simp [aaC]
 |cons x a ih=>
  intro c b d h
  cases c with
  |nil=>simp at h
  |cons y c=>simp only [List.cons_append,aaC];rw [ih c b d (by simpa using h),Nat.xor_assoc]
def zW(n x:Nat):List Nat:=(List.range n).map fun j=>F.sqn j x
theorem BP(n x:Nat):(F.zW n x).length=n:=by simp [zW]
theorem azL(n x:Nat):F.zW (n+1) x=x::F.zW n (F.sq x):=by
 unfold zW
 rw [List.range_succ_eq_map,List.map_cons,List.map_map]
 rfl
theorem aAu:∀(p:List Nat)(x:Nat),F.aaC (F.zW p.length x) p=F.lp p x:=by
 intro p
 induction p with
 |nil=>intro x;rfl
 |cons c p ih=>
  intro x
  rw [List.length_cons,azL]
  simp only [aaC,lp]
  rw [ih,F.comm]
def Hu(pts w m:List Nat):List Nat:=(pts.zip w).map fun p=>p.2^^^F.lp m p.1
theorem ap0{pts w m:List Nat}(hw:inL F w):inL F (F.Hu pts w m):=by
 intro e he
 obtain ⟨p,hp,rfl⟩:=List.mem_map.1 he
 have:=List.of_mem_zip (a:=p.1) (b:=p.2) hp
 exact F.xlt _ _ (hw _ this.2) (F.atC _ _)
theorem Va{pts w m:List Nat}(h:w.length=pts.length):(F.Hu pts w m).length=pts.length:=by
 unfold Hu
 rw [List.length_map,List.length_zip,h,Nat.min_self]
theorem aAi{pts w V N m us:List Nat}{k t:Nat}(hi:uD pts)(hp:inL F pts)(hl:w.length=pts.length)(hk:1≤k)(hm:m.length=k)(_:inL F m)
  (hV:V.length=t+1) (hN:N.length=t+k) (hNi:inL F N) (h2:2*t+k≤pts.length) (hus:us.length≤t) (hsp:∀e∈F.Hu pts w m,Fe us e) (ho:∀p∈pts.zip w,F.lp V p.2=F.lp N p.1) :
  ∀i,cf N i=F.fO V (cf m) i:=by
 have hmn:m≠[]:=by intro h;rw [h] at hm;simp at hm;omega
 have hVn:V≠[]:=by intro h;rw [h] at hV;simp at hV
 have hcl:=F.afa V m hVn hmn
 have hz:=F.aBh (us:=us.map (F.lp V)) (gs:=pts) (p:=jL N (F.uK V m)) (by rw [NV,List.length_map];omega) hp (F.ajK hNi (F.asc V m)) hi (by
  intro g hg
  obtain ⟨j,hj⟩:=List.getElem?_of_mem hg
  have hjl:=(List.getElem?_eq_some_iff.1 hj).1
  have hwj:=List.getElem?_eq_getElem (show j<w.length by omega)
  have hz:(pts.zip w)[j]?=some (g,w[j]):=List.getElem?_zip_eq_some.2 ⟨hj,hwj⟩
  have hmem:=List.mem_of_getElem? hz
  have h1:=ho _ hmem
  have h3:=(hsp _ (List.mem_map.2 ⟨_,hmem,rfl⟩)).map (F.axy V) (F.awj V)
  rw [F.axw,F.aBf]
  dsimp only at h1 h3
  rw [F.awj,h1] at h3
  exact h3)
 intro i
 have:=ayo hz i
 rw [DI,F.U7] at this
 calc cf N i=(cf N i^^^F.fO V (cf m) i)^^^F.fO V (cf m) i:=by rw [Nat.xor_assoc,Nat.xor_self,Nat.xor_zero]
  _=F.fO V (cf m) i:=by rw [this,Nat.zero_xor]
theorem aCB{V N m:List Nat}(hVi:inL F V)(hmi:inL F m)(he:∀i,cf N i=F.fO V (cf m) i)(hx:∃c∈V++N,c≠0) :
  dh V≠[]∧∀A R,T9 F (dh N) (dh V) A R→R.length<(dh V).length→A=dh m∧R=[]:=by
 have he':∀i,cf (dh N) i=F.fO (dh V) (cf m) i:=fun i=>by rw [jI,he,F.ahf V (dh V) _ _ fun j=>(jI V j).symm]
 have hn:dh V≠[]:=by
  intro h0
  obtain ⟨c,hc,hc0⟩:=hx
  have hV0:∀i,cf V i=0:=fun i=>by rw [←jI,h0,zX]
  have hN0:∀i,cf N i=0:=fun i=>by rw [he,F.ahf V [] _ _ fun j=>by rw [hV0,zX]];simp [fO]
  rcases List.mem_append.1 hc with hc|hc
  ·exact hc0 (az8 hV0 c hc)
  ·exact hc0 (az8 hN0 c hc)
 exact ⟨hn,fun A R h hR=>h.uniq (uO hVi) hn (vo V) hR hmi he'⟩
end FO
section
variable {f : TF3} (hf : aO f = true)
def acg(pts w:List Nat)(k t:Nat)(m:List Nat):Prop:=m.length=k∧inL (FOf f hf) m∧rkN ((FOf f hf).Hu pts w m)≤t
def at0(t k g x:Nat):List Nat:=(FOf f hf).zW (t+1) x++(FOf f hf).zW (t+k) g
def Pf(t k:Nat)(pts w:List Nat):List (List Int):=(pts.zip w).map fun p=>aW (at0 hf t k p.1 p.2)
theorem ajY(n:Nat){x:Nat}(hx:x<(FOf f hf).q):inL (FOf f hf) ((FOf f hf).zW n x):=by
 intro y hy
 obtain ⟨j,_,rfl⟩:=List.mem_map.1 hy
 exact (FOf f hf).NR j hx
theorem at1{t k:Nat}{pts w:List Nat}(hp:inL (FOf f hf) pts)(hw:inL (FOf f hf) w):GR f (2*t+1+k) (Pf hf t k pts w):=by
 intro r hr
 obtain ⟨p,hp',rfl⟩:=List.mem_map.1 hr
 have:=List.of_mem_zip (a:=p.1) (b:=p.2) hp'
 refine ⟨?_,aC8 hf (ac9 (ajY hf _ (hw _ this.2)) (ajY hf _ (hp _ this.1)))⟩
 rw [aY]
 unfold at0
 rw [List.length_append,FO.BP,FO.BP]
 omega
theorem aEA:∀{a b:List Nat},inL (FOf f hf) a→inL (FOf f hf) b→lS f (aW a) (aW b)=(((FOf f hf).aaC a b:Nat):Int)∧(FOf f hf).aaC a b<(FOf f hf).q:=by
 intro a
 induction a with
 |nil=>intro b _ _;exact ⟨by simp [aW,lS,FO.aaC],by simp only [FO.aaC];exact FO.zlt _⟩
 |cons x a ih=>
  intro b ha hb
  cases b with
  |nil=>exact ⟨by simp [aW,lS,FO.aaC],by simp only [FO.aaC];exact FO.zlt _⟩
  |cons y b=>
   obtain ⟨h1,h2⟩:=ih (b:=b) (fun z hz=>ha z (List.mem_cons_of_mem _ hz)) (fun z hz=>hb z (List.mem_cons_of_mem _ hz))
   have hx:=ha x (List.mem_cons_self ..)
   have hy:=hb y (List.mem_cons_self ..)
   refine ⟨?_,(FOf f hf).xlt _ _ ((FOf f hf).lt _ _) h2⟩
   show iD .i64 (gH f (x:Int) (y:Int)) (lS f (aW a) (aW b))=_
   rw [h1,aqR hf hx hy,ab8 hf ((FOf f hf).lt _ _) h2]
   rfl
theorem apc{t k:Nat}{pts w:List Nat}(hp:inL (FOf f hf) pts)(hw:inL (FOf f hf) w){x:List Int}(h:apH f (2*t+1+k) (Pf hf t k pts w) x) :
  ∃V N,x=aW (V++N)∧V.length=t+1∧N.length=t+k∧inL (FOf f hf) V∧inL (FOf f hf) N∧(∃c∈V++N,c≠0)∧∀p∈pts.zip w,(FOf f hf).lp V p.2=(FOf f hf).lp N p.1:=by
 obtain ⟨⟨hl,hin⟩,⟨q,hq⟩,ho⟩:=h
 obtain ⟨X,rfl,hX⟩:=ajQ hf hin
 rw [aY] at hl
 have hsp:X.take (t+1)++X.drop (t+1)=X:=List.take_append_drop _ _
 have h1:(X.take (t+1)).length=t+1:=by rw [List.length_take];omega
 have h2:(X.drop (t+1)).length=t+k:=by rw [List.length_drop];omega
 have hVi:inL (FOf f hf) (X.take (t+1)):=fun y hy=>hX y (List.mem_of_mem_take hy)
 have hNi:inL (FOf f hf) (X.drop (t+1)):=fun y hy=>hX y (List.mem_of_mem_drop hy)
 refine ⟨X.take (t+1),X.drop (t+1),by rw [hsp],h1,h2,hVi,hNi,?_,fun p hp'=>?_⟩
 ·rw [hsp]
  rw [List.getD_eq_getElem?_getD] at hq
  cases hx:(aW X)[q]? with
  |none=>rw [hx] at hq;exact absurd rfl hq
  |some y=>
   rw [hx] at hq
   obtain ⟨c,hc,rfl⟩:=List.mem_map.1 (List.mem_of_getElem? hx)
   exact ⟨c,hc,fun h0=>hq (by rw [h0];rfl)⟩
 ·have hz:=List.of_mem_zip (a:=p.1) (b:=p.2) hp'
  have hd:=ho _ (List.mem_map.2 ⟨p,hp',rfl⟩)
  have hri:inL (FOf f hf) (at0 hf t k p.1 p.2):=ac9 (ajY hf _ (hw _ hz.2)) (ajY hf _ (hp _ hz.1))
  rw [(aEA hf hri hX).1] at hd
  have hd:(FOf f hf).aaC (at0 hf t k p.1 p.2) X=0:=by omega
  rw [←hsp] at hd
  unfold at0 at hd
  rw [FO.aAt _ _ _ _ _ (by rw [FO.BP,h1])] at hd
  have e1:=(FOf f hf).aAu (X.take (t+1)) p.2
  have e2:=(FOf f hf).aAu (X.drop (t+1)) p.1
  rw [h1] at e1
  rw [h2] at e2
  rw [e1,e2] at hd
  calc (FOf f hf).lp (X.take (t+1)) p.2=((FOf f hf).lp (X.take (t+1)) p.2^^^(FOf f hf).lp (X.drop (t+1)) p.1)^^^(FOf f hf).lp (X.drop (t+1)) p.1:=by rw [Nat.xor_assoc,Nat.xor_self,Nat.xor_zero]
   _=(FOf f hf).lp (X.drop (t+1)) p.1:=by rw [hd,Nat.zero_xor]
theorem axb{t k:Nat}{pts w V N m:List Nat}(hi:FO.uD pts)(hp:inL (FOf f hf) pts)(hw:inL (FOf f hf) w)(hl:w.length=pts.length)(hpl:pts.length≤1000)(hk:1≤k)(h2:2*t+k≤pts.length)(hm:acg hf pts w k t m)
  (hV:V.length=t+1) (hN:N.length=t+k) (hVi:inL (FOf f hf) V) (hNi:inL (FOf f hf) N) (hx:∃c∈V++N,c≠0) (ho:∀p∈pts.zip w,(FOf f hf).lp V p.2=(FOf f hf).lp N p.1) :
  dh V≠[]∧∀A R,T9 (FOf f hf) (dh N) (dh V) A R→R.length<(dh V).length→A=dh m∧R=[]:=by
 obtain ⟨hm1,hm2,hm3⟩:=hm
 have hE:=atY hf ((FOf f hf).ap0 (pts:=pts) (m:=m) hw) (by rw [FO.Va _ hl];exact hpl)
 exact (FOf f hf).aCB hVi hm2 ((FOf f hf).aAi hi hp hl hk hm1 hm2 hV hN hNi h2 hm3 (fun e he=>aAv hE he) ho) hx
end
-- shared
def Ub (g:TF3×List Int×Int×Unit):Bool:=aO g.1&&(inR (g.2.1.length:Int) 1 5&&(oW g.1 g.2.1&&(decide (((NW g.2.1).length:Int)=(g.2.1.length:Int))&&inR g.2.2.1 1 (g.2.1.length:Int))))
theorem aff{f:TF3}{c:List Int}(h:oW f c=true):∀x∈c,inF f x:=by
 intro x hx
 have:=gX.1 (List.all_eq_true.1 h x hx)
 unfold Zo at this
 have h2:((2 ^ f.1.toNat:Nat):Int)=(2:Int) ^ f.1.toNat:=by rw [Int.natCast_pow];rfl
 exact ⟨this.1,by omega⟩
theorem akH{g:TF3×List Int×Int×Unit}(h:Ub g=true):∃(hf:aO g.1=true) (P:List Nat) (k:Nat),g=(g.1,aW P,(k:Int),())∧inL (FOf g.1 hf) P∧FO.uD P∧P.length≤5∧1≤k∧k≤P.length:=by
 unfold Ub at h
 simp only [Bool.and_eq_true,gX,decide_eq_true_eq] at h
 obtain ⟨hf,hl,he,hr,hk⟩:=h
 obtain ⟨P,hP,hPi⟩:=ajQ hf (aff he)
 have hlen:g.2.1.length=P.length:=by rw [hP,aY]
 refine ⟨hf,P,g.2.2.1.toNat,?_,hPi,?_,by omega,by omega,by omega⟩
 ·rw [←hP,show ((g.2.2.1.toNat:Nat):Int)=g.2.2.1 by omega]
 ·rw [hP,aBL,aY] at hr
  exact ate (atY hf hPi (by omega)) (by unfold rkN at hr;omega)
def Ew (g:TF3×List Int×Int×Unit) (w:List Int):Int:=if Ub g=true then (if w.length=g.2.1.length∧oW g.1 w=true then 0 else 2) else 1
theorem aAR{g:TF3×List Int×Int×Unit}{w:List Int}(h:Ew g w=0):Ub g=true∧w.length=g.2.1.length∧oW g.1 w=true:=by
 unfold Ew at h
 split at h
 ·rename_i h1
  split at h
  ·rename_i h2;exact ⟨h1,h2.1,h2.2⟩
  ·cases h
 ·cases h
def Kh (p0:List Int) (p1:aF):Tre Int:=
 .mat (u7 p1) fun r1=>
 .cond (!r1)
  (.ret 1)
  (.cond (!decide ((p0.length:Int)=(p1.2.1.length:Int)))
   (.ret 2)
   (.mat (rR p1.1 p0) fun r2=>
   .cond (!r2)
    (.ret 2)
    (.ret 0)))
def qy (p0:List Int) (p1:aF):Option Int:=(Kh p0 p1).run some
-- more
theorem asx{f:TF3}(hf:aO f=true){c:List Int}(h:oW f c=true)(hl:c.length≤1000){b:Nat}(hb:f.1.toNat≤b):Dr b c=true:=by
 obtain ⟨L,rfl,hL⟩:=ajQ hf (aff h)
 rw [aY] at hl
 exact aqr hf hL hl hb
theorem ax5(g:TF3×List Int×Int×Unit):u7 g=some (Ub g):=by
 unfold u7 Sd Ub
 rw [ah (amh g.1),Tre.aA]
 cases hf:aO g.1
 ·rfl
 have hd:=nQ hf
 have hw:ML g.1 g.2.1=some (inR (g.2.1.length:Int) 1 5&&oW g.1 g.2.1):=by
  unfold ML agR
  dsimp only
  rw [Tre.aA]
  cases hi:inR (g.2.1.length:Int) 1 5
  ·rfl
  ·have:=gX.1 hi
   rw [cond_true,ah (PI hf g.2.1 (by omega)),Tre.aG,Bool.true_and]
 rw [cond_true,ah hw,Tre.aA,Bool.true_and]
 cases hi:inR (g.2.1.length:Int) 1 5
 ·rfl
 have hl:=gX.1 hi
 rw [Bool.true_and,Bool.true_and]
 cases he:oW g.1 g.2.1
 ·rfl
 rw [cond_true,Bool.true_and,ah (show apt g.1.1 g.2.1=some _ from gY (by rw [Bool.and_eq_true];exact ⟨gX.2 (by omega),asx hf he (by omega) (Nat.le_refl _)⟩)),Tre.aA]
 cases decide (((NW g.2.1).length:Int)=(g.2.1.length:Int))
 ·rfl
 ·rfl
theorem aeN(g:TF3×List Int×Int×Unit)(w:List Int)(hw:w.length≤1048576):qy w g=some (Ew g w):=by
 unfold qy Kh Ew
 rw [ah (ax5 g),Tre.aA]
 cases hg:Ub g
 ·rfl
 ·have hf:aO g.1=true:=by unfold Ub at hg;simp only [Bool.and_eq_true] at hg;exact hg.1
  rw [Bool.not_true,cond_false,if_pos rfl,Tre.aA]
  by_cases h1:w.length=g.2.1.length
  ·rw [decide_eq_true (by omega),Bool.not_true,cond_false,ah (PI hf w (by omega)),Tre.aA]
   cases he:oW g.1 w
   ·rw [if_neg (by simp)];rfl
   ·rw [if_pos ⟨h1,rfl⟩];rfl
  ·rw [decide_eq_false (by omega),Bool.not_false,cond_true,if_neg fun h=>h1 h.1];rfl
def PN:Env:=⟨tau,[(53,Kl),(54,Gi)],[]⟩
def agV:FnI:=fnI Tryz.f28 []
def Ki (_:Bool) (zp1:Bool) (_:List Int) (p1:aF):Int→au:=fun r=>⟨(.i r),[⟨true,aU,(.imm zp1),p1⟩],[]⟩
theorem aeC:∀(zp0 zp1:Bool)(p0:List Int)(p1:aF),bL PN agV ⟨[(.ptr (0,0) []),(.imm zp0 .il p0)],[⟨true,aU,(.imm zp1),p1⟩]⟩=(Kh p0 p1).run fun r=>some (Ki zp0 zp1 p0 p1 r):=fun _ _ _ _=>by kernel_rfl
def agU (av:List AV) (rs:List Root):Tre au:=
 aD av fun a0_ av0=>
 aD av0 fun a1_ av1=>
 aN av1<|
 aD rs fun r0_ rs0=>
 aN rs0<|
 dR (0,0) [] a0_<|
 bg .il a1_ fun z2 d1=>
 wQ true aU r0_ fun m3 d4=>
 kr m3 fun z5=>
 .mat (qy d1 d4) fun r=>.ret (Ki z2 z5 d1 d4 r)
def PO:Ctr:=dD [] agU
theorem aeD:Contract Tryz.prog .none 28 PO:=aB (V:=PN) aV (ak TV aDX (ak PK aDY aI)) Tryz.func28 bN fun _ _ _=>aK fun _ _=>aK fun _ _=>bn<|aK fun _ _=>bn<|gL<|bZ fun _ _=>tRt fun _ _=>zU fun _=>fun h=>by intros;subst_vars;exact bB (aeC _ _ _ _) h
-- shared
def ahk (g:TF3×List Int×Int×Unit) (w:List Int) (u:Int×List Int×Unit) (c:Int):Int:=if Ub g=true then (if ajJ u=true then (if Ew g w=0 then (if u.1=c then (if (g.2.1.length:Int)<g.2.2.1+(u.2.1.length:Int) then 4 else 0) else 2) else 2) else 1) else 1
theorem aAS{g:TF3×List Int×Int×Unit}{w:List Int}{u:Int×List Int×Unit}{c:Int}(h:ahk g w u c=0):ajJ u=true∧Ew g w=0∧u.1=c∧g.2.2.1+(u.2.1.length:Int)≤(g.2.1.length:Int):=by
 unfold ahk at h
 by_cases h1:Ub g=true
 case neg=>rw [if_neg h1] at h;cases h
 by_cases h2:ajJ u=true
 case neg=>rw [if_pos h1,if_neg h2] at h;cases h
 by_cases h3:Ew g w=0
 case neg=>rw [if_pos h1,if_pos h2,if_neg h3] at h;cases h
 by_cases h4:u.1=c
 case neg=>rw [if_pos h1,if_pos h2,if_pos h3,if_neg h4] at h;cases h
 by_cases h5:(g.2.1.length:Int)<g.2.2.1+(u.2.1.length:Int)
 case pos=>rw [if_pos h1,if_pos h2,if_pos h3,if_pos h4,if_pos h5] at h;cases h
 exact ⟨h2,h3,h4,by omega⟩
theorem ayO{g:TF3×List Int×Int×Unit}{w:List Int}(hg:Ub g=true)(h:Ew g w≠0):Ew g w=2:=by
 unfold Ew at h ⊢
 rw [if_pos hg] at h ⊢
 split
 ·rename_i h1;rw [if_pos h1] at h;exact absurd rfl h
 ·rfl
theorem asK{g:TF3×List Int×Int×Unit}{u:Int×List Int×Unit}(hg:Ub g=true)(hu:ajJ u=true):aJ .i64 (g.2.2.1+(u.2.1.length:Int))=g.2.2.1+(u.2.1.length:Int):=by
 obtain ⟨_,P,k,h1,_,_,h2,h3,h4⟩:=akH hg
 obtain ⟨c,ns,rfl,h5,h6,h7,_⟩:=ax9 hu
 rw [h1]
 dsimp only
 rw [mo,dS (by omega) (by omega)]
def Kj (p0:List Int) (p1:Bool) (p2:aF) (p3:aT):Tre Int:=
 .mat (u7 p2) fun r1=>
 .cond (!r1)
  (.ret 1)
  (.mat (tZ p3) fun r2=>
  .cond (!r2)
   (.ret 1)
   (.cond p1
    (.mat (qy p0 p2) fun r3=>
    .cond (!decide (r3=0))
     (.ret 2)
     (.cond (!decide (p3.1=p2.1.1))
      (.ret 2)
      (let v4:=aJ .i64 (p2.2.2.1+(p3.2.1.length:Int))
      .cond (decide ((p2.2.1.length:Int)<v4))
       (.ret 4)
       (.ret 0))))
    (.mat (qy p0 p2) fun r5=>
    .cond (!decide (r5=0))
     (.ret 2)
     (.cond (!decide (p3.1=(p2.2.1.length:Int)))
      (.ret 2)
      (let v6:=aJ .i64 (p2.2.2.1+(p3.2.1.length:Int))
      .cond (decide ((p2.2.1.length:Int)<v6))
       (.ret 4)
       (.ret 0))))))
def wo (p0:List Int) (p1:Bool) (p2:aF) (p3:aT):Option Int:=(Kj p0 p1 p2 p3).run some
-- more
theorem aBV(w:List Int)(b:Bool)(g:TF3×List Int×Int×Unit)(u:Int×List Int×Unit)(hw:w.length≤1048576):wo w b g u=some (ahk g w u (cond b g.1.1 (g.2.1.length:Int))):=by
 unfold wo Kj ahk
 rw [ah (ax5 g),Tre.aA]
 cases hg:Ub g
 ·rfl
 rw [Bool.not_true,cond_false,if_pos rfl,ah (abM u),Tre.aA]
 cases hu:ajJ u
 ·rfl
 have hl:=asK hg hu
 rw [Bool.not_true,cond_false,if_pos rfl,Tre.aA]
 by_cases h1:Ew g w=0
 case neg=>
  rw [if_neg h1]
  cases b
  ·rw [cond_false,ah (aeN g w hw),Tre.aA,decide_eq_false h1];rfl
  ·rw [cond_true,ah (aeN g w hw),Tre.aA,decide_eq_false h1];rfl
 rw [if_pos h1]
 cases b
 ·rw [cond_false,cond_false,ah (aeN g w hw),Tre.aA,decide_eq_true h1,Bool.not_true,cond_false,Tre.aA]
  by_cases h2:u.1=(g.2.1.length:Int)
  case neg=>rw [decide_eq_false h2,if_neg h2];rfl
  rw [decide_eq_true h2,if_pos h2,Bool.not_true,cond_false]
  dsimp only
  rw [hl,Tre.aA]
  by_cases h3:(g.2.1.length:Int)<g.2.2.1+(u.2.1.length:Int)
  ·rw [decide_eq_true h3,if_pos h3];rfl
  ·rw [decide_eq_false h3,if_neg h3];rfl
 ·rw [cond_true,cond_true,ah (aeN g w hw),Tre.aA,decide_eq_true h1,Bool.not_true,cond_false,Tre.aA]
  by_cases h2:u.1=g.1.1
  case neg=>rw [decide_eq_false h2,if_neg h2];rfl
  rw [decide_eq_true h2,if_pos h2,Bool.not_true,cond_false]
  dsimp only
  rw [hl,Tre.aA]
  by_cases h3:(g.2.1.length:Int)<g.2.2.1+(u.2.1.length:Int)
  ·rw [decide_eq_true h3,if_pos h3];rfl
  ·rw [decide_eq_false h3,if_neg h3];rfl
def PS:Env:=⟨tau,[(53,Kl),(71,Mx),(28,PO)],[]⟩
def agX:FnI:=fnI Tryz.f41 []
def Kk (_:Bool) (zp1:Bool) (zp2:Bool) (_:List Int) (_:Bool) (p2:aF) (p3:aT):Int→au:=fun r=>⟨(.i r),[⟨true,aU,(.imm zp1),p2⟩,⟨true,bC,(.imm zp2),p3⟩],[]⟩
theorem aeE:∀(zp0 zp1 zp2:Bool)(p0:List Int)(p1:Bool)(p2:aF)(p3:aT),bL PS agX ⟨[(.ptr (0,0) []),(.imm zp0 .il p0),(.ptr (0,1) []),(.imm true .bool p1)],[⟨true,aU,(.imm zp1),p2⟩,⟨true,bC,(.imm zp2),p3⟩]⟩=(Kj p0 p1 p2 p3).run fun r=>some (Kk zp0 zp1 zp2 p0 p1 p2 p3 r):=fun _ _ _ _ _ _ _=>by kernel_rfl
def agW (av:List AV) (rs:List Root):Tre au:=
 aD av fun a0_ av0=>
 aD av0 fun a1_ av1=>
 aD av1 fun a2_ av2=>
 aD av2 fun a3_ av3=>
 aN av3<|
 aD rs fun r0_ rs0=>
 aD rs0 fun r1_ rs1=>
 aN rs1<|
 dR (0,0) [] a0_<|
 bg .il a1_ fun z2 d1=>
 dR (0,1) [] a2_<|
 ay true .bool a3_ fun d3=>
 wQ true aU r0_ fun m4 d5=>
 kr m4 fun z6=>
 wQ true bC r1_ fun m7 d8=>
 kr m7 fun z9=>
 .mat (wo d1 d3 d5 d8) fun r=>.ret (Kk z2 z6 z9 d1 d3 d5 d8 r)
def PU:Ctr:=dD [] agW
theorem aeF:Contract Tryz.prog .none 41 PU:=aB (V:=PS) aV (ak TV aDX (ak abN aGA (ak aeD aF9 aI))) Tryz.func41 bN fun _ _ _=>aK fun _ _=>aK fun _ _=>aK fun _ _=>aK fun _ _=>bn<|aK fun _ _=>aK fun _ _=>bn<|gL<|bZ fun _ _=>gL<|aH fun _=>tRt fun _ _=>zU fun _=>tRt fun _ _=>zU fun _=>fun h=>by intros;subst_vars;exact bB (aeE _ _ _ _ _ _ _) h
-- shared
def agk:Nat→Nat→Bool
 |0,_=>false
 |k+1,x=>(x.testBit k) ^^ agk k x
def atr:Nat→Nat→Nat→Nat
 |0,p,_=>p
 |k+1,p,r=>cond (r.testBit p) p (atr k (p+1) r)
def qB(r:Nat):Nat:=atr 5 0 r
def avc(n:Nat)(ns:List Nat):List Nat:=(List.range (2 ^ n)).filter fun x=>ns.all fun r=>!agk 5 (r&&&x)
def qY(ns:List Nat):Nat:=ns.foldl (fun a r=>a|||2 ^ qB r) 0
def aBN(ns:List Nat)(c:Nat):Nat:=ns.foldl (fun v r=>cond (r.testBit c) (v|||2 ^ qB r) v) (2 ^ c)
def ai7(L:Nat)(ns:List Nat)(n:Nat):List Nat:=(List.range n).filterMap fun c=>cond (L.testBit c) none (some (aBN ns c))
def gjS(s:List Nat×List Nat)(c:Nat):List Nat×List Nat:=match s.2.find? (·.testBit c) with
 |none=>s
 |some r=>(s.1.map (gU c r)++[r],(s.2.erase r).map (gU c r))
def gjN(l:List Nat):List Nat:=((List.range 5).foldl gjS ([],l)).1
def Y2:List Nat→Bool
 |[]=>true
 |x::l=>(x != 0)&&(decide (x<32)&&(l.all (fun y=>decide (qB x<qB y)&&!x.testBit (qB y))&&Y2 l))
def avn(n:Nat)(ns:List Nat):Bool:=
 let o:=ai7 (qY ns) ns n
 let D:=gjN o
 let so:=oV o
 let sd:=oV D
 let a:=avc n ns
 Y2 D&&(D.all (fun d=>decide (d<2 ^ n))&&((D.length+ns.length == n)&&(o.all (fun x=>sd.contains x)&&(D.all (fun x=>so.contains x)&&(a.all (fun x=>sd.contains x)&&D.all (fun x=>a.contains x))))))
def Zr(n:Nat):Nat→List (List Nat)
 |0=>[[]]
 |k+1=>Zr n k++(Zr n k).flatMap fun t=>((List.range (2 ^ n)).filter fun r=>qB r == n-(k+1)&&r != 0).map (·::t)
theorem aFV:((Zr 1 1).all fun ns=>!Y2 ns||avn 1 ns)=true:=by kernel_rfl
theorem aFW:((Zr 2 2).all fun ns=>!Y2 ns||avn 2 ns)=true:=by kernel_rfl
theorem aFX:((Zr 3 3).all fun ns=>!Y2 ns||avn 3 ns)=true:=by kernel_rfl
theorem aFY:((Zr 4 4).all fun ns=>!Y2 ns||avn 4 ns)=true:=by kernel_rfl
theorem aFZ:((Zr 5 5).all fun ns=>!Y2 ns||avn 5 ns)=true:=by kernel_rfl
theorem awg:∀(k p:Nat){r:Nat},r<2 ^ (p+k)→(∀q,q<p→r.testBit q=false)→r≠0→Lo r (atr k p r)∧atr k p r<p+k:=by
 intro k
 induction k with
 |zero=>
  intro p r h h0 hn
  exact absurd (Ir h h0) hn
 |succ k ih=>
  intro p r h h0 hn
  unfold atr
  cases hb:r.testBit p
  ·obtain ⟨h1,h2⟩:=ih (p+1) (r:=r) (by rw [show p+1+k=p+(k+1) by omega];exact h) (fun q hq=>by
    rcases Nat.lt_succ_iff_lt_or_eq.1 hq with h1|h1
    ·exact h0 q h1
    ·rw [h1];exact hb) hn
   exact ⟨h1,by rw [cond_false];omega⟩
  ·exact ⟨⟨hb,h0⟩,by rw [cond_true];omega⟩
theorem JG{r:Nat}(h:r<32)(hn:r≠0):Lo r (qB r)∧qB r<5:=by
 have:=awg 5 0 (r:=r) h (fun q hq=>absurd hq (Nat.not_lt_zero q)) hn
 exact ⟨this.1,by have:=this.2;unfold qB;omega⟩
theorem aBe{r p:Nat}(h:Lo r p):r≠0:=fun h0=>by
 have:=h.1
 rw [h0,Nat.zero_testBit] at this
 cases this
theorem aBF:∀{l:List Nat},Y2 l=true→Red 5 (l.map fun x=>(qB x,x)):=by
 intro l
 induction l with
 |nil=>intro _;exact ⟨fun a ha=>(by cases ha),.nil⟩
 |cons x l ih=>
  intro h
  unfold Y2 at h
  simp only [Bool.and_eq_true,bne_iff_ne,decide_eq_true_eq,List.all_eq_true,Bool.not_eq_true'] at h
  obtain ⟨h1,h2,h3,h4⟩:=h
  have hl:=JG h2 h1
  have hr:=ih h4
  refine ⟨fun a ha=>?_,List.pairwise_cons.2 ⟨fun a ha=>?_,hr.2⟩⟩
  ·rcases List.mem_cons.1 ha with rfl|ha
   ·exact ⟨hl.2,hl.1⟩
   ·exact hr.1 a ha
  ·obtain ⟨y,hy,rfl⟩:=List.mem_map.1 ha
   exact h3 y hy
theorem aBI:∀{P:List (Nat×Nat)}{c:Nat},Red c P→(∀a∈P,a.2<32)→Y2 (P.map (·.2))=true∧∀a∈P,qB a.2=a.1:=by
 intro P
 induction P with
 |nil=>intro c _ _;exact ⟨rfl,fun a ha=>(by cases ha)⟩
 |cons x l ih=>
  intro c h hb
  have hx:=h.1 x (List.mem_cons_self ..)
  obtain ⟨h1,h2⟩:=ih h.tail fun a ha=>hb a (.tail _ ha)
  have hx0:=aBe hx.2
  have hxl:=(JG (hb x (List.mem_cons_self ..)) hx0).1.uniq hx.2
  refine ⟨?_,fun a ha=>?_⟩
  ·show Y2 (x.2::l.map (·.2))=true
   unfold Y2
   simp only [Bool.and_eq_true,bne_iff_ne,decide_eq_true_eq,List.all_eq_true,Bool.not_eq_true']
   refine ⟨hx0,hb x (List.mem_cons_self ..),fun y hy=>?_,h1⟩
   obtain ⟨a,ha,rfl⟩:=List.mem_map.1 hy
   have:=(List.pairwise_cons.1 h.2).1 a ha
   rw [hxl,h2 a ha]
   exact this
  ·rcases List.mem_cons.1 ha with rfl|ha
   ·exact hxl
   ·exact h2 a ha
theorem aAH{n:Nat}:∀(k:Nat){l:List Nat},k≤n→Y2 l=true→(∀r∈l,r<2 ^ n∧n-k≤qB r∧qB r<n)→l∈Zr n k:=by
 intro k
 induction k with
 |zero=>
  intro l _ _ h
  cases l with
  |nil=>exact List.mem_singleton.2 rfl
  |cons x l=>have:=h x (List.mem_cons_self ..);omega
 |succ k ih=>
  intro l hk hr h
  unfold Zr
  rw [List.mem_append]
  cases l with
  |nil=>exact .inl (ih (by omega) hr fun r hr=>by cases hr)
  |cons x l=>
   have hx:=h x (List.mem_cons_self ..)
   unfold Y2 at hr
   simp only [Bool.and_eq_true,bne_iff_ne,decide_eq_true_eq,List.all_eq_true,Bool.not_eq_true'] at hr
   obtain ⟨h1,h2,h3,h4⟩:=hr
   by_cases he:qB x=n-(k+1)
   ·right
    refine List.mem_flatMap.2 ⟨l,ih (by omega) h4 fun r hr=>?_,List.mem_map.2 ⟨x,List.mem_filter.2 ⟨List.mem_range.2 hx.1,?_⟩,rfl⟩⟩
    ·have:=h r (.tail _ hr)
     have:=(h3 r hr).1
     refine ⟨(h r (.tail _ hr)).1,by omega,by omega⟩
    ·simp [he,h1]
   ·left
    refine ih (by omega) ?_ fun r hr=>?_
    ·unfold Y2
     simp only [Bool.and_eq_true,bne_iff_ne,decide_eq_true_eq,List.all_eq_true,Bool.not_eq_true']
     exact ⟨h1,h2,h3,h4⟩
    ·rcases List.mem_cons.1 hr with rfl|hr
     ·exact ⟨hx.1,by omega,hx.2.2⟩
     ·have:=h r (.tail _ hr)
      have:=(h3 r hr).1
      exact ⟨(h r (.tail _ hr)).1,by omega,by omega⟩
theorem aCA{n:Nat}(h1:1≤n)(h5:n≤5):((Zr n n).all fun ns=>!Y2 ns||avn n ns)=true:=by
 match n,h1,h5 with
 |1,_,_=>exact aFV
 |2,_,_=>exact aFW
 |3,_,_=>exact aFX
 |4,_,_=>exact aFY
 |5,_,_=>exact aFZ
theorem aDb{r n:Nat}(h:r<2 ^ n)(h5:n≤5)(hn:r≠0):qB r<n:=by
 have h32:r<32:=Nat.lt_of_lt_of_le h (Nat.pow_le_pow_right (n:=2) (by decide) h5)
 have hl:=JG h32 hn
 apply Classical.byContradiction
 intro hc
 have h2:2 ^ qB r≤r:=Nat.ge_two_pow_of_testBit hl.1.1
 have h3:2 ^ n≤2 ^ qB r:=Nat.pow_le_pow_right (n:=2) (by decide) (by omega)
 omega
theorem aCD{n:Nat}(h1:1≤n)(h5:n≤5){ns:List Nat}(h:kK ns ns)(hb:∀r∈ns,r<2 ^ n):∃D,kK (ai7 (qY ns) ns n) D∧kK (avc n ns) D∧D.length+ns.length=n∧(∀d∈D,d<2 ^ n)∧kK D D:=by
 obtain ⟨P,c,hR,rfl,_⟩:=h
 have h32:∀a∈P,a.2<32:=fun a ha=>Nat.lt_of_lt_of_le (hb _ (List.mem_map_of_mem ha)) (Nat.pow_le_pow_right (n:=2) (by decide) h5)
 obtain ⟨hr,_⟩:=aBI hR h32
 have hm:=aAH (n:=n) n (Nat.le_refl _) hr fun r hr=>⟨hb r hr,by omega,by
  obtain ⟨a,ha,rfl⟩:=List.mem_map.1 hr
  exact aDb (hb _ (List.mem_map_of_mem ha)) h5 (aBe (hR.1 a ha).2)⟩
 have hk:=List.all_eq_true.1 (aCA h1 h5) _ hm
 rw [hr,Bool.not_true,Bool.false_or] at hk
 unfold avn at hk
 simp only [Bool.and_eq_true,List.all_eq_true,decide_eq_true_eq,beq_iff_eq,List.contains_iff_mem] at hk
 obtain ⟨k1,k2,k3,k4,k5,k6,k7⟩:=hk
 have hRD:=aBF k1
 have hmap:∀l:List Nat,(l.map fun x=>(qB x,x)).map (·.2)=l:=fun l=>by
  rw [List.map_map];exact List.map_id l
 refine ⟨_,⟨_,5,hRD,hmap _,fun v=>⟨fun hv=>hv.trans fun r hr=>aj1 (k4 r hr),fun hv=>hv.trans fun r hr=>aj1 (k5 r hr)⟩⟩,⟨_,5,hRD,hmap _,fun v=>⟨fun hv=>hv.trans fun r hr=>aj1 (k6 r hr),fun hv=>hv.trans fun r hr=>Sp.mem (k7 r hr)⟩⟩,k3,k2,⟨_,5,hRD,hmap _,fun v=>Iff.rfl⟩⟩
theorem axX{a b:Nat}(ha:a<2 ^ 63)(hb:b<2 ^ 63):ior .i64 (a:Int) (b:Int)=((a|||b:Nat):Int):=by
 have hx:a|||b<2 ^ 63:=Nat.or_lt_two_pow ha hb
 have:(BitVec.ofInt 64 (a:Int)|||BitVec.ofInt 64 (b:Int)).toNat=a|||b:=by
  rw [BitVec.toNat_or,Iz (by omega),Iz (by omega)]
 unfold ior
 show aJ .i64 (((BitVec.ofInt 64 (a:Int)|||BitVec.ofInt 64 (b:Int)).toNat:Nat):Int)=_
 rw [this,Dj (by omega)]
theorem ayg(l:List Nat)(x:Nat):up (l++[x])=up l++[(x:Int)]:=by simp [up]
theorem apX{l D:List Nat}(h:kK l D):NW (up l)=up D:=by unfold NW;rw [up_toNat,apY h]
def yA:(Int×Int)→Tre ((Int×Int) ⊕ Int):=fun s3=>
 .cond (decide (s3.2>0))
  (let v1:=iD .i64 s3.1 (Rj .i64 s3.2 1)
  let v2:=aJ .i64 (Int.tdiv s3.2 2)
  .ret (.inl (v1,v2)))
  (.ret (.inr s3.1))
def R3 (p0:Int) (p1:Int):Tre Int:=
 .mat (aL yA (0,Rj .i64 p0 p1)) fun l3=>
 .ret l3
def Bv (p0:Int) (p1:Int):Option Int:=(R3 p0 p1).run some
-- more
theorem awP:∀x:Nat,x<32→aL yA ((0:Int),(x:Int))=some (cond (agk 5 x) (1:Int) 0)
 |0,_=>by kernel_rfl
 |1,_=>by kernel_rfl
 |2,_=>by kernel_rfl
 |3,_=>by kernel_rfl
 |4,_=>by kernel_rfl
 |5,_=>by kernel_rfl
 |6,_=>by kernel_rfl
 |7,_=>by kernel_rfl
 |8,_=>by kernel_rfl
 |9,_=>by kernel_rfl
 |10,_=>by kernel_rfl
 |11,_=>by kernel_rfl
 |12,_=>by kernel_rfl
 |13,_=>by kernel_rfl
 |14,_=>by kernel_rfl
 |15,_=>by kernel_rfl
 |16,_=>by kernel_rfl
 |17,_=>by kernel_rfl
 |18,_=>by kernel_rfl
 |19,_=>by kernel_rfl
 |20,_=>by kernel_rfl
 |21,_=>by kernel_rfl
 |22,_=>by kernel_rfl
 |23,_=>by kernel_rfl
 |24,_=>by kernel_rfl
 |25,_=>by kernel_rfl
 |26,_=>by kernel_rfl
 |27,_=>by kernel_rfl
 |28,_=>by kernel_rfl
 |29,_=>by kernel_rfl
 |30,_=>by kernel_rfl
 |31,_=>by kernel_rfl
 |n+32,h=>absurd h (by omega)
theorem aB2{a b:Nat}(ha:a<32)(hb:b<32):Bv (a:Int) (b:Int)=some (cond (agk 5 (a&&&b)) (1:Int) 0):=by
 have h:a&&&b<32:=Nat.and_lt_two_pow (n:=5) a hb
 unfold Bv R3
 rw [as6 (by omega) (by omega),ah (awP _ h),Tre.aG]
def Bw:Env:=⟨tau,[],[]⟩
def XA:Code:=(Tryz.f79.body).getD .skip
def J4:(Int×Int)→St:=fun x=>bO [(5,(.i x.1)),(6,(.i x.2))] []
def G5:Int→Ex×St:=fun x=>(.exit 0,bO [(5,(.i x))] [])
def aej (s:St):Tre (Ex×St):=
 ay true .n (s.tmps 5) fun d2=>
 ay true .n (s.tmps 6) fun d4=>
 .mat (aL yA (d2,d4)) fun x=>.ret (G5 x)
def tY:bA:=⟨([5,6],[]),([5],[]),aej⟩
def J3:List (Nat×bA):=[(3,tY)]
theorem XC:∀(x:(Int×Int))(c:St→Option (Ex×St)),den Bw J3 (aR XA 0) (J4 x) (bR tY.kp tY.kx c)=(yA x).run (bS (J4) (G5) c):=fun _ _=>by
 kernel_rfl
theorem abK:bP Bw J3 (aR XA 0) tY:=bV fun _ _ _=>aH fun _=>aH fun _=>fun h e3 e1=>bJ XC h (by subst_vars;exact aM rfl rfl ⟨e1,e3,trivial⟩ trivial)
def amE:FnI:=fnI Tryz.f79 J3
def Px (_:Int) (_:Int):Int→au:=fun r=>⟨(.i r),[],[]⟩
theorem ajo:∀(p0 p1:Int),bL Bw amE ⟨[(.i p0),(.i p1)],[]⟩=(R3 p0 p1).run fun r=>some (Px p0 p1 r):=fun _ _=>by kernel_rfl
def amD (av:List AV) (rs:List Root):Tre au:=
 aD av fun a0_ av0=>
 aD av0 fun a1_ av1=>
 aN av1<|
 aN rs<|
 ay true .n a0_ fun d1=>
 ay true .n a1_ fun d2=>
 .mat (Bv d1 d2) fun r=>.ret (Px d1 d2 r)
def XB:Ctr:=dD [] amD
theorem ajp:Contract Tryz.prog .none 79 XB:=aB (V:=Bw) aV aI Tryz.func79 (bD (n:=1) fun k hk=>by
 match k,hk with
 |0,_=>exact bF (id:=3) abK) fun _ _ _=>aK fun _ _=>aK fun _ _=>bn<|bn<|aH fun _=>aH fun _=>fun h=>by intros;subst_vars;exact bB (ajo _ _) h
def kH (gN:List Int) (sJ:Int):(Bool×Int)→Tre ((Bool×Int) ⊕ Bool):=fun s7=>
 .cond (decide (s7.2<(gN.length:Int)))
  (.cond s7.1
   (.ite (0≤s7.2∧s7.2<(gN.length:Int))<|
   .mat (gN[s7.2.toNat]?) fun x2=>
   .mat (Bv x2 sJ) fun r3=>
   .ret (.inl (decide (r3=0),aJ .i64 (s7.2+1))))
   (.ret (.inr s7.1)))
  (.ret (.inr s7.1))
def qw (aX:Int) (bq:List Int):(Int×(List Int))→Tre ((Int×(List Int)) ⊕ (List Int)):=fun s3=>
 .ite (0≤aJ .u64 aX)<|
 let v1:=F7 .i64 1 (aJ .u64 aX)
 .cond (decide (s3.1<v1))
  (.mat (aL (kH bq s3.1) (true,0)) fun l4=>
  .cond l4
   (.ite ((s3.2.length+1)*8≤bI∧1≤8)<|
   .ret (.inl (aJ .i64 (s3.1+1),s3.2++([s3.1]))))
   (.ret (.inl (aJ .i64 (s3.1+1),s3.2))))
  (.ret (.inr s3.2))
def Xw (p0:Int) (p1:List Int):Tre (List Int):=
 .mat (aL (qw p0 p1) (0,[])) fun l5=>
 .mat (apW p0 l5) fun r6=>
 .ret r6
def Eh (p0:Int) (p1:List Int):Option (List Int):=(Xw p0 p1).run some
-- more
theorem aBW{ns:List Nat}{x:Nat}(hb:∀r∈ns,r<32)(hx:x<32)(hl:ns.length≤1000):∀(m i:Nat),i+m=ns.length→aL (kH (up ns) (x:Int)) (true,(i:Int))=some ((ns.drop i).all fun r=>!agk 5 (r&&&x)):=by
 intro m
 induction m with
 |zero=>
  intro i hi
  refine fE ?_
  unfold kH
  dsimp only
  rw [Tre.aA,decide_eq_false (by rw [mo];omega),cond_false,Tre.aG,List.drop_of_length_le (by omega)]
  rfl
 |succ m ih=>
  intro i hi
  have hlt:i<ns.length:=by omega
  have hg:ns[i]?=some ns[i]:=List.getElem?_eq_getElem hlt
  rw [lJ (y:=(!agk 5 (ns[i]&&&x),((i+1:Nat):Int))) (by
   unfold kH
   dsimp only
   rw [Tre.aA,decide_eq_true (by rw [mo];omega),cond_true,Tre.aA,cond_true,dM (X5 hg),ah (aB2 (hb _ (List.getElem_mem hlt)) hx),Tre.aG,aQ (by omega)]
   cases agk 5 (ns[i]&&&x)<;>rfl)]
  rw [List.drop_eq_getElem_cons hlt,List.all_cons]
  cases hp:agk 5 (ns[i]&&&x)
  ·rw [Bool.not_false,Bool.true_and]
   exact ih (i+1) (by omega)
  ·rw [Bool.not_true,Bool.false_and]
   refine fE ?_
   unfold kH
   dsimp only
   rw [Tre.aA]
   cases decide (((i+1:Nat):Int)<((up ns).length:Int))<;>rfl
theorem aBX{n:Nat}{ns D:List Nat}(h1:1≤n)(h5:n≤5)(hb:∀r∈ns,r<2 ^ n)(hl:ns.length≤1000)(hD:kK (avc n ns) D):Eh (n:Int) (up ns)=some (up D):=by
 have hp:2 ^ n≤32:=Nat.pow_le_pow_right (n:=2) (by decide) h5
 have hs:aJ .u64 (n:Int)=(n:Int):=OV (by omega) (by omega)
 have hok:Dr n (up (avc n ns))=true:=Pe (by
  have:=List.length_filter_le (fun x=>ns.all fun r=>!agk 5 (r&&&x)) (List.range (2 ^ n))
  rw [List.length_range] at this
  unfold avc
  omega) fun x hx=>List.mem_range.1 (List.mem_filter.1 hx).1
 unfold Eh Xw
 rw [ah (show aL (qw (n:Int) (up ns)) (0,[])=some (up (avc n ns)) from ?_),ah (show apW (n:Int) (up (avc n ns))=some (up D) from ?_),Tre.aG]
 ·unfold apW
  rw [gY (by rw [Bool.and_eq_true,gX,Int.toNat_natCast];exact ⟨by omega,hok⟩),apX hD]
 ·refine cO (fun x=>((x:Int),up ((List.range x).filter fun x=>ns.all fun r=>!agk 5 (r&&&x)))) (2 ^ n) _ (fun x hx=>?_) ?_
  ·have hlen:=List.length_filter_le (fun x=>ns.all fun r=>!agk 5 (r&&&x)) (List.range x)
   rw [List.length_range] at hlen
   have hin:aL (kH (up ns) (x:Int)) (true,0)=some (ns.all fun r=>!agk 5 (r&&&x)):=by
    have h:=aBW (x:=x) (fun r hr=>Nat.lt_of_lt_of_le (hb r hr) hp) (by omega) hl ns.length 0 (by omega)
    rw [List.drop_zero] at h
    exact h
   unfold qw
   dsimp only
   rw [hs,Tre.run_ite,if_pos (by omega),Wm (by omega),Tre.aA,decide_eq_true (by omega),cond_true,ah hin,Tre.aA,List.range_succ,List.filter_append]
   cases hc:ns.all fun r=>!agk 5 (r&&&x)
   ·rw [cond_false,Tre.aG,aQ (by omega),List.filter_cons_of_neg (by rw [hc];decide),List.filter_nil,List.append_nil]
   ·rw [cond_true,Tre.run_ite,if_pos (by rw [mo];unfold bI;omega),Tre.aG,aQ (by omega),List.filter_cons_of_pos (by rw [hc]),List.filter_nil,ayg]
  ·unfold qw
   dsimp only
   rw [hs,Tre.run_ite,if_pos (by omega),Wm (by omega),Tre.aA,decide_eq_false (by omega),cond_false,Tre.aG]
   rfl
def sF:Env:=⟨tau,[(79,XB),(80,Br)],[]⟩
def Ei:Code:=(Tryz.f49.body).getD .skip
def Mt (acd:Bool) (mO:Int) (gN:List Int) (sJ:Int) (yK:aT) (yL:List Int):(Bool×Int)→St:=fun x=>bO [(0,(.i mO)),(1,(.imm acd .il gN)),(4,(.ptr (6,0) [])),(5,(.ref (7,0) [])),(6,(.i sJ)),(7,(.imm true .bool x.1)),(8,(.i x.2))] [((6,0),some ⟨true,bC,.own,yK⟩),((7,0),some ⟨false,.il,.own,yL⟩)]
def JZ (acd:Bool) (mO:Int) (gN:List Int) (sJ:Int) (yK:aT) (yL:List Int):Bool→Ex×St:=fun x=>(.exit 2,bO [(0,(.i mO)),(1,(.imm acd .il gN)),(4,(.ptr (6,0) [])),(5,(.ref (7,0) [])),(6,(.i sJ)),(7,(.imm true .bool x))] [((6,0),some ⟨true,bC,.own,yK⟩),((7,0),some ⟨false,.il,.own,yL⟩)])
def agD (s:St):Tre (Ex×St):=
 ay true .n (s.tmps 0) fun d2=>
 bg .il (s.tmps 1) fun z5 d4=>
 dR (6,0) [] (s.tmps 4)<|
 dF (7,0) [] (s.tmps 5)<|
 ay true .n (s.tmps 6) fun d9=>
 ay true .bool (s.tmps 7) fun d11=>
 ay true .n (s.tmps 8) fun d13=>
 aZ true bC (s.roots (6,0)) fun m15 d16=>
 asM .own m15<|
 aZ false .il (s.roots (7,0)) fun m18 d19=>
 asM .own m18<|
 .mat (aL (kH d4 d9) (d11,d13)) fun x=>.ret (JZ z5 d2 d4 d9 d16 d19 x)
def wh:bA:=⟨([0,1,4,5,6,7,8],[(6,0),(7,0)]),([0,1,4,5,6,7],[(6,0),(7,0)]),agD⟩
def Ms (dV:Bool) (aX:Int) (bq:List Int) (dG:aT):(Int×(List Int))→St:=fun x=>bO [(0,(.i aX)),(1,(.imm dV .il bq)),(4,(.ptr (6,0) [])),(5,(.ref (7,0) [])),(6,(.i x.1))] [((6,0),some ⟨true,bC,.own,dG⟩),((7,0),some ⟨false,.il,.own,x.2⟩)]
def JY (_:Bool) (aX:Int) (_:List Int) (dG:aT):(List Int)→Ex×St:=fun x=>(.exit 0,bO [(0,(.i aX)),(4,(.ptr (6,0) [])),(5,(.ref (7,0) []))] [((6,0),some ⟨true,bC,.own,dG⟩),((7,0),some ⟨false,.il,.own,x⟩)])
def agC (s:St):Tre (Ex×St):=
 ay true .n (s.tmps 0) fun d2=>
 bg .il (s.tmps 1) fun z5 d4=>
 dR (6,0) [] (s.tmps 4)<|
 dF (7,0) [] (s.tmps 5)<|
 ay true .n (s.tmps 6) fun d9=>
 aZ true bC (s.roots (6,0)) fun m11 d12=>
 asM .own m11<|
 aZ false .il (s.roots (7,0)) fun m14 d15=>
 asM .own m14<|
 .mat (aL (qw d2 d4) (d9,d15)) fun x=>.ret (JY z5 d2 d4 d12 x)
def vZ:bA:=⟨([0,1,4,5,6],[(6,0),(7,0)]),([0,4,5],[(6,0),(7,0)]),agC⟩
def xP:List (Nat×bA):=[(7,wh),(3,vZ)]
theorem Zc:∀(acd:Bool)(mO:Int)(gN:List Int)(sJ:Int)(yK:aT)(yL:List Int)(x:(Bool×Int))(c:St→Option (Ex×St)),den sF xP (aR Ei 1) (Mt acd mO gN sJ yK yL x) (bR wh.kp wh.kx c)=(kH gN sJ x).run (bS (Mt acd mO gN sJ yK yL) (JZ acd mO gN sJ yK yL) c):=fun _ _ _ _ _ _ _ _=>by
 kernel_rfl
theorem aei:bP sF xP (aR Ei 1) wh:=bV fun _ _ _=>aH fun _=>bZ fun _ _=>gL<|fu<|aH fun _=>aH fun _=>aH fun _=>bT fun _ _=>tM<|bT fun _ _=>tM<|fun h _ e17 _ e14 e12 e10 e8 e7 e6 e3 e1=>bJ (Zc _ _ _ _ _ _) h (by subst_vars;exact aM rfl rfl ⟨e1,e3,e6,e7,e8,e10,e12,trivial⟩ ⟨e14,e17,trivial⟩)
theorem Zb:∀(dV:Bool)(aX:Int)(bq:List Int)(dG:aT)(x:(Int×(List Int)))(c:St→Option (Ex×St)),den sF xP (aR Ei 0) (Ms dV aX bq dG x) (bR vZ.kp vZ.kx c)=(qw aX bq x).run (bS (Ms dV aX bq dG) (JY dV aX bq dG) c):=fun _ _ _ _ _ _=>by
 kernel_rfl
theorem aeh:bP sF xP (aR Ei 0) vZ:=bV fun _ _ _=>aH fun _=>bZ fun _ _=>gL<|fu<|aH fun _=>bT fun _ _=>tM<|bT fun _ _=>tM<|fun h _ e13 _ e10 e8 e7 e6 e3 e1=>bJ (Zb _ _ _ _) h (by subst_vars;exact aM rfl rfl ⟨e1,e3,e6,e7,e8,trivial⟩ ⟨e10,e13,trivial⟩)
def aol:FnI:=fnI Tryz.f49 xP
def TB (_:Bool) (p0:Int) (_:List Int):(List Int)→au:=fun r=>⟨(.pair (.i p0) (.pair (.ref (1,0) []) (.imm true .unit ()))),[],[⟨false,.il,.own,r⟩]⟩
theorem amy:∀(zp0:Bool)(p0:Int)(p1:List Int),bL sF aol ⟨[(.i p0),(.imm zp0 .il p1)],[]⟩=(Xw p0 p1).run fun r=>some (TB zp0 p0 p1 r):=fun _ _ _=>by kernel_rfl
def aok (av:List AV) (rs:List Root):Tre au:=
 aD av fun a0_ av0=>
 aD av0 fun a1_ av1=>
 aN av1<|
 aN rs<|
 ay true .n a0_ fun d1=>
 bg .il a1_ fun z3 d2=>
 .mat (Eh d1 d2) fun r=>.ret (TB z3 d1 d2 r)
def Z7:Ctr:=dD [] aok
theorem amA:Contract Tryz.prog .none 49 Z7:=aB (V:=sF) aV (ak ajp aGG (ak Gd aAF aI)) Tryz.func49 (bD (n:=2) fun k hk=>by
 match k,hk with
 |0,_=>exact bF (id:=3) aeh
 |1,_=>exact bF (id:=7) aei) fun _ _ _=>aK fun _ _=>aK fun _ _=>bn<|bn<|aH fun _=>bZ fun _ _=>fun h=>by intros;subst_vars;exact bB (amy _ _ _) h
def Dh (aX:Int) (bY:List Int) (dG:Int):(Int×Int)→Tre ((Int×Int) ⊕ Int):=fun s3=>
 .cond (decide (s3.2<dG))
  (.ite (0≤s3.2∧s3.2<(bY.length:Int))<|
  .mat (bY[s3.2.toNat]?) fun x1=>
  .ite (0≤s3.2)<|
  let v2:=Rj .i64 (OU .i64 aX s3.2) 1
  .cond (decide (v2=1))
   (.ret (.inl (iD .i64 s3.1 x1,aJ .i64 (s3.2+1))))
   (.ret (.inl (s3.1,aJ .i64 (s3.2+1)))))
  (.ret (.inr s3.1))
def aqg (p0:List Int) (p1:Int):Tre Int:=
 .mat (aL (Dh p1 p0 (p0.length:Int)) (0,0)) fun l3=>
 .ret l3
def ao3 (p0:List Int) (p1:Int):Option Int:=(aqg p0 p1).run some
def aox(xs:List Int)(a:Int):Option Int:=lim xs.length (aCc a xs)
theorem aqi(p0:List Int)(p1 y:Int)(h:aox p0 p1=some y):ao3 p0 p1=some y:=by
 obtain ⟨hl,rfl⟩:=Pb h
 unfold ao3 aqg
 rw [Tre.jl]
 have:=aaE (xs:=p0) (step:=Dh p1 p0 (p0.length:Int)) (fun i acc=>(acc,(i:Int))) (fun i acc x=>.inl (cond (nO p1 (i:Int)) (iD .i64 acc x) acc)) id (by
  intro i acc x hx
  have hi:i<p0.length:=(List.getElem?_eq_some_iff.1 hx).1
  unfold Dh
  rw [dW hx,Tre.run_ite,if_pos (by dsimp only;omega),Tre.aA]
  show cond (nO p1 (i:Int)) _ _=_
  cases nO p1 (i:Int)
  ·rw [cond_false,Tre.aG,aQ (by omega)];rfl
  ·rw [cond_true,Tre.aG,aQ (by omega)];rfl)
  (by
  intro acc
  unfold Dh
  exact dB) 0
 rw [show ((0:Int),(0:Int))=(0,((0:Nat):Int)) from rfl,this]
 rfl
def Yh:Env:=⟨tau,[],[]⟩
def ao4:Code:=(Tryz.f52.body).getD .skip
def ZG (dV:Bool) (aX:Int) (bY:List Int) (dG:Int):(Int×Int)→St:=fun x=>bO [(1,(.i aX)),(5,(.i x.1)),(8,(.imm dV .il bY)),(9,(.i dG)),(10,(.i x.2))] []
def V9 (_:Bool) (_:Int) (_:List Int) (_:Int):Int→Ex×St:=fun x=>(.exit 0,bO [(5,(.i x))] [])
def aqh (s:St):Tre (Ex×St):=
 ay true .n (s.tmps 1) fun d2=>
 ay true .n (s.tmps 5) fun d4=>
 bg .il (s.tmps 8) fun z7 d6=>
 ay true .n (s.tmps 9) fun d9=>
 ay true .n (s.tmps 10) fun d11=>
 .mat (aL (Dh d2 d6 d9) (d4,d11)) fun x=>.ret (V9 z7 d2 d6 d9 x)
def Ia:bA:=⟨([1,5,8,9,10],[]),([5],[]),aqh⟩
def afR:List (Nat×bA):=[(3,Ia)]
theorem aiR:∀(dV:Bool)(aX:Int)(bY:List Int)(dG:Int)(x:(Int×Int))(c:St→Option (Ex×St)),den Yh afR (aR ao4 0) (ZG dV aX bY dG x) (bR Ia.kp Ia.kx c)=(Dh aX bY dG x).run (bS (ZG dV aX bY dG) (V9 dV aX bY dG) c):=fun _ _ _ _ _ _=>by
 kernel_rfl
theorem anN:bP Yh afR (aR ao4 0) Ia:=bV fun _ _ _=>aH fun _=>aH fun _=>bZ fun _ _=>aH fun _=>aH fun _=>fun h e10 e8 e5 e3 e1=>bJ (aiR _ _ _ _) h (by subst_vars;exact aM rfl rfl ⟨e1,e3,e5,e8,e10,trivial⟩ trivial)
def ayW:FnI:=fnI Tryz.f52 afR
def ahu (_:Bool) (_:List Int) (_:Int):Int→au:=fun r=>⟨(.i r),[],[]⟩
theorem avW:∀(zp0:Bool)(p0:List Int)(p1:Int),bL Yh ayW ⟨[(.imm zp0 .il p0),(.i p1)],[]⟩=(aqg p0 p1).run fun r=>some (ahu zp0 p0 p1 r):=fun _ _ _=>by kernel_rfl
def ayV (av:List AV) (rs:List Root):Tre au:=
 aD av fun a0_ av0=>
 aD av0 fun a1_ av1=>
 aN av1<|
 aN rs<|
 bg .il a0_ fun z2 d1=>
 ay true .n a1_ fun d3=>
 .mat (aox d1 d3) fun r=>.ret (ahu z2 d1 d3 r)
def ao5:Ctr:=dD [] ayV
theorem avX:Contract Tryz.prog .none 52 ao5:=aB (V:=Yh) aV aI Tryz.func52 (bD (n:=1) fun k hk=>by
 match k,hk with
 |0,_=>exact bF (id:=3) anN) fun _ _ _=>aK fun _ _=>aK fun _ _=>bn<|bn<|bZ fun _ _=>aH fun _=>fun h=>by intros;subst_vars;exact nR (avW _ _ _) (aqi _ _) h
def zJ (aX:List Int) (bq:Int):(Int×Int)→Tre ((Int×Int) ⊕ Int):=fun s3=>
 .cond (decide (s3.2<(aX.length:Int)))
  (.ite (0≤aJ .u64 s3.2)<|
  let v1:=OU .i64 bq (aJ .u64 s3.2)
  .cond (decide (Rj .i64 v1 1=1))
   (.ite (0≤s3.2∧s3.2<(aX.length:Int))<|
   .mat (aX[s3.2.toNat]?) fun x2=>
   .ret (.inl (iD .i64 s3.1 x2,aJ .i64 (s3.2+1))))
   (.ret (.inl (s3.1,aJ .i64 (s3.2+1)))))
  (.ret (.inr s3.1))
def amm (p0:List Int) (p1:Int):Tre Int:=
 .mat (aL (zJ p0 p1) (0,0)) fun l3=>
 .ret l3
def amn (p0:List Int) (p1:Int):Option Int:=(amm p0 p1).run some
theorem aoi(p0:List Int)(p1 y:Int)(h:aox p0 p1=some y):amn p0 p1=some y:=by
 obtain ⟨hl,rfl⟩:=Pb h
 unfold amn amm
 rw [Tre.jl]
 have:=aaE (xs:=p0) (step:=zJ p0 p1) (fun i acc=>(acc,(i:Int))) (fun i acc x=>.inl (cond (nO p1 (i:Int)) (iD .i64 acc x) acc)) id (by
  intro i acc x hx
  have hi:i<p0.length:=(List.getElem?_eq_some_iff.1 hx).1
  have hu:aJ .u64 (i:Int)=(i:Int):=OV (by omega) (by omega)
  unfold zJ
  dsimp only
  rw [Tre.aA,decide_eq_true (by omega),cond_true,hu,Tre.run_ite,if_pos (by omega),Tre.aA]
  show cond (nO p1 (i:Int)) _ _=_
  cases nO p1 (i:Int)
  ·rw [cond_false,Tre.aG,aQ (by omega)];rfl
  ·rw [cond_true,dM hx,Tre.aG,aQ (by omega)];rfl)
  (by
  intro acc
  unfold zJ
  exact dB) 0
 rw [show ((0:Int),(0:Int))=(0,((0:Nat):Int)) from rfl,this]
 rfl
def RX:Env:=⟨tau,[],[]⟩
def amo:Code:=(Tryz.f50.body).getD .skip
def Xr (dV:Bool) (aX:List Int) (bq:Int):(Int×Int)→St:=fun x=>bO [(0,(.imm dV .il aX)),(1,(.i bq)),(5,(.i x.1)),(6,(.i x.2))] []
def TA (_:Bool) (_:List Int) (_:Int):Int→Ex×St:=fun x=>(.exit 0,bO [(5,(.i x))] [])
def aoh (s:St):Tre (Ex×St):=
 bg .il (s.tmps 0) fun z3 d2=>
 ay true .n (s.tmps 1) fun d5=>
 ay true .n (s.tmps 5) fun d7=>
 ay true .n (s.tmps 6) fun d9=>
 .mat (aL (zJ d2 d5) (d7,d9)) fun x=>.ret (TA z3 d2 d5 x)
def Ef:bA:=⟨([0,1,5,6],[]),([5],[]),aoh⟩
def abE:List (Nat×bA):=[(3,Ef)]
theorem agB:∀(dV:Bool)(aX:List Int)(bq:Int)(x:(Int×Int))(c:St→Option (Ex×St)),den RX abE (aR amo 0) (Xr dV aX bq x) (bR Ef.kp Ef.kx c)=(zJ aX bq x).run (bS (Xr dV aX bq) (TA dV aX bq) c):=fun _ _ _ _ _=>by
 kernel_rfl
theorem amr:bP RX abE (aR amo 0) Ef:=bV fun _ _ _=>bZ fun _ _=>aH fun _=>aH fun _=>aH fun _=>fun h e8 e6 e4 e1=>bJ (agB _ _ _) h (by subst_vars;exact aM rfl rfl ⟨e1,e4,e6,e8,trivial⟩ trivial)
def awC:FnI:=fnI Tryz.f50 abE
def aeb (_:Bool) (_:List Int) (_:Int):Int→au:=fun r=>⟨(.i r),[],[]⟩
theorem aun:∀(zp0:Bool)(p0:List Int)(p1:Int),bL RX awC ⟨[(.imm zp0 .il p0),(.i p1)],[]⟩=(amm p0 p1).run fun r=>some (aeb zp0 p0 p1 r):=fun _ _ _=>by kernel_rfl
def awz (av:List AV) (rs:List Root):Tre au:=
 aD av fun a0_ av0=>
 aD av0 fun a1_ av1=>
 aN av1<|
 aN rs<|
 bg .il a0_ fun z2 d1=>
 ay true .n a1_ fun d3=>
 .mat (aox d1 d3) fun r=>.ret (aeb z2 d1 d3 r)
def amq:Ctr:=dD [] awz
theorem auo:Contract Tryz.prog .none 50 amq:=aB (V:=RX) aV aI Tryz.func50 (bD (n:=1) fun k hk=>by
 match k,hk with
 |0,_=>exact bF (id:=3) amr) fun _ _ _=>aK fun _ _=>aK fun _ _=>bn<|bn<|bZ fun _ _=>aH fun _=>fun h=>by intros;subst_vars;exact nR (aun _ _ _) (aoi _ _) h
def ah7 (p0:Int) (p1:Int):Tre Int:=
 let v1:=aJ .i64 (Int.tdiv (aJ .i64 (p0-p1)) 2)
 .ret v1
def aor (p0:Int) (p1:Int):Option Int:=(ah7 p0 p1).run some
def xR(p0 p1:Int):Int:=
 let v1:=aJ .i64 (Int.tdiv (aJ .i64 (p0-p1)) 2)
 v1
theorem ag0(p0 p1:Int):aor p0 p1=some (xR p0 p1):=rfl
def aaj:Env:=⟨tau,[],[]⟩
def aot:FnI:=fnI Tryz.f55 []
def TW (_:Int) (_:Int):Int→au:=fun r=>⟨(.i r),[],[]⟩
theorem amZ:∀(p0 p1:Int),bL aaj aot ⟨[(.i p0),(.i p1)],[]⟩=(ah7 p0 p1).run fun r=>some (TW p0 p1 r):=fun _ _=>by kernel_rfl
def aos (av:List AV) (rs:List Root):Tre au:=
 aD av fun a0_ av0=>
 aD av0 fun a1_ av1=>
 aN av1<|
 aN rs<|
 ay true .n a0_ fun d1=>
 ay true .n a1_ fun d2=>
 .ret (TW d1 d2 (xR d1 d2))
def aak:Ctr:=dD [] aos
theorem am0:Contract Tryz.prog .none 55 aak:=aB (V:=aaj) aV aI Tryz.func55 bN fun _ _ _=>aK fun _ _=>aK fun _ _=>bn<|bn<|aH fun _=>aH fun _=>fun h=>by intros;subst_vars;exact sW (amZ _ _) (ag0 _ _) h
def Xk (aX:Int) (bq:Int) (dI:(Int×(Int×Unit))):(Int×Int)→Tre ((Int×Int) ⊕ Int):=fun s3=>
 .cond (decide (s3.2<dI.1))
  (.ite (0≤aJ .u64 s3.2)<|
  let v1:=OU .i64 bq (aJ .u64 s3.2)
  .cond (decide (Rj .i64 v1 1=1))
   (.ite (0≤aJ .u64 s3.2)<|
   let v2:=F7 .i64 aX (aJ .u64 s3.2)
   .ret (.inl (iD .i64 s3.1 v2,aJ .i64 (s3.2+1))))
   (.ret (.inl (s3.1,aJ .i64 (s3.2+1)))))
  (.ret (.inr s3.1))
def auh (p0:(Int×(Int×Unit))) (p1:Int) (p2:Int):Tre Int:=
 .mat (aL (Xk p1 p2 p0) (0,0)) fun l3=>
 .mat (Xo l3 p0.2.1) fun r4=>
 .ret r4
def dY (p0:(Int×(Int×Unit))) (p1:Int) (p2:Int):Option Int:=(auh p0 p1 p2).run some
-- more
set_option maxRecDepth 100000
theorem aFG:zZ dY mulN 1 2=true:=by kernel_rfl
theorem aFH:zZ dY mulN 1 3=true:=by kernel_rfl
theorem aFI:zZ dY mulN 2 7=true:=by kernel_rfl
theorem aDz:zZ dY mulN 3 11=true:=by kernel_rfl
theorem aDA:zZ dY mulN 3 13=true:=by kernel_rfl
theorem aDB:zZ dY mulN 4 19=true:=by kernel_rfl
theorem aDC:zZ dY mulN 4 25=true:=by kernel_rfl
theorem aDD:zZ dY mulN 4 31=true:=by kernel_rfl
theorem aDE:zZ dY mulN 5 37=true:=by kernel_rfl
theorem aDF:zZ dY mulN 5 41=true:=by kernel_rfl
theorem aDG:zZ dY mulN 5 47=true:=by kernel_rfl
theorem aDH:zZ dY mulN 5 55=true:=by kernel_rfl
theorem aDI:zZ dY mulN 5 59=true:=by kernel_rfl
theorem aDJ:zZ dY mulN 5 61=true:=by kernel_rfl
theorem ax8{f:TF3}(hf:aO f=true){a b:Int}(ha:inF f a)(hb:inF f b):dY f a b=some (gH f a b):=by
 refine aCj (fun q hq=>?_) hf ha hb
 simp only [iZ,List.mem_cons,List.not_mem_nil,or_false] at hq
 rcases hq with rfl|rfl|rfl|rfl|rfl|rfl|rfl|rfl|rfl|rfl|rfl|rfl|rfl|rfl
 ·exact aFG
 ·exact aFH
 ·exact aFI
 ·exact aDz
 ·exact aDA
 ·exact aDB
 ·exact aDC
 ·exact aDD
 ·exact aDE
 ·exact aDF
 ·exact aDG
 ·exact aDH
 ·exact aDI
 ·exact aDJ
def RQ:Env:=⟨tau,[(103,Xp)],[]⟩
def amf:Code:=(Tryz.f68.body).getD .skip
def Xl (aX:Int) (bq:Int) (dI:(Int×(Int×Unit))):(Int×Int)→St:=fun x=>bO [(1,(.i aX)),(2,(.i bq)),(3,(.ptr (5,0) [])),(7,(.i x.1)),(8,(.i x.2))] [((5,0),some ⟨true,aP,.own,dI⟩)]
def Tw (_:Int) (_:Int) (dI:(Int×(Int×Unit))):Int→Ex×St:=fun x=>(.exit 0,bO [(3,(.ptr (5,0) [])),(7,(.i x))] [((5,0),some ⟨true,aP,.own,dI⟩)])
def aoc (s:St):Tre (Ex×St):=
 ay true .n (s.tmps 1) fun d2=>
 ay true .n (s.tmps 2) fun d4=>
 dR (5,0) [] (s.tmps 3)<|
 ay true .n (s.tmps 7) fun d7=>
 ay true .n (s.tmps 8) fun d9=>
 aZ true aP (s.roots (5,0)) fun m11 d12=>
 asM .own m11<|
 .mat (aL (Xk d2 d4 d12) (d7,d9)) fun x=>.ret (Tw d2 d4 d12 x)
def Ed:bA:=⟨([1,2,3,7,8],[(5,0)]),([3,7],[(5,0)]),aoc⟩
def abC:List (Nat×bA):=[(3,Ed)]
theorem agw:∀(aX bq:Int)(dI:(Int×(Int×Unit)))(x:(Int×Int))(c:St→Option (Ex×St)),den RQ abC (aR amf 0) (Xl aX bq dI x) (bR Ed.kp Ed.kx c)=(Xk aX bq dI x).run (bS (Xl aX bq dI) (Tw aX bq dI) c):=fun _ _ _ _ _=>by
 kernel_rfl
theorem amg:bP RQ abC (aR amf 0) Ed:=bV fun _ _ _=>aH fun _=>aH fun _=>gL<|aH fun _=>aH fun _=>bT fun _ _=>tM<|fun h _ e10 e8 e6 e5 e3 e1=>bJ (agw _ _ _) h (by subst_vars;exact aM rfl rfl ⟨e1,e3,e5,e6,e8,trivial⟩ ⟨e10,trivial⟩)
def awx:FnI:=fnI Tryz.f68 abC
def ad3 (_:(Int×(Int×Unit))) (_:Int) (_:Int):Int→au:=fun r=>⟨(.i r),[],[]⟩
theorem aui:∀(p0:(Int×(Int×Unit)))(p1 p2:Int),bL RQ awx ⟨[(.imm true aP p0),(.i p1),(.i p2)],[]⟩=(auh p0 p1 p2).run fun r=>some (ad3 p0 p1 p2 r):=fun _ _ _=>by kernel_rfl
def aww (av:List AV) (rs:List Root):Tre au:=
 aD av fun a0_ av0=>
 aD av0 fun a1_ av1=>
 aD av1 fun a2_ av2=>
 aN av2<|
 aN rs<|
 ay true aP a0_ fun d1=>
 ay true .n a1_ fun d2=>
 ay true .n a2_ fun d3=>
 .mat (dY d1 d2 d3) fun r=>.ret (ad3 d1 d2 d3 r)
def uX:Ctr:=dD [] aww
theorem uY:Contract Tryz.prog .none 68 uX:=aB (V:=RQ) aV (ak ad8 aAx aI) Tryz.func68 (bD (n:=1) fun k hk=>by
 match k,hk with
 |0,_=>exact bF (id:=3) amg) fun _ _ _=>aK fun _ _=>aK fun _ _=>aK fun _ _=>bn<|bn<|aH fun _=>aH fun _=>aH fun _=>fun h=>by intros;subst_vars;exact bB (aui _ _ _) h
def Rf:(Int×Int×Int)→Tre ((Int×Int×Int) ⊕ Int):=fun s2=>
 .cond (decide (s2.2.1>0))
  (.cond (decide (Rj .i64 s2.2.1 1=1))
   (.ret (.inl (F7 .i64 s2.1 1,OU .i64 s2.2.1 1,iD .i64 s2.2.2 s2.1)))
   (.ret (.inl (F7 .i64 s2.1 1,OU .i64 s2.2.1 1,s2.2.2))))
  (.ret (.inr s2.2.2))
def ao2 (p0:Int) (p1:Int):Tre Int:=
 .mat (aL Rf (p0,p1,0)) fun l1=>
 .ret l1
def ahq (p0:Int) (p1:Int):Option Int:=(ao2 p0 p1).run some
def LK:Env:=⟨tau,[],[]⟩
def ahr:Code:=(Tryz.f112.body).getD .skip
def SX:(Int×Int×Int)→St:=fun x=>bO [(0,(.i x.1)),(1,(.i x.2.1)),(5,(.i x.2.2))] []
def OP:Int→Ex×St:=fun x=>(.exit 0,bO [(5,(.i x))] [])
def ak5 (s:St):Tre (Ex×St):=
 ay true .n (s.tmps 0) fun d2=>
 ay true .n (s.tmps 1) fun d4=>
 ay true .n (s.tmps 5) fun d6=>
 .mat (aL Rf (d2,d4,d6)) fun x=>.ret (OP x)
def AX:bA:=⟨([0,1,5],[]),([5],[]),ak5⟩
def V5:List (Nat×bA):=[(2,AX)]
theorem ac0:∀(x:(Int×Int×Int))(c:St→Option (Ex×St)),den LK V5 (aR ahr 0) (SX x) (bR AX.kp AX.kx c)=(Rf x).run (bS (SX) (OP) c):=fun _ _=>by
 kernel_rfl
theorem aiM:bP LK V5 (aR ahr 0) AX:=bV fun _ _ _=>aH fun _=>aH fun _=>aH fun _=>fun h e5 e3 e1=>bJ ac0 h (by subst_vars;exact aM rfl rfl ⟨e1,e3,e5,trivial⟩ trivial)
def asX:FnI:=fnI Tryz.f112 V5
def ZE (_:Int) (_:Int):Int→au:=fun r=>⟨(.i r),[],[]⟩
theorem aqe:∀(p0 p1:Int),bL LK asX ⟨[(.i p0),(.i p1)],[]⟩=(ao2 p0 p1).run fun r=>some (ZE p0 p1 r):=fun _ _=>by kernel_rfl
def asW (av:List AV) (rs:List Root):Tre au:=
 aD av fun a0_ av0=>
 aD av0 fun a1_ av1=>
 aN av1<|
 aN rs<|
 ay true .n a0_ fun d1=>
 ay true .n a1_ fun d2=>
 .mat (ahq d1 d2) fun r=>.ret (ZE d1 d2 r)
def ahs:Ctr:=dD [] asW
theorem aqf:Contract Tryz.prog .none 112 ahs:=aB (V:=LK) aV aI Tryz.func112 (bD (n:=1) fun k hk=>by
 match k,hk with
 |0,_=>exact bF (id:=2) aiM) fun _ _ _=>aK fun _ _=>aK fun _ _=>bn<|bn<|aH fun _=>aH fun _=>fun h=>by intros;subst_vars;exact bB (aqe _ _) h
def Nj:(Int×Int)→Tre ((Int×Int) ⊕ Int):=fun s2=>
 .cond (decide (s2.1>0))
  (.ret (.inl (OU .i64 s2.1 1,aJ .i64 (s2.2+1))))
  (.ret (.inr s2.2))
def akU (p0:Int):Tre Int:=
 .mat (aL Nj (p0,-1)) fun l1=>
 .ret l1
def qW (p0:Int):Option Int:=(akU p0).run some
def H8:Env:=⟨tau,[],[]⟩
def acT:Code:=(Tryz.f133.body).getD .skip
def OL:(Int×Int)→St:=fun x=>bO [(0,(.i x.1)),(3,(.i x.2))] []
def LC:Int→Ex×St:=fun x=>(.exit 0,bO [(3,(.i x))] [])
def aiJ (s:St):Tre (Ex×St):=
 ay true .n (s.tmps 0) fun d2=>
 ay true .n (s.tmps 3) fun d4=>
 .mat (aL Nj (d2,d4)) fun x=>.ret (LC x)
def yh:bA:=⟨([0,3],[]),([3],[]),aiJ⟩
def Rc:List (Nat×bA):=[(2,yh)]
theorem aa5:∀(x:(Int×Int))(c:St→Option (Ex×St)),den H8 Rc (aR acT 0) (OL x) (bR yh.kp yh.kx c)=(Nj x).run (bS (OL) (LC) c):=fun _ _=>by
 kernel_rfl
theorem afK:bP H8 Rc (aR acT 0) yh:=bV fun _ _ _=>aH fun _=>aH fun _=>fun h e3 e1=>bJ aa5 h (by subst_vars;exact aM rfl rfl ⟨e1,e3,trivial⟩ trivial)
def aqa:FnI:=fnI Tryz.f133 Rc
def V4 (_:Int):Int→au:=fun r=>⟨(.i r),[],[]⟩
theorem anL:∀(p0:Int),bL H8 aqa ⟨[(.i p0)],[]⟩=(akU p0).run fun r=>some (V4 p0 r):=fun _=>by kernel_rfl
def ap9 (av:List AV) (rs:List Root):Tre au:=
 aD av fun a0_ av0=>
 aN av0<|
 aN rs<|
 ay true .n a0_ fun d1=>
 .mat (qW d1) fun r=>.ret (V4 d1 r)
def H9:Ctr:=dD [] ap9
theorem Nk:Contract Tryz.prog .none 133 H9:=aB (V:=H8) aV aI Tryz.func133 (bD (n:=1) fun k hk=>by
 match k,hk with
 |0,_=>exact bF (id:=2) afK) fun _ _ _=>aK fun _ _=>bn<|bn<|aH fun _=>fun h=>by intros;subst_vars;exact bB (anL _) h
def V6 (bK:Int) (dA:Int):Int→Tre (Int ⊕ Int):=fun s2=>
 .mat (qW s2) fun r2=>
 .cond (decide (r2 ≥ dA))
  (.mat (qW s2) fun r3=>
  .ite (0≤aJ .i64 (r3-dA))<|
  let v4:=F7 .i64 bK (aJ .i64 (r3-dA))
  .ret (.inl (iD .i64 s2 v4)))
  (.ret (.inr s2))
def as0 (p0:Int) (p1:Int):Tre Int:=
 .mat (qW p1) fun r1=>
 .mat (aL (V6 p1 r1) p0) fun l5=>
 .ret l5
def abb (p0:Int) (p1:Int):Option Int:=(as0 p0 p1).run some
def Ri:Env:=⟨tau,[(133,H9)],[]⟩
def ak9:Code:=(Tryz.f111.body).getD .skip
def V7 (bK:Int) (dA:Int):Int→St:=fun x=>bO [(0,(.i x)),(1,(.i bK)),(5,(.i dA))] []
def SY (_:Int) (_:Int):Int→Ex×St:=fun x=>(.exit 0,bO [(0,(.i x))] [])
def anM (s:St):Tre (Ex×St):=
 ay true .n (s.tmps 0) fun d2=>
 ay true .n (s.tmps 1) fun d4=>
 ay true .n (s.tmps 5) fun d6=>
 .mat (aL (V6 d4 d6) d2) fun x=>.ret (SY d4 d6 x)
def D7:bA:=⟨([0,1,5],[]),([0],[]),anM⟩
def aa9:List (Nat×bA):=[(2,D7)]
theorem afO:∀(bK dA x:Int)(c:St→Option (Ex×St)),den Ri aa9 (aR ak9 0) (V7 bK dA x) (bR D7.kp D7.kx c)=(V6 bK dA x).run (bS (V7 bK dA) (SY bK dA) c):=fun _ _ _ _=>by
 kernel_rfl
theorem ala:bP Ri aa9 (aR ak9 0) D7:=bV fun _ _ _=>aH fun _=>aH fun _=>aH fun _=>fun h e5 e3 e1=>bJ (afO _ _) h (by subst_vars;exact aM rfl rfl ⟨e1,e3,e5,trivial⟩ trivial)
def avV:FnI:=fnI Tryz.f111 aa9
def ac2 (_:Int) (_:Int):Int→au:=fun r=>⟨(.i r),[],[]⟩
theorem as1:∀(p0 p1:Int),bL Ri avV ⟨[(.i p0),(.i p1)],[]⟩=(as0 p0 p1).run fun r=>some (ac2 p0 p1 r):=fun _ _=>by kernel_rfl
def avU (av:List AV) (rs:List Root):Tre au:=
 aD av fun a0_ av0=>
 aD av0 fun a1_ av1=>
 aN av1<|
 aN rs<|
 ay true .n a0_ fun d1=>
 ay true .n a1_ fun d2=>
 .mat (abb d1 d2) fun r=>.ret (ac2 d1 d2 r)
def abd:Ctr:=dD [] avU
theorem aht:Contract Tryz.prog .none 111 abd:=aB (V:=Ri) aV (ak Nk avI aI) Tryz.func111 (bD (n:=1) fun k hk=>by
 match k,hk with
 |0,_=>exact bF (id:=2) ala) fun _ _ _=>aK fun _ _=>aK fun _ _=>bn<|bn<|aH fun _=>aH fun _=>fun h=>by intros;subst_vars;exact bB (as1 _ _) h
def ahl (p0:(Int×(Int×Unit))) (p1:Int) (p2:Int):Tre Int:=
 .mat (ahq p1 p2) fun r1=>
 .mat (abb r1 p0.2.1) fun r2=>
 .ret r2
def cK (p0:(Int×(Int×Unit))) (p1:Int) (p2:Int):Option Int:=(ahl p0 p1 p2).run some
-- more
set_option maxRecDepth 100000
theorem aFb:zZ cK mulN 1 2=true:=by kernel_rfl
theorem aFc:zZ cK mulN 1 3=true:=by kernel_rfl
theorem aFd:zZ cK mulN 2 7=true:=by kernel_rfl
theorem aCV:zZ cK mulN 3 11=true:=by kernel_rfl
theorem aCW:zZ cK mulN 3 13=true:=by kernel_rfl
theorem aCX:zZ cK mulN 4 19=true:=by kernel_rfl
theorem aCY:zZ cK mulN 4 25=true:=by kernel_rfl
theorem aCZ:zZ cK mulN 4 31=true:=by kernel_rfl
theorem aC0:zZ cK mulN 5 37=true:=by kernel_rfl
theorem aC1:zZ cK mulN 5 41=true:=by kernel_rfl
theorem aC2:zZ cK mulN 5 47=true:=by kernel_rfl
theorem aC3:zZ cK mulN 5 55=true:=by kernel_rfl
theorem aC4:zZ cK mulN 5 59=true:=by kernel_rfl
theorem aC5:zZ cK mulN 5 61=true:=by kernel_rfl
theorem aqm{f:TF3}(hf:aO f=true){a b:Int}(ha:inF f a)(hb:inF f b):cK f a b=some (gH f a b):=by
 refine aCj (fun q hq=>?_) hf ha hb
 simp only [iZ,List.mem_cons,List.not_mem_nil,or_false] at hq
 rcases hq with rfl|rfl|rfl|rfl|rfl|rfl|rfl|rfl|rfl|rfl|rfl|rfl|rfl|rfl
 ·exact aFb
 ·exact aFc
 ·exact aFd
 ·exact aCV
 ·exact aCW
 ·exact aCX
 ·exact aCY
 ·exact aCZ
 ·exact aC0
 ·exact aC1
 ·exact aC2
 ·exact aC3
 ·exact aC4
 ·exact aC5
def Zw:Env:=⟨tau,[(112,ahs),(111,abd)],[]⟩
def anJ:FnI:=fnI Tryz.f75 []
def SC (_:(Int×(Int×Unit))) (_:Int) (_:Int):Int→au:=fun r=>⟨(.i r),[],[]⟩
theorem akN:∀(p0:(Int×(Int×Unit)))(p1 p2:Int),bL Zw anJ ⟨[(.imm true aP p0),(.i p1),(.i p2)],[]⟩=(ahl p0 p1 p2).run fun r=>some (SC p0 p1 p2 r):=fun _ _ _=>by kernel_rfl
def anI (av:List AV) (rs:List Root):Tre au:=
 aD av fun a0_ av0=>
 aD av0 fun a1_ av1=>
 aD av1 fun a2_ av2=>
 aN av2<|
 aN rs<|
 ay true aP a0_ fun d1=>
 ay true .n a1_ fun d2=>
 ay true .n a2_ fun d3=>
 .mat (cK d1 d2 d3) fun r=>.ret (SC d1 d2 d3 r)
def oN:Ctr:=dD [] anI
theorem p8:Contract Tryz.prog .none 75 oN:=aB (V:=Zw) aV (ak aqf aEJ (ak aht aAy aI)) Tryz.func75 bN fun _ _ _=>aK fun _ _=>aK fun _ _=>aK fun _ _=>bn<|bn<|aH fun _=>aH fun _=>aH fun _=>fun h=>by intros;subst_vars;exact bB (akN _ _ _) h
def kT (bK:Int) (bM:(Int×(Int×Unit))):(Int×Int)→Tre ((Int×Int) ⊕ Int):=fun s2=>
 .cond (decide (s2.2<bK))
  (.mat (cK bM s2.1 s2.1) fun r1=>
  .ret (.inl (r1,aJ .i64 (s2.2+1))))
  (.ret (.inr s2.1))
def Jf (p0:(Int×(Int×Unit))) (p1:Int) (p2:Int):Tre Int:=
 .ifn (p0.1=0)<|
 .mat (aL (kT (Int.tmod p2 p0.1) p0) (p1,0)) fun l2=>
 .ret l2
def gD (p0:(Int×(Int×Unit))) (p1:Int) (p2:Int):Option Int:=(Jf p0 p1 p2).run some
-- more
theorem aql{f:TF3}(hf:aO f=true){a b:Nat}(ha:a<(FOf f hf).q)(hb:b<(FOf f hf).q):cK f (a:Int) (b:Int)=some (((FOf f hf).mul a b:Nat):Int):=by
 rw [aqm hf ((ZJ hf).2 ⟨a,rfl,ha⟩) ((ZJ hf).2 ⟨b,rfl,hb⟩),aqR hf ha hb]
theorem aCG{f:TF3}(hf:aO f=true):f.1=(f.1.toNat:Int)∧f.1≠0∧1≤f.1.toNat∧f.1.toNat≤5:=by
 have:=nQ hf
 refine ⟨by omega,by omega,by omega,by omega⟩
theorem alq{f:TF3}(hf:aO f=true){x:Nat}(hx:x<(FOf f hf).q)(k:Nat):gD f (x:Int) (k:Int)=some (((FOf f hf).sqn k x:Nat):Int):=by
 obtain ⟨h1,h2,h3,h4⟩:=aCG hf
 have hm:Int.tmod (k:Int) f.1=((k%f.1.toNat:Nat):Int):=by
  conv=>lhs;rw [h1]
  exact (Int.ofNat_tmod k f.1.toNat).symm
 have hml:k%f.1.toNat<f.1.toNat:=Nat.mod_lt _ (by omega)
 unfold gD Jf
 rw [Tre.RL,if_neg h2,hm,ah (show aL (kT ((k%f.1.toNat:Nat):Int) f) ((x:Int),0)=some (((FOf f hf).sqn k x:Nat):Int) from ?_),Tre.aG]
 refine cO (fun i=>(((((FOf f hf).sqn i x:Nat):Int)),(i:Int))) (k%f.1.toNat) _ (fun i hi=>?_) ?_
 ·have hl:=(FOf f hf).NR i hx
  unfold kT
  dsimp only
  rw [Tre.aA,decide_eq_true (by omega),cond_true,ah (aql hf hl hl),Tre.aG,aQ (by omega),FO.auW]
  rfl
 ·unfold kT
  dsimp only
  rw [dB,Tre.aG,aeR hf hx]
def vM:Env:=⟨tau,[(75,oN)],[]⟩
def Oq:Code:=(Tryz.f62.body).getD .skip
def EG (bK:Int) (bM:(Int×(Int×Unit))):(Int×Int)→St:=fun x=>bO [(1,(.i x.1)),(3,(.ptr (5,0) [])),(10,(.i bK)),(11,(.i x.2))] [((5,0),some ⟨true,aP,.own,bM⟩)]
def Cm (_:Int) (_:(Int×(Int×Unit))):Int→Ex×St:=fun x=>(.exit 0,bO [(1,(.i x))] [])
def YE (s:St):Tre (Ex×St):=
 ay true .n (s.tmps 1) fun d2=>
 dR (5,0) [] (s.tmps 3)<|
 ay true .n (s.tmps 10) fun d5=>
 ay true .n (s.tmps 11) fun d7=>
 aZ true aP (s.roots (5,0)) fun m9 d10=>
 asM .own m9<|
 .mat (aL (kT d5 d10) (d2,d7)) fun x=>.ret (Cm d5 d10 x)
def pz:bA:=⟨([1,3,10,11],[(5,0)]),([1],[]),YE⟩
def CY:List (Nat×bA):=[(2,pz)]
theorem QZ:∀(bK:Int)(bM:(Int×(Int×Unit)))(x:(Int×Int))(c:St→Option (Ex×St)),den vM CY (aR Oq 0) (EG bK bM x) (bR pz.kp pz.kx c)=(kT bK bM x).run (bS (EG bK bM) (Cm bK bM) c):=fun _ _ _ _=>by
 kernel_rfl
theorem VD:bP vM CY (aR Oq 0) pz:=bV fun _ _ _=>aH fun _=>gL<|aH fun _=>aH fun _=>bT fun _ _=>tM<|fun h _ e8 e6 e4 e3 e1=>bJ (QZ _ _) h (by subst_vars;exact aM rfl rfl ⟨e1,e3,e4,e6,trivial⟩ ⟨e8,trivial⟩)
def afy:FnI:=fnI Tryz.f62 CY
def Jg (_:(Int×(Int×Unit))) (_:Int) (_:Int):Int→au:=fun r=>⟨(.i r),[],[]⟩
theorem acK:∀(p0:(Int×(Int×Unit)))(p1 p2:Int),bL vM afy ⟨[(.imm true aP p0),(.i p1),(.i p2)],[]⟩=(Jf p0 p1 p2).run fun r=>some (Jg p0 p1 p2 r):=fun _ _ _=>by kernel_rfl
def afx (av:List AV) (rs:List Root):Tre au:=
 aD av fun a0_ av0=>
 aD av0 fun a1_ av1=>
 aD av1 fun a2_ av2=>
 aN av2<|
 aN rs<|
 ay true aP a0_ fun d1=>
 ay true .n a1_ fun d2=>
 ay true .n a2_ fun d3=>
 .mat (gD d1 d2 d3) fun r=>.ret (Jg d1 d2 d3 r)
def mH:Ctr:=dD [] afx
theorem og:Contract Tryz.prog .none 62 mH:=aB (V:=vM) aV (ak p8 aoU aI) Tryz.func62 (bD (n:=1) fun k hk=>by
 match k,hk with
 |0,_=>exact bF (id:=2) VD) fun _ _ _=>aK fun _ _=>aK fun _ _=>aK fun _ _=>bn<|bn<|aH fun _=>aH fun _=>aH fun _=>fun h=>by intros;subst_vars;exact bB (acK _ _ _) h
def qo (dA:(Int×(Int×Unit))):(Int×Int)→Tre ((Int×Int) ⊕ Int):=fun s2=>
 .cond (decide (s2.2>0))
  (.mat (dY dA s2.1 s2.1) fun r1=>
  .ret (.inl (r1,aJ .i64 (s2.2-1))))
  (.ret (.inr s2.1))
def Xq (p0:(Int×(Int×Unit))) (p1:Int) (p2:Int):Tre Int:=
 .ifn (p0.1=0)<|
 .mat (aL (qo p0) (p1,Int.tmod p2 p0.1)) fun l2=>
 .ret l2
def mE (p0:(Int×(Int×Unit))) (p1:Int) (p2:Int):Option Int:=(Xq p0 p1 p2).run some
-- more
theorem am6{f:TF3}(hf:aO f=true){a b:Nat}(ha:a<(FOf f hf).q)(hb:b<(FOf f hf).q):dY f (a:Int) (b:Int)=some (((FOf f hf).mul a b:Nat):Int):=by
 rw [ax8 hf ((ZJ hf).2 ⟨a,rfl,ha⟩) ((ZJ hf).2 ⟨b,rfl,hb⟩),aqR hf ha hb]
theorem am9{f:TF3}(hf:aO f=true){x:Nat}(hx:x<(FOf f hf).q)(k:Nat):mE f (x:Int) (k:Int)=some (((FOf f hf).sqn k x:Nat):Int):=by
 obtain ⟨h1,h2,h3,h4⟩:=aCG hf
 have hm:Int.tmod (k:Int) f.1=((k%f.1.toNat:Nat):Int):=by
  conv=>lhs;rw [h1]
  exact (Int.ofNat_tmod k f.1.toNat).symm
 have hml:k%f.1.toNat<f.1.toNat:=Nat.mod_lt _ (by omega)
 unfold mE Xq
 rw [Tre.RL,if_neg h2,hm,ah (show aL (qo f) ((x:Int),((k%f.1.toNat:Nat):Int))=some (((FOf f hf).sqn k x:Nat):Int) from ?_),Tre.aG]
 refine cO (fun i=>(((((FOf f hf).sqn i x:Nat):Int)),((k%f.1.toNat-i:Nat):Int))) (k%f.1.toNat) _ (fun i hi=>?_) ?_
 ·have hl:=(FOf f hf).NR i hx
  unfold qo
  dsimp only
  rw [Tre.aA,decide_eq_true (by omega),cond_true,ah (am6 hf hl hl),Tre.aG,gP (by omega) (by omega),FO.auW,Nat.sub_sub]
  rfl
 ·unfold qo
  dsimp only
  rw [Nat.sub_self,Tre.aA,decide_eq_false (by omega),cond_false,Tre.aG,aeR hf hx]
def Ee:Env:=⟨tau,[(68,uX)],[]⟩
def Z6:Code:=(Tryz.f56.body).getD .skip
def Ml (dA:(Int×(Int×Unit))):(Int×Int)→St:=fun x=>bO [(1,(.i x.1)),(2,(.i x.2)),(3,(.ptr (5,0) []))] [((5,0),some ⟨true,aP,.own,dA⟩)]
def JV (_:(Int×(Int×Unit))):Int→Ex×St:=fun x=>(.exit 0,bO [(1,(.i x))] [])
def agA (s:St):Tre (Ex×St):=
 ay true .n (s.tmps 1) fun d2=>
 ay true .n (s.tmps 2) fun d4=>
 dR (5,0) [] (s.tmps 3)<|
 aZ true aP (s.roots (5,0)) fun m7 d8=>
 asM .own m7<|
 .mat (aL (qo d8) (d2,d4)) fun x=>.ret (JV d8 x)
def vY:bA:=⟨([1,2,3],[(5,0)]),([1],[]),agA⟩
def NG:List (Nat×bA):=[(2,vY)]
theorem Y7:∀(dA:(Int×(Int×Unit)))(x:(Int×Int))(c:St→Option (Ex×St)),den Ee NG (aR Z6 0) (Ml dA x) (bR vY.kp vY.kx c)=(qo dA x).run (bS (Ml dA) (JV dA) c):=fun _ _ _=>by
 kernel_rfl
theorem aea:bP Ee NG (aR Z6 0) vY:=bV fun _ _ _=>aH fun _=>aH fun _=>gL<|bT fun _ _=>tM<|fun h _ e6 e5 e3 e1=>bJ (Y7 _) h (by subst_vars;exact aM rfl rfl ⟨e1,e3,e5,trivial⟩ ⟨e6,trivial⟩)
def aog:FnI:=fnI Tryz.f56 NG
def Tz (_:(Int×(Int×Unit))) (_:Int) (_:Int):Int→au:=fun r=>⟨(.i r),[],[]⟩
theorem aml:∀(p0:(Int×(Int×Unit)))(p1 p2:Int),bL Ee aog ⟨[(.imm true aP p0),(.i p1),(.i p2)],[]⟩=(Xq p0 p1 p2).run fun r=>some (Tz p0 p1 p2 r):=fun _ _ _=>by kernel_rfl
def aof (av:List AV) (rs:List Root):Tre au:=
 aD av fun a0_ av0=>
 aD av0 fun a1_ av1=>
 aD av1 fun a2_ av2=>
 aN av2<|
 aN rs<|
 ay true aP a0_ fun d1=>
 ay true .n a1_ fun d2=>
 ay true .n a2_ fun d3=>
 .mat (mE d1 d2 d3) fun r=>.ret (Tz d1 d2 d3 r)
def xO:Ctr:=dD [] aof
theorem Bq:Contract Tryz.prog .none 56 xO:=aB (V:=Ee) aV (ak uY akx aI) Tryz.func56 (bD (n:=1) fun k hk=>by
 match k,hk with
 |0,_=>exact bF (id:=2) aea) fun _ _ _=>aK fun _ _=>aK fun _ _=>aK fun _ _=>bn<|bn<|aH fun _=>aH fun _=>aH fun _=>fun h=>by intros;subst_vars;exact bB (aml _ _ _) h
def agt (p0:List Int):Tre (List Int):=
 .ite ((0+p0.length)*8≤bI∧1≤8)<|
 .ret ([]++p0)
def Mf (p0:List Int):Option (List Int):=(agt p0).run some
-- more
theorem aDe{p0:List Int}(h:p0.length≤1048576):Mf p0=some p0:=by
 unfold Mf agt
 rw [Tre.run_ite,if_pos (by unfold bI;omega)]
 rfl
def ahH:Env:=⟨tau,[],[(1000000,[((4,0),[],false)])]⟩
def aud:FnI:=fnI Tryz.f108 []
def ZX (_:Bool) (_:List Int):(List Int)→au:=fun r=>⟨(.imm true .il r),[],[]⟩
theorem aq4:∀(zp0:Bool)(p0:List Int),bL ahH aud ⟨[(.imm zp0 .il p0)],[]⟩=(agt p0).run fun r=>some (ZX zp0 p0 r):=fun _ _=>by kernel_rfl
def auc (av:List AV) (rs:List Root):Tre au:=
 aD av fun a0_ av0=>
 aN av0<|
 aN rs<|
 bg .il a0_ fun z2 d1=>
 .mat (Mf d1) fun r=>.ret (ZX z2 d1 r)
def ahI:Ctr:=dD [] auc
theorem aq5:Contract Tryz.prog .none 108 ahI:=aB (V:=ahH) aV aI Tryz.func108 bN fun _ _ _=>aK fun _ _=>bn<|bn<|bZ fun _ _=>fun h=>by intros;subst_vars;exact bB (aq4 _ _) h
end Go.Proofs.YtihiobjhogpmdaaGreat
