/- Part 6 of the proof of FnExactDecodeErased. -/
import Derived.Test.YtihiobjhogpmdaaGreatDe5
set_option maxRecDepth 100000
noncomputable section
namespace Go.Proofs.YtihiobjhogpmdaaGreat
open Go Go.Abs Go.Proofs
def rz (bU:List Int) (cZ:Int) (iC:(Int×(Int×Unit))):((List Int)×(List Int))→Tre (((List Int)×(List Int)) ⊕ ((List Int)×(List Int))):=fun s4=>
 .cond (decide ((s4.2.length:Int) ≥ (bU.length:Int)))
  (let v4:=aJ .i64 ((s4.2.length:Int)-(bU.length:Int))
  let v5:=aJ .i64 ((s4.2.length:Int)-1)
  .ite (0≤v5∧v5<(s4.2.length:Int))<|
  .mat (s4.2[v5.toNat]?) fun x6=>
  .mat (dQ iC cZ) fun r7=>
  .mat (dY iC x6 r7) fun r8=>
  let v9:=aJ .i64 ((bU.length:Int)-1)
  .mat (MG iC r8 v9) fun r10=>
  .mat (MH r10 v4) fun r11=>
  .mat (J9 s4.1 r11) fun r12=>
  .mat (Bz iC bU r11) fun r13=>
  .mat (J9 s4.2 r13) fun r14=>
  .ret (.inl (r12,r14)))
  (.ret (.inr (s4.1,s4.2)))
def agI (p0:(Int×(Int×Unit))) (p1:List Int) (p2:List Int):Tre ((List Int)×(List Int)):=
 .mat (fQ p1) fun r1=>
 let v2:=aJ .i64 ((p2.length:Int)-1)
 .ite (0≤v2∧v2<(p2.length:Int))<|
 .mat (p2[v2.toNat]?) fun x3=>
 .mat (aL (rz p2 x3 p0) ([],r1)) fun l15=>
 .ret (l15.1,l15.2)
def ME (p0:(Int×(Int×Unit))) (p1:List Int) (p2:List Int):Option ((List Int)×(List Int)):=(agI p0 p1 p2).run some
-- more
theorem aB8{c k:Nat}(hk:k≤1000):MH (c:Int) (k:Int)=some (aW (uw k c)):=by
 have hk1:aJ .i64 ((k:Int)+1)=((k+1:Nat):Int):=aQ (by omega)
 unfold MH agM
 rw [hk1,Tre.run_ite,if_pos ⟨rfl,by omega,rfl,by omega,by omega⟩,Int.toNat_natCast,dM (show (List.replicate (k+1) (0:Int))[k]?=some 0 by rw [List.getElem?_replicate,if_pos (by omega)])]
 dsimp only
 rw [Int.toNat_natCast,ayf,Tre.aG]
theorem azC{f:TF3}(hf:aO f=true){N V:List Nat}(hV:inL (FOf f hf) V)(hn:V≠[])(ht:cf V (V.length-1)≠0):∀(m:Nat)(A R:List Nat),R.length≤m→A.length≤100→R.length≤100→V.length≤100→T9 (FOf f hf) N V A R →
  ∃A' R',aL (rz (aW V) (cf V (V.length-1):Int) f) (aW A,aW R)=some (aW A',aW R')∧T9 (FOf f hf) N V A' R'∧R'.length<V.length∧A'.length≤100:=by
 have hvl:0<V.length:=List.length_pos_iff.2 hn
 obtain ⟨iv,hi1,hi2,hi3⟩:=axr hf hV ht
 intro m
 induction m with
 |zero=>
  intro A R hm hA hR hV2 h
  refine ⟨A,R,fE ?_,h,by omega,hA⟩
  unfold rz
  dsimp only
  rw [Tre.aA,decide_eq_false (by rw [aY,aY];omega),cond_false,Tre.aG]
 |succ m ih=>
  intro A R hm hA hR hV2 h
  by_cases hl:V.length≤R.length
  ·obtain ⟨hc,hD,hlt⟩:=asl hf hV h hn hl hi2 hi3
   obtain ⟨b1,b2,b3⟩:=ako (c:=(FOf f hf).sqn (ZU f.1.toNat (V.length-1)) ((FOf f hf).mul (cf R (R.length-1)) iv)) hA hR hvl hl (FOf f hf)
   obtain ⟨A',R',h1,h2,h3,h4⟩:=ih _ _ (by omega) b1 (by omega) hV2 hD
   refine ⟨A',R',?_,h2,h3,h4⟩
   rw [←h1]
   refine lJ ?_
   have hk:aJ .i64 (((aW R).length:Int)-((aW V).length:Int))=((R.length-V.length:Nat):Int):=by rw [aY,aY,dS (by omega) (by omega)];omega
   have hr:aJ .i64 (((aW R).length:Int)-1)=((R.length-1:Nat):Int):=by rw [aY];exact gP (by omega) (by omega)
   have hv:aJ .i64 (((aW V).length:Int)-1)=((V.length-1:Nat):Int):=by rw [aY];exact gP (by omega) (by omega)
   have hrl:=pW h.ir (R.length-1)
   have hml:=(FOf f hf).lt (cf R (R.length-1)) iv
   unfold rz
   dsimp only
   rw [Tre.aA,decide_eq_true (by rw [aY,aY];omega),cond_true,hk,hr,dM (dX (fI (show R.length-1<R.length by omega)))]
   rw [ah (ax6 hf ((ZJ hf).2 ⟨_,rfl,pW hV _⟩)),hi1,ah (am6 hf hrl hi2),hv,ah (aB7 hf hml _),ah (aB8 (by omega))]
   rw [ah (ayb hf h.ia (X4 hc) (by omega) (by omega)),ah (auR hf hV (X4 hc) (by omega) (by omega)),ah (ayb hf h.ir (uO (alo _ _)) (by omega) (by omega)),Tre.aG]
  ·refine ⟨A,R,fE ?_,h,by omega,hA⟩
   unfold rz
   dsimp only
   rw [Tre.aA,decide_eq_false (by rw [aY,aY];omega),cond_false,Tre.aG]
theorem aBZ{f:TF3}(hf:aO f=true){N V:List Nat}(hN:inL (FOf f hf) N)(hV:inL (FOf f hf) V)(hn:V≠[])(htV:IG V)(htN:IG N)(hNl:N.length≤100)(hVl:V.length≤100) :
  ∃A R,ME f (aW N) (aW V)=some (aW A,aW R)∧T9 (FOf f hf) N V A R∧R.length<V.length∧A.length≤100:=by
 have hvl:0<V.length:=List.length_pos_iff.2 hn
 obtain ⟨A,R,h1,h2,h3,h4⟩:=azC hf hV hn (htV hn) N.length [] N (Nat.le_refl _) (Nat.zero_le _) hNl hVl (T9.start hN htN)
 refine ⟨A,R,?_,h2,h3,h4⟩
 have hd:aJ .i64 (((aW V).length:Int)-1)=((V.length-1:Nat):Int):=by rw [aY];exact gP (by omega) (by omega)
 rw [show aW []=[] from rfl] at h1
 unfold ME agI
 dsimp only
 rw [ah (show fQ (aW N)=some (aW N) from Dl (by rw [aY];omega)),hd,dM (dX (fI (show V.length-1<V.length by omega))),ah h1,Tre.aG]
def MF:Env:=⟨tau,[(108,Dx),(117,JO),(68,uX),(128,ahY),(129,ah0),(130,amK),(102,XE)],[]⟩
def ahU:Code:=(Tryz.f107.body).getD .skip
def TH (nG:Bool) (bU:List Int) (cZ:Int) (iC:(Int×(Int×Unit))):((List Int)×(List Int))→St:=fun x=>bO [(2,(.imm nG .il bU)),(3,(.ptr (5,0) [])),(8,(.ref (10,0) [])),(9,(.ref (11,0) [])),(10,(.i cZ))] [((5,0),some ⟨true,aP,.own,iC⟩),((10,0),some ⟨false,.il,.own,x.1⟩),((11,0),some ⟨false,.il,.own,x.2⟩)]
def Pz (_:Bool) (_:List Int) (_:Int) (_:(Int×(Int×Unit))):((List Int)×(List Int))→Ex×St:=fun x=>(.exit 0,bO [(8,(.ref (10,0) [])),(9,(.ref (11,0) []))] [((10,0),some ⟨false,.il,.own,x.1⟩),((11,0),some ⟨false,.il,.own,x.2⟩)])
def amI (s:St):Tre (Ex×St):=
 bg .il (s.tmps 2) fun z3 d2=>
 dR (5,0) [] (s.tmps 3)<|
 dF (10,0) [] (s.tmps 8)<|
 dF (11,0) [] (s.tmps 9)<|
 ay true .n (s.tmps 10) fun d8=>
 aZ true aP (s.roots (5,0)) fun m10 d11=>
 asM .own m10<|
 aZ false .il (s.roots (10,0)) fun m13 d14=>
 asM .own m13<|
 aZ false .il (s.roots (11,0)) fun m16 d17=>
 asM .own m16<|
 .mat (aL (rz d2 d8 d11) (d14,d17)) fun x=>.ret (Pz z3 d2 d8 d11 x)
def BD:bA:=⟨([2,3,8,9,10],[(5,0),(10,0),(11,0)]),([8,9],[(10,0),(11,0)]),amI⟩
def XH:List (Nat×bA):=[(4,BD)]
theorem aep:∀(nG:Bool)(bU:List Int)(cZ:Int)(iC:(Int×(Int×Unit)))(x:((List Int)×(List Int)))(c:St→Option (Ex×St)),den MF XH (aR ahU 0) (TH nG bU cZ iC x) (bR BD.kp BD.kx c)=(rz bU cZ iC x).run (bS (TH nG bU cZ iC) (Pz nG bU cZ iC) c):=fun _ _ _ _ _ _=>by
 kernel_rfl
theorem aju:bP MF XH (aR ahU 0) BD:=bV fun _ _ _=>bZ fun _ _=>gL<|fu<|fu<|aH fun _=>bT fun _ _=>tM<|bT fun _ _=>tM<|bT fun _ _=>tM<|fun h _ e15 _ e12 _ e9 e7 e6 e5 e4 e1=>bJ (aep _ _ _ _) h (by subst_vars;exact aM rfl rfl ⟨e1,e4,e5,e6,e7,trivial⟩ ⟨e9,e12,e15,trivial⟩)
def auw:FnI:=fnI Tryz.f107 XH
def aac (_:Bool) (_:Bool) (_:(Int×(Int×Unit))) (_:List Int) (_:List Int):((List Int)×(List Int))→au:=fun r=>⟨(.tcons (.ref (1,0) []) (.tcons (.ref (1,1) []) .tnil)),[],[⟨false,.il,.own,r.1⟩,⟨false,.il,.own,r.2⟩]⟩
theorem ari:∀(zp0 zp1:Bool)(p0:(Int×(Int×Unit)))(p1 p2:List Int),bL MF auw ⟨[(.imm true aP p0),(.imm zp0 .il p1),(.imm zp1 .il p2)],[]⟩=(agI p0 p1 p2).run fun r=>some (aac zp0 zp1 p0 p1 p2 r):=fun _ _ _ _ _=>by kernel_rfl
def auv (av:List AV) (rs:List Root):Tre au:=
 aD av fun a0_ av0=>
 aD av0 fun a1_ av1=>
 aD av1 fun a2_ av2=>
 aN av2<|
 aN rs<|
 ay true aP a0_ fun d1=>
 bg .il a1_ fun z3 d2=>
 bg .il a2_ fun z5 d4=>
 .mat (ME d1 d2 d4) fun r=>.ret (aac z3 z5 d1 d2 d4 r)
def ahV:Ctr:=dD [] auv
theorem arj:Contract Tryz.prog .none 107 ahV:=aB (V:=MF) aV (ak Fv afg (ak Tv aAz (ak uY akx (ak arn aEV (ak arp aEW (ak auB aEX (ak ajr aEC aI))))))) Tryz.func107 (bD (n:=1) fun k hk=>by
 match k,hk with
 |0,_=>exact bF (id:=4) aju) fun _ _ _=>aK fun _ _=>aK fun _ _=>aK fun _ _=>bn<|bn<|aH fun _=>bZ fun _ _=>bZ fun _ _=>fun h=>by intros;subst_vars;exact bB (ari _ _ _ _ _) h
def Ik (p0:(Int×(Int×Unit))) (p1:List Int) (p2:List Int):Tre (Int×(List Int)×(List Int)):=
 .mat (MB p0 p1 p2) fun r1=>
 .cond (!decide (r1=0))
  (.ret (r1,[],[]))
  (.mat (ME p0 p1 p2) fun r2=>
  .ret (0,r2.1,r2.2))
def qm (p0:(Int×(Int×Unit))) (p1:List Int) (p2:List Int):Option (Int×(List Int)×(List Int)):=(Ik p0 p1 p2).run some
def Xf:Env:=⟨tau,[(106,ahT),(107,ahV)],[]⟩
def al3:FnI:=fnI Tryz.f72 []
def Pm (_:Bool) (_:Bool) (_:(Int×(Int×Unit))) (_:List Int) (_:List Int):(Int×(List Int)×(List Int))→au:=fun r=>⟨(.tcons (.ref (1,0) []) (.tcons (.ref (1,1) []) (.tcons (.i r.1) .tnil))),[],[⟨false,.il,.own,r.2.1⟩,⟨false,.il,.own,r.2.2⟩]⟩
theorem ajc:∀(zp0 zp1:Bool)(p0:(Int×(Int×Unit)))(p1 p2:List Int),bL Xf al3 ⟨[(.imm true aP p0),(.imm zp0 .il p1),(.imm zp1 .il p2)],[]⟩=(Ik p0 p1 p2).run fun r=>some (Pm zp0 zp1 p0 p1 p2 r):=fun _ _ _ _ _=>by kernel_rfl
def al2 (av:List AV) (rs:List Root):Tre au:=
 aD av fun a0_ av0=>
 aD av0 fun a1_ av1=>
 aD av1 fun a2_ av2=>
 aN av2<|
 aN rs<|
 ay true aP a0_ fun d1=>
 bg .il a1_ fun z3 d2=>
 bg .il a2_ fun z5 d4=>
 .mat (qm d1 d2 d4) fun r=>.ret (Pm z3 z5 d1 d2 d4 r)
def Xg:Ctr:=dD [] al2
theorem ajd:Contract Tryz.prog .none 72 Xg:=aB (V:=Xf) aV (ak arh aEF (ak arj aEG aI)) Tryz.func72 bN fun _ _ _=>aK fun _ _=>aK fun _ _=>aK fun _ _=>bn<|bn<|aH fun _=>bZ fun _ _=>bZ fun _ _=>fun h=>by intros;subst_vars;exact bB (ajc _ _ _ _ _) h
def mM (qL:List Int):(Int×(List Int))→Tre ((Int×(List Int)) ⊕ (List Int)):=fun s6=>
 .cond (decide (s6.1<(qL.length:Int)))
  (.ite (0≤s6.1∧s6.1<(qL.length:Int))<|
  .mat (qL[s6.1.toNat]?) fun x4=>
  .ite (0≤s6.1∧s6.1<(s6.2.length:Int))<|
  .mat (s6.2[s6.1.toNat]?) fun _=>
  let v6:=s6.2.set s6.1.toNat x4
  .ret (.inl (aJ .i64 (s6.1+1),v6)))
  (.ret (.inr s6.2))
def NM (p0:(Int×(Int×Unit))) (p1:List Int) (p2:List Int) (p3:Int):Tre ((List Int)×Bool):=
 .mat (FI p1) fun r1=>
 .mat (FI p2) fun r2=>
 .mat (qm p0 r1 r2) fun r3=>
 .cond (!decide (r3.1=0))
  (.ret ([],false))
  (.cond (decide ((r3.2.2.length:Int)>0))
   (.ret ([],false))
   (.cond (decide ((r3.2.1.length:Int)>p3))
    (.ret ([],false))
    (.ite ((.n:K)=.n∧0≤p3∧p3=p3∧p3*(8:Nat)≤140737488355328∧1≤8)<|
    .mat (aL (mM r3.2.1) (0,List.replicate p3.toNat (0:Int))) fun l7=>
    .ret (l7,true))))
def rT (p0:(Int×(Int×Unit))) (p1:List Int) (p2:List Int) (p3:Int):Option ((List Int)×Bool):=(NM p0 p1 p2 p3).run some
-- more
theorem aDn{f:TF3}(hf:aO f=true){L:List Nat}(h:inL (FOf f hf) L)(hl:L.length≤1000):yB f (aW L)=some true:=by
 unfold yB NH
 rw [ah (show aL (jV (aW L) f) 0=some (.inr ()) from ?_)]
 ·rfl
 refine cO (fun i=>(i:Int)) L.length _ (fun i hi=>?_) ?_
 ·have hc:=pW h i
  have hin:inR (cf L i:Int) 0 (Zo f)=true:=by
   rw [aj2] at hc
   rw [gX]
   unfold Zo
   have:((cf L i:Nat):Int)<((2 ^ f.1.toNat:Nat):Int):=by exact_mod_cast hc
   have h2:((2 ^ f.1.toNat:Nat):Int)=(2:Int) ^ f.1.toNat:=by rw [Int.natCast_pow];rfl
   omega
  unfold jV
  rw [dW (dX (fI hi)),ah (ad9 hf),arL hf]
  dsimp only
  rw [Tre.aA,hin,Bool.not_true,cond_false,Tre.aG,aQ (by omega)]
 ·unfold jV
  rw [aY,dB,Tre.aG]
theorem ax7{f:TF3}(hf:aO f=true){L:List Nat}(h:inL (FOf f hf) L)(ht:IG L)(hl:L.length≤12):rQ f (aW L)=some true:=by
 have h1:Yt f (aW L)=some true:=by
  unfold Yt ark
  rw [Tre.aA,aY,decide_eq_true (by omega),cond_true,ah (aDn hf h (by omega)),Tre.aA,cond_true,Tre.aA]
  by_cases h0:L.length=0
  ·rw [decide_eq_true (by omega),cond_true,Tre.aG]
  ·have:=ht fun hh=>h0 (by rw [hh];rfl)
   have hp:aJ .i64 ((L.length:Int)-1)=((L.length-1:Nat):Int):=gP (by omega) (by omega)
   have hll:(L.length:Int)=((aW L).length:Int):=by rw [aY]
   rw [decide_eq_false (by omega),cond_false]
   dsimp only
   rw [hp,hll,dM (dX (fI (show L.length-1<L.length by omega))),Tre.aG,decide_eq_false (by omega)]
   rfl
 unfold rQ Nz
 rw [ah (amh f),hf,Tre.aA,cond_true,ah h1,Tre.aG]
theorem auQ{f:TF3}(hf:aO f=true){N V:List Nat}(hN:inL (FOf f hf) N)(hV:inL (FOf f hf) V)(htV:IG V)(htN:IG N)(hNl:N.length≤12)(hVl:V.length≤12):MB f (aW N) (aW V)=some (if V=[] then 4 else 0):=by
 unfold MB agF
 rw [ah (ax7 hf hN htN hNl),Tre.aA,Bool.not_true,cond_false,ah (ax7 hf hV htV hVl),Tre.aA,Bool.not_true,cond_false,Tre.aA,aY]
 by_cases h:V=[]
 ·subst h;rfl
 ·have:=List.length_pos_iff.2 h
  rw [decide_eq_false (by omega),if_neg h];rfl
theorem aBQ{f:TF3}(hf:aO f=true){N V:List Nat}(hN:inL (FOf f hf) N)(hV:inL (FOf f hf) V)(hn:V≠[])(htV:IG V)(htN:IG N)(hNl:N.length≤12)(hVl:V.length≤12) :
  ∃A R,qm f (aW N) (aW V)=some (0,aW A,aW R)∧T9 (FOf f hf) N V A R∧R.length<V.length∧A.length≤100:=by
 obtain ⟨A,R,h1,h2,h3,h4⟩:=aBZ hf hN hV hn htV htN (by omega) (by omega)
 refine ⟨A,R,?_,h2,h3,h4⟩
 unfold qm Ik
 rw [ah (auQ hf hN hV htV htN hNl hVl),if_neg hn,Tre.aA,decide_eq_true rfl,Bool.not_true,cond_false,ah h1,Tre.aG]
theorem azD{f:TF3}(hf:aO f=true){N:List Nat}(hN:inL (FOf f hf) N)(htN:IG N)(hNl:N.length≤12):qm f (aW N) (aW [])=some (4,[],[]):=by
 unfold qm Ik
 rw [ah (auQ hf hN (fun x hx=>absurd hx List.not_mem_nil) (fun h=>absurd rfl h) htN hNl (Nat.zero_le _)),if_pos rfl,Tre.aA,decide_eq_false (by decide),Bool.not_false,cond_true,Tre.aG]
theorem aBA{A:List Nat}{k:Nat}(h:A.length≤k)(hk:k≤1000):aL (mM (aW A)) (0,List.replicate k (0:Int))=some (aW (sQ k A)):=by
 have hst:∀i,i<A.length→(aW (A.take i++List.replicate (k-i) 0)).set i (cf A i:Int)=aW (A.take (i+1)++List.replicate (k-(i+1)) 0):=by
  intro i hi
  have hti:(A.take i).length=i:=by rw [List.length_take];omega
  rw [←Wj,show k-i=(k-(i+1))+1 by omega,List.replicate_succ,List.set_append_right _ _ (by omega),hti,Nat.sub_self,List.set_cons_zero,List.take_add_one,fI hi,List.append_assoc]
  rfl
 have h0:List.replicate k (0:Int)=aW (A.take 0++List.replicate (k-0) 0):=by rw [List.take_zero,List.nil_append,Di,Nat.sub_zero]
 rw [h0]
 refine cO (fun i=>((i:Int),aW (A.take i++List.replicate (k-i) 0))) A.length _ (fun i hi=>?_) ?_
 ·have hti:(A.take i).length=i:=by rw [List.length_take];omega
  have hx:(A.take i++List.replicate (k-i) 0)[i]?=some 0:=by
   rw [List.getElem?_append_right (by omega),hti,Nat.sub_self,List.getElem?_replicate,if_pos (by omega)]
  unfold mM
  dsimp only
  rw [dW (dX (fI hi)),dM (dX hx),Int.toNat_natCast,hst i hi,Tre.aG,aQ (by omega)]
 ·unfold mM
  dsimp only
  rw [aY,dB,Tre.aG,List.take_length]
  rfl
def yE:Env:=⟨tau,[(73,ah9),(72,Xg)],[(1000000,[((10,0),[],false)]),(1000002,[((10,0),[],false),((11,0),[],false)])]⟩
def TQ:Code:=(Tryz.f43.body).getD .skip
def Hl (qL:List Int):(Int×(List Int))→St:=fun x=>bO [(10,(.ref (23,0) [])),(13,(.ref (15,0) [])),(14,(.i x.1))] [((23,0),some ⟨false,.il,.own,qL⟩),((15,0),some ⟨false,.il,.own,x.2⟩)]
def FH (_:List Int):(List Int)→Ex×St:=fun x=>(.exit 0,bO [(13,(.ref (15,0) []))] [((15,0),some ⟨false,.il,.own,x⟩)])
def abY (s:St):Tre (Ex×St):=
 dF (23,0) [] (s.tmps 10)<|
 dF (15,0) [] (s.tmps 13)<|
 ay true .n (s.tmps 14) fun d4=>
 aZ false .il (s.roots (23,0)) fun m6 d7=>
 asM .own m6<|
 aZ false .il (s.roots (15,0)) fun m9 d10=>
 asM .own m9<|
 .mat (aL (mM d7) (d4,d10)) fun x=>.ret (FH d7 x)
def rE:bA:=⟨([10,13,14],[(23,0),(15,0)]),([13],[(15,0)]),abY⟩
def Gj:List (Nat×bA):=[(6,rE)]
theorem UU:∀(qL:List Int)(x:(Int×(List Int)))(c:St→Option (Ex×St)),den yE Gj (aR TQ 0) (Hl qL x) (bR rE.kp rE.kx c)=(mM qL x).run (bS (Hl qL) (FH qL) c):=fun _ _ _=>by
 kernel_rfl
theorem Zj:bP yE Gj (aR TQ 0) rE:=bV fun _ _ _=>fu<|fu<|aH fun _=>bT fun _ _=>tM<|bT fun _ _=>tM<|fun h _ e8 _ e5 e3 e2 e1=>bJ (UU _) h (by subst_vars;exact aM rfl rfl ⟨e1,e2,e3,trivial⟩ ⟨e5,e8,trivial⟩)
def ajC:FnI:=fnI Tryz.f43 Gj
def MN (_:Bool) (_:Bool) (_:(Int×(Int×Unit))) (_:List Int) (_:List Int) (_:Int):((List Int)×Bool)→au:=fun r=>⟨(.tcons (.imm true .il r.1) (.tcons (.imm true .bool r.2) .tnil)),[],[]⟩
theorem agS:∀(zp0 zp1:Bool)(p0:(Int×(Int×Unit)))(p1 p2:List Int)(p3:Int),bL yE ajC ⟨[(.imm true aP p0),(.imm zp0 .il p1),(.imm zp1 .il p2),(.i p3)],[]⟩=(NM p0 p1 p2 p3).run fun r=>some (MN zp0 zp1 p0 p1 p2 p3 r):=fun _ _ _ _ _ _=>by kernel_rfl
def ajB (av:List AV) (rs:List Root):Tre au:=
 aD av fun a0_ av0=>
 aD av0 fun a1_ av1=>
 aD av1 fun a2_ av2=>
 aD av2 fun a3_ av3=>
 aN av3<|
 aN rs<|
 ay true aP a0_ fun d1=>
 bg .il a1_ fun z3 d2=>
 bg .il a2_ fun z5 d4=>
 ay true .n a3_ fun d6=>
 .mat (rT d1 d2 d4 d6) fun r=>.ret (MN z3 z5 d1 d2 d4 d6 r)
def TR:Ctr:=dD [] ajB
theorem agT:Contract Tryz.prog .none 43 TR:=aB (V:=yE) aV (ak arD aGC (ak ajd aGB aI)) Tryz.func43 (bD (n:=1) fun k hk=>by
 match k,hk with
 |0,_=>exact bF (id:=6) Zj) fun _ _ _=>aK fun _ _=>aK fun _ _=>aK fun _ _=>aK fun _ _=>bn<|bn<|aH fun _=>bZ fun _ _=>bZ fun _ _=>aH fun _=>fun h=>by intros;subst_vars;exact bB (agS _ _ _ _ _ _) h
def mI (aX:Int) (bY:List Int) (dG:Int) (fA:(Int×(Int×Unit))):(Int×Int)→Tre ((Int×Int) ⊕ Int):=fun s3=>
 .cond (decide (s3.2<dG))
  (.ite (0≤s3.2∧s3.2<(bY.length:Int))<|
  .mat (bY[s3.2.toNat]?) fun x1=>
  .mat (gD fA aX s3.2) fun r2=>
  .mat (cK fA x1 r2) fun r3=>
  .ret (.inl (iD .i64 s3.1 r3,aJ .i64 (s3.2+1))))
  (.ret (.inr s3.1))
def M5 (p0:(Int×(Int×Unit))) (p1:List Int) (p2:Int):Tre Int:=
 .mat (aL (mI p2 p1 (p1.length:Int) p0) (0,0)) fun l4=>
 .ret l4
def xY (p0:(Int×(Int×Unit))) (p1:List Int) (p2:Int):Option Int:=(M5 p0 p1 p2).run some
-- more
theorem axx(F:FO):∀(p:List Nat)(c x:Nat),F.lp (p++[c]) x=F.lp p x^^^F.mul c (F.sqn p.length x):=by
 intro p
 induction p with
 |nil=>intro c x;simp [FO.lp,FO.sqn]
 |cons a p ih=>
  intro c x
  simp only [List.cons_append,FO.lp,List.length_cons,FO.sqn]
  rw [ih,Nat.xor_assoc]
theorem ay6{f:TF3}(hf:aO f=true){P:List Nat}(hP:inL (FOf f hf) P)(hl:P.length≤1000){x:Nat}(hx:x<(FOf f hf).q):xY f (aW P) (x:Int)=some (((FOf f hf).lp P x:Nat):Int):=by
 unfold xY M5
 rw [ah (show aL (mI (x:Int) (aW P) ((aW P).length:Int) f) (0,0)=some (((FOf f hf).lp P x:Nat):Int) from ?_),Tre.aG]
 refine cO (fun i=>((((FOf f hf).lp (P.take i) x:Nat):Int),(i:Int))) P.length _ (fun i hi=>?_) ?_
 ·have hs:=(FOf f hf).NR i hx
  have hti:(P.take i).length=i:=by rw [List.length_take];omega
  unfold mI
  dsimp only
  rw [dW (dX (fI hi)),ah (alq hf hx i),ah (aql hf (pW hP i) hs),Tre.aG,aQ (by omega),ab8 hf ((FOf f hf).atC _ _) ((FOf f hf).lt _ _),List.take_add_one,fI hi,Option.toList_some,axx,hti]
 ·unfold mI
  dsimp only
  rw [aY,dB,Tre.aG,List.take_length]
def xZ:Env:=⟨tau,[(62,mH),(75,oN)],[]⟩
def SH:Code:=(Tryz.f69.body).getD .skip
def Gu (dV:Bool) (aX:Int) (bY:List Int) (dG:Int) (fA:(Int×(Int×Unit))):(Int×Int)→St:=fun x=>bO [(2,(.i aX)),(3,(.ptr (5,0) [])),(7,(.i x.1)),(10,(.imm dV .il bY)),(11,(.i dG)),(12,(.i x.2))] [((5,0),some ⟨true,aP,.own,fA⟩)]
def EH (_:Bool) (_:Int) (_:List Int) (_:Int) (_:(Int×(Int×Unit))):Int→Ex×St:=fun x=>(.exit 0,bO [(7,(.i x))] [])
def aaQ (s:St):Tre (Ex×St):=
 ay true .n (s.tmps 2) fun d2=>
 dR (5,0) [] (s.tmps 3)<|
 ay true .n (s.tmps 7) fun d5=>
 bg .il (s.tmps 10) fun z8 d7=>
 ay true .n (s.tmps 11) fun d10=>
 ay true .n (s.tmps 12) fun d12=>
 aZ true aP (s.roots (5,0)) fun m14 d15=>
 asM .own m14<|
 .mat (aL (mI d2 d7 d10 d15) (d5,d12)) fun x=>.ret (EH z8 d2 d7 d10 d15 x)
def qO:bA:=⟨([2,3,7,10,11,12],[(5,0)]),([7],[]),aaQ⟩
def FX:List (Nat×bA):=[(3,qO)]
theorem Uk:∀(dV:Bool)(aX:Int)(bY:List Int)(dG:Int)(fA:(Int×(Int×Unit)))(x:(Int×Int))(c:St→Option (Ex×St)),den xZ FX (aR SH 0) (Gu dV aX bY dG fA x) (bR qO.kp qO.kx c)=(mI aX bY dG fA x).run (bS (Gu dV aX bY dG fA) (EH dV aX bY dG fA) c):=fun _ _ _ _ _ _ _=>by
 kernel_rfl
theorem YF:bP xZ FX (aR SH 0) qO:=bV fun _ _ _=>aH fun _=>gL<|aH fun _=>bZ fun _ _=>aH fun _=>aH fun _=>bT fun _ _=>tM<|fun h _ e13 e11 e9 e6 e4 e3 e1=>bJ (Uk _ _ _ _ _) h (by subst_vars;exact aM rfl rfl ⟨e1,e3,e4,e6,e9,e11,trivial⟩ ⟨e13,trivial⟩)
def aiy:FnI:=fnI Tryz.f69 FX
def Lr (_:Bool) (_:(Int×(Int×Unit))) (_:List Int) (_:Int):Int→au:=fun r=>⟨(.i r),[],[]⟩
theorem afz:∀(zp0:Bool)(p0:(Int×(Int×Unit)))(p1:List Int)(p2:Int),bL xZ aiy ⟨[(.imm true aP p0),(.imm zp0 .il p1),(.i p2)],[]⟩=(M5 p0 p1 p2).run fun r=>some (Lr zp0 p0 p1 p2 r):=fun _ _ _ _=>by kernel_rfl
def aix (av:List AV) (rs:List Root):Tre au:=
 aD av fun a0_ av0=>
 aD av0 fun a1_ av1=>
 aD av1 fun a2_ av2=>
 aN av2<|
 aN rs<|
 ay true aP a0_ fun d1=>
 bg .il a1_ fun z3 d2=>
 ay true .n a2_ fun d4=>
 .mat (xY d1 d2 d4) fun r=>.ret (Lr z3 d1 d2 d4 r)
def SI:Ctr:=dD [] aix
theorem afA:Contract Tryz.prog .none 69 SI:=aB (V:=xZ) aV (ak og asy (ak p8 aoU aI)) Tryz.func69 (bD (n:=1) fun k hk=>by
 match k,hk with
 |0,_=>exact bF (id:=3) YF) fun _ _ _=>aK fun _ _=>aK fun _ _=>aK fun _ _=>bn<|bn<|aH fun _=>bZ fun _ _=>aH fun _=>fun h=>by intros;subst_vars;exact bB (afz _ _ _ _) h
def sH (aX:List Int) (bq:Int) (dI:(Int×(Int×Unit))):(Int×Int)→Tre ((Int×Int) ⊕ Int):=fun s3=>
 .cond (decide (s3.2<(aX.length:Int)))
  (.ite (0≤s3.2∧s3.2<(aX.length:Int))<|
  .mat (aX[s3.2.toNat]?) fun x1=>
  .mat (mE dI bq s3.2) fun r2=>
  .mat (dY dI x1 r2) fun r3=>
  .ret (.inl (iD .i64 s3.1 r3,aJ .i64 (s3.2+1))))
  (.ret (.inr s3.1))
def ab1 (p0:(Int×(Int×Unit))) (p1:List Int) (p2:Int):Tre Int:=
 .mat (aL (sH p1 p2 p0) (0,0)) fun l4=>
 .ret l4
def Io (p0:(Int×(Int×Unit))) (p1:List Int) (p2:Int):Option Int:=(ab1 p0 p1 p2).run some
-- more
theorem azN{f:TF3}(hf:aO f=true){P:List Nat}(hP:inL (FOf f hf) P)(hl:P.length≤1000){x:Nat}(hx:x<(FOf f hf).q):Io f (aW P) (x:Int)=some (((FOf f hf).lp P x:Nat):Int):=by
 unfold Io ab1
 rw [ah (show aL (sH (aW P) (x:Int) f) (0,0)=some (((FOf f hf).lp P x:Nat):Int) from ?_),Tre.aG]
 refine cO (fun i=>((((FOf f hf).lp (P.take i) x:Nat):Int),(i:Int))) P.length _ (fun i hi=>?_) ?_
 ·have hs:=(FOf f hf).NR i hx
  have hti:(P.take i).length=i:=by rw [List.length_take];omega
  unfold sH
  dsimp only
  rw [dW (dX (fI hi)),ah (am9 hf hx i),ah (am6 hf (pW hP i) hs),Tre.aG,aQ (by omega),ab8 hf ((FOf f hf).atC _ _) ((FOf f hf).lt _ _),List.take_add_one,fI hi,Option.toList_some,axx,hti]
 ·unfold sH
  dsimp only
  rw [aY,dB,Tre.aG,List.take_length]
def Ip:Env:=⟨tau,[(56,xO),(68,uX)],[]⟩
def aeJ:Code:=(Tryz.f42.body).getD .skip
def P5 (dV:Bool) (aX:List Int) (bq:Int) (dI:(Int×(Int×Unit))):(Int×Int)→St:=fun x=>bO [(1,(.imm dV .il aX)),(2,(.i bq)),(3,(.ptr (5,0) [])),(7,(.i x.1)),(8,(.i x.2))] [((5,0),some ⟨true,aP,.own,dI⟩)]
def MQ (_:Bool) (_:List Int) (_:Int) (_:(Int×(Int×Unit))):Int→Ex×St:=fun x=>(.exit 0,bO [(7,(.i x))] [])
def ajI (s:St):Tre (Ex×St):=
 bg .il (s.tmps 1) fun z3 d2=>
 ay true .n (s.tmps 2) fun d5=>
 dR (5,0) [] (s.tmps 3)<|
 ay true .n (s.tmps 7) fun d8=>
 ay true .n (s.tmps 8) fun d10=>
 aZ true aP (s.roots (5,0)) fun m12 d13=>
 asM .own m12<|
 .mat (aL (sH d2 d5 d13) (d8,d10)) fun x=>.ret (MQ z3 d2 d5 d13 x)
def yG:bA:=⟨([1,2,3,7,8],[(5,0)]),([7],[]),ajI⟩
def Sg:List (Nat×bA):=[(3,yG)]
theorem ab2:∀(dV:Bool)(aX:List Int)(bq:Int)(dI:(Int×(Int×Unit)))(x:(Int×Int))(c:St→Option (Ex×St)),den Ip Sg (aR aeJ 0) (P5 dV aX bq dI x) (bR yG.kp yG.kx c)=(sH aX bq dI x).run (bS (P5 dV aX bq dI) (MQ dV aX bq dI) c):=fun _ _ _ _ _ _=>by
 kernel_rfl
theorem ag2:bP Ip Sg (aR aeJ 0) yG:=bV fun _ _ _=>bZ fun _ _=>aH fun _=>gL<|aH fun _=>aH fun _=>bT fun _ _=>tM<|fun h _ e11 e9 e7 e6 e4 e1=>bJ (ab2 _ _ _ _) h (by subst_vars;exact aM rfl rfl ⟨e1,e4,e6,e7,e9,trivial⟩ ⟨e11,trivial⟩)
def arF:FnI:=fnI Tryz.f42 Sg
def XW (_:Bool) (_:(Int×(Int×Unit))) (_:List Int) (_:Int):Int→au:=fun r=>⟨(.i r),[],[]⟩
theorem aou:∀(zp0:Bool)(p0:(Int×(Int×Unit)))(p1:List Int)(p2:Int),bL Ip arF ⟨[(.imm true aP p0),(.imm zp0 .il p1),(.i p2)],[]⟩=(ab1 p0 p1 p2).run fun r=>some (XW zp0 p0 p1 p2 r):=fun _ _ _ _=>by kernel_rfl
def arE (av:List AV) (rs:List Root):Tre au:=
 aD av fun a0_ av0=>
 aD av0 fun a1_ av1=>
 aD av1 fun a2_ av2=>
 aN av2<|
 aN rs<|
 ay true aP a0_ fun d1=>
 bg .il a1_ fun z3 d2=>
 ay true .n a2_ fun d4=>
 .mat (Io d1 d2 d4) fun r=>.ret (XW z3 d1 d2 d4 r)
def aeK:Ctr:=dD [] arE
theorem aov:Contract Tryz.prog .none 42 aeK:=aB (V:=Ip) aV (ak Bq axe (ak uY akx aI)) Tryz.func42 (bD (n:=1) fun k hk=>by
 match k,hk with
 |0,_=>exact bF (id:=3) ag2) fun _ _ _=>aK fun _ _=>aK fun _ _=>aK fun _ _=>bn<|bn<|aH fun _=>bZ fun _ _=>aH fun _=>fun h=>by intros;subst_vars;exact bB (aou _ _ _ _) h
def lq (aX:aF) (bq:List Int):(Int×(List Int))→Tre ((Int×(List Int)) ⊕ (List Int)):=fun s3=>
 .cond (decide (s3.1<(aX.2.1.length:Int)))
  (.ite (0≤s3.1∧s3.1<(aX.2.1.length:Int))<|
  .mat (aX.2.1[s3.1.toNat]?) fun x1=>
  .mat (Io aX.1 bq x1) fun r2=>
  .ite ((s3.2.length+1)*8≤bI∧1≤8)<|
  .ret (.inl (aJ .i64 (s3.1+1),s3.2++([r2]))))
  (.ret (.inr s3.2))
def Km (p0:aF) (p1:List Int):Tre (List Int):=
 .mat (aL (lq p0 p1) (0,[])) fun l3=>
 .ret l3
def wC (p0:aF) (p1:List Int):Option (List Int):=(Km p0 p1).run some
-- more
theorem aCb{f:TF3}(hf:aO f=true){P X:List Nat}(hP:inL (FOf f hf) P)(hl:P.length≤1000)(hX:inL (FOf f hf) X)(hXl:X.length≤1000)(k:Int):wC (f,aW X,k,()) (aW P)=some (aW (X.map ((FOf f hf).lp P))):=by
 unfold wC Km
 rw [ah (show aL (lq (f,aW X,k,()) (aW P)) (0,[])=some (aW (X.map ((FOf f hf).lp P))) from ?_),Tre.aG]
 refine cO (fun i=>((i:Int),aW ((X.take i).map ((FOf f hf).lp P)))) X.length _ (fun i hi=>?_) ?_
 ·unfold lq
  dsimp only
  rw [dW (dX (fI hi)),ah (azN hf hP hl (pW hX i)),Tre.run_ite,if_pos (by rw [aY,List.length_map,List.length_take];unfold bI;omega),Tre.aG,aQ (by omega),List.take_add_one,fI hi,Option.toList_some,List.map_append,mU]
  rfl
 ·unfold lq
  dsimp only
  rw [aY,dB,Tre.aG,List.take_length]
def wD:Env:=⟨tau,[(42,aeK)],[]⟩
def P6:Code:=(Tryz.f39.body).getD .skip
def FJ (dV:Bool) (BR:Bool) (aX:aF) (bq:List Int):(Int×(List Int))→St:=fun x=>bO [(0,(.iptr dV (.sl aU) ([aX]) [.idx 0])),(1,(.imm BR .il bq)),(5,(.ref (7,0) [])),(6,(.i x.1))] [((7,0),some ⟨false,.il,.own,x.2⟩)]
def Cy (_:Bool) (_:Bool) (_:aF) (_:List Int):(List Int)→Ex×St:=fun x=>(.exit 0,bO [(5,(.ref (7,0) []))] [((7,0),some ⟨false,.il,.own,x⟩)])
def Zk (s:St):Tre (Ex×St):=
 akf aU (s.tmps 0) fun z2 d3=>
 bg .il (s.tmps 1) fun z6 d5=>
 dF (7,0) [] (s.tmps 5)<|
 ay true .n (s.tmps 6) fun d9=>
 aZ false .il (s.roots (7,0)) fun m11 d12=>
 asM .own m11<|
 .mat (aL (lq d3 d5) (d9,d12)) fun x=>.ret (Cy z2 z6 d3 d5 x)
def pV:bA:=⟨([0,1,5,6],[(7,0)]),([5],[(7,0)]),Zk⟩
def DF:List (Nat×bA):=[(3,pV)]
theorem Si:∀(dV BR:Bool)(aX:aF)(bq:List Int)(x:(Int×(List Int)))(c:St→Option (Ex×St)),den wD DF (aR P6 0) (FJ dV BR aX bq x) (bR pV.kp pV.kx c)=(lq aX bq x).run (bS (FJ dV BR aX bq) (Cy dV BR aX bq) c):=fun _ _ _ _ _ _=>by
 kernel_rfl
theorem XY:bP wD DF (aR P6 0) pV:=bV fun _ _ _=>aEv fun _ _=>bZ fun _ _=>fu<|aH fun _=>bT fun _ _=>tM<|fun h _ e10 e8 e7 e4 e1=>bJ (Si _ _ _ _) h (by subst_vars;exact aM rfl rfl ⟨e1,e4,e7,e8,trivial⟩ ⟨e10,trivial⟩)
def ag4:FnI:=fnI Tryz.f39 DF
def Kn (_:Bool) (_:Bool) (_:aF) (_:List Int):(List Int)→au:=fun r=>⟨(.ref (1,0) []),[],[⟨false,.il,.own,r⟩]⟩
theorem aeL:∀(zp0 zp1:Bool)(p0:aF)(p1:List Int),bL wD ag4 ⟨[(.iptr zp0 (.sl aU) ([p0]) [.idx 0]),(.imm zp1 .il p1)],[]⟩=(Km p0 p1).run fun r=>some (Kn zp0 zp1 p0 p1 r):=fun _ _ _ _=>by kernel_rfl
def ag3 (av:List AV) (rs:List Root):Tre au:=
 aD av fun a0_ av0=>
 aD av0 fun a1_ av1=>
 aN av1<|
 aN rs<|
 akf aU a0_ fun z1 d2=>
 bg .il a1_ fun z4 d3=>
 .mat (wC d2 d3) fun r=>.ret (Kn z1 z4 d2 d3 r)
def P7:Ctr:=dD [0] ag3
theorem aeM:Contract Tryz.prog .none 39 P7:=aB (V:=wD) aV (ak aov aGk aI) Tryz.func39 (bD (n:=1) fun k hk=>by
 match k,hk with
 |0,_=>exact bF (id:=3) XY) fun _ _ _=>aK fun _ _=>aK fun _ _=>bn<|bn<|aEv fun _ _=>bZ fun _ _=>fun h=>by intros;subst_vars;exact bB (aeL _ _ _ _) h
def zM (aX:List Int) (bq:List Int) (bY:Int) (dI:(Int×(Int×Unit))):(Int×(List Int))→Tre ((Int×(List Int)) ⊕ (List Int)):=fun s3=>
 .cond (decide (s3.1<(aX.length:Int)))
  (.ite (0≤s3.1∧s3.1<(aX.length:Int))<|
  .mat (aX[s3.1.toNat]?) fun x1=>
  .ite (0≤s3.1∧s3.1<(bq.length:Int))<|
  .mat (bq[s3.1.toNat]?) fun x2=>
  .mat (dY dI x2 bY) fun r3=>
  .ite ((s3.2.length+1)*8≤bI∧1≤8)<|
  let v4:=s3.2++([iD .i64 x1 r3])
  .ret (.inl (aJ .i64 (s3.1+1),v4)))
  (.ret (.inr s3.2))
def amO (p0:(Int×(Int×Unit))) (p1:List Int) (p2:List Int) (p3:Int):Tre (List Int):=
 .mat (aL (zM p1 p2 p3 p0) (0,[])) fun l5=>
 .ret l5
def R6 (p0:(Int×(Int×Unit))) (p1:List Int) (p2:List Int) (p3:Int):Option (List Int):=(amO p0 p1 p2 p3).run some
-- more
def R7:Env:=⟨tau,[(68,uX)],[]⟩
def amQ:Code:=(Tryz.f38.body).getD .skip
def XO (dV:Bool) (BR:Bool) (aX:List Int) (bq:List Int) (bY:Int) (dI:(Int×(Int×Unit))):(Int×(List Int))→St:=fun x=>bO [(1,(.imm dV .il aX)),(2,(.imm BR .il bq)),(3,(.i bY)),(4,(.ptr (6,0) [])),(9,(.ref (11,0) [])),(10,(.i x.1))] [((6,0),some ⟨true,aP,.own,dI⟩),((11,0),some ⟨false,.il,.own,x.2⟩)]
def TN (_:Bool) (_:Bool) (_:List Int) (_:List Int) (_:Int) (_:(Int×(Int×Unit))):(List Int)→Ex×St:=fun x=>(.exit 0,bO [(9,(.ref (11,0) []))] [((11,0),some ⟨false,.il,.own,x⟩)])
def aoo (s:St):Tre (Ex×St):=
 bg .il (s.tmps 1) fun z3 d2=>
 bg .il (s.tmps 2) fun z6 d5=>
 ay true .n (s.tmps 3) fun d8=>
 dR (6,0) [] (s.tmps 4)<|
 dF (11,0) [] (s.tmps 9)<|
 ay true .n (s.tmps 10) fun d12=>
 aZ true aP (s.roots (6,0)) fun m14 d15=>
 asM .own m14<|
 aZ false .il (s.roots (11,0)) fun m17 d18=>
 asM .own m17<|
 .mat (aL (zM d2 d5 d8 d15) (d12,d18)) fun x=>.ret (TN z3 z6 d2 d5 d8 d15 x)
def Em:bA:=⟨([1,2,3,4,9,10],[(6,0),(11,0)]),([9],[(11,0)]),aoo⟩
def abQ:List (Nat×bA):=[(3,Em)]
theorem agP:∀(dV BR:Bool)(aX bq:List Int)(bY:Int)(dI:(Int×(Int×Unit)))(x:(Int×(List Int)))(c:St→Option (Ex×St)),den R7 abQ (aR amQ 0) (XO dV BR aX bq bY dI x) (bR Em.kp Em.kx c)=(zM aX bq bY dI x).run (bS (XO dV BR aX bq bY dI) (TN dV BR aX bq bY dI) c):=fun _ _ _ _ _ _ _ _=>by
 kernel_rfl
theorem amS:bP R7 abQ (aR amQ 0) Em:=bV fun _ _ _=>bZ fun _ _=>bZ fun _ _=>aH fun _=>gL<|fu<|aH fun _=>bT fun _ _=>tM<|bT fun _ _=>tM<|fun h _ e16 _ e13 e11 e10 e9 e7 e4 e1=>bJ (agP _ _ _ _ _ _) h (by subst_vars;exact aM rfl rfl ⟨e1,e4,e7,e9,e10,e11,trivial⟩ ⟨e13,e16,trivial⟩)
def awK:FnI:=fnI Tryz.f38 abQ
def aex (_:Bool) (_:Bool) (_:(Int×(Int×Unit))) (_:List Int) (_:List Int) (_:Int):(List Int)→au:=fun r=>⟨(.ref (1,0) []),[],[⟨false,.il,.own,r⟩]⟩
theorem auI:∀(zp0 zp1:Bool)(p0:(Int×(Int×Unit)))(p1 p2:List Int)(p3:Int),bL R7 awK ⟨[(.imm true aP p0),(.imm zp0 .il p1),(.imm zp1 .il p2),(.i p3)],[]⟩=(amO p0 p1 p2 p3).run fun r=>some (aex zp0 zp1 p0 p1 p2 p3 r):=fun _ _ _ _ _ _=>by kernel_rfl
def awJ (av:List AV) (rs:List Root):Tre au:=
 aD av fun a0_ av0=>
 aD av0 fun a1_ av1=>
 aD av1 fun a2_ av2=>
 aD av2 fun a3_ av3=>
 aN av3<|
 aN rs<|
 ay true aP a0_ fun d1=>
 bg .il a1_ fun z3 d2=>
 bg .il a2_ fun z5 d4=>
 ay true .n a3_ fun d6=>
 .mat (R6 d1 d2 d4 d6) fun r=>.ret (aex z3 z5 d1 d2 d4 d6 r)
def amR:Ctr:=dD [] awJ
theorem auJ:Contract Tryz.prog .none 38 amR:=aB (V:=R7) aV (ak uY akx aI) Tryz.func38 (bD (n:=1) fun k hk=>by
 match k,hk with
 |0,_=>exact bF (id:=3) amS) fun _ _ _=>aK fun _ _=>aK fun _ _=>aK fun _ _=>aK fun _ _=>bn<|bn<|aH fun _=>bZ fun _ _=>bZ fun _ _=>aH fun _=>fun h=>by intros;subst_vars;exact bB (auI _ _ _ _ _ _) h
def abR (p0:(Int×(Int×Unit))) (p1:List Int) (p2:List Int):Tre Int:=
 .mat (R6 p0 p1 p2 1) fun r1=>
 .mat (apt p0.1 r1) fun r2=>
 .ret r2
def Im (p0:(Int×(Int×Unit))) (p1:List Int) (p2:List Int):Option Int:=(abR p0 p1 p2).run some
-- more
theorem aFB{f:TF3}(hf:aO f=true){pts w m:List Nat}(hw:inL (FOf f hf) w)(hl:w.length=pts.length)(hwl:w.length≤1000):R6 f (aW (pts.map ((FOf f hf).lp m))) (aW w) 1=some (aW ((FOf f hf).Hu pts w m)):=by
 have hel:=(FOf f hf).Va (m:=m) hl
 unfold R6 amO
 rw [ah (show aL (zM (aW (pts.map ((FOf f hf).lp m))) (aW w) 1 f) (0,[])=some (aW ((FOf f hf).Hu pts w m)) from ?_),Tre.aG]
 refine cO (fun i=>((i:Int),aW (((FOf f hf).Hu pts w m).take i))) w.length _ (fun i hi=>?_) ?_
 ·have hwi:=fI hi
  have hpi:=fI (show i<pts.length by omega)
  have hei:((FOf f hf).Hu pts w m)[i]?=some (cf w i^^^(FOf f hf).lp m (cf pts i)):=by
   unfold FO.Hu
   rw [List.getElem?_map,List.getElem?_zip_eq_some.2 (show pts[i]?=some (cf pts i,cf w i).1∧w[i]?=some (cf pts i,cf w i).2 from ⟨hpi,hwi⟩)]
   rfl
  have hci:(pts.map ((FOf f hf).lp m))[i]?=some ((FOf f hf).lp m (cf pts i)):=by rw [List.getElem?_map,hpi];rfl
  have h1:dY f (cf w i:Int) 1=some (cf w i:Int):=by
   have:=am6 hf (pW hw i) (FOf f hf).hq
   rw [FO.one _ _ (pW hw i)] at this
   exact this
  unfold zM
  dsimp only
  rw [dW (dX hci),dM (dX hwi),ah h1,Tre.run_ite,if_pos (by rw [aY,List.length_take];unfold bI;omega),Tre.aG,aQ (by omega),ab8 hf ((FOf f hf).atC _ _) (pW hw i),Nat.xor_comm,List.take_add_one,hei,Option.toList_some,mU]
  rfl
 ·unfold zM
  dsimp only
  rw [Tre.aA,decide_eq_false (by rw [aY,List.length_map];omega),cond_false,Tre.aG,List.take_of_length_le (by omega)]
theorem azz{f:TF3}(hf:aO f=true){pts w m:List Nat}(hw:inL (FOf f hf) w)(hl:w.length=pts.length)(hwl:w.length≤1000):Im f (aW (pts.map ((FOf f hf).lp m))) (aW w)=some (rkN ((FOf f hf).Hu pts w m):Int):=by
 have hd:=nQ hf
 have hel:=(FOf f hf).Va (m:=m) hl
 unfold Im abR
 rw [ah (aFB hf hw hl hwl),ah (show apt f.1 (aW ((FOf f hf).Hu pts w m))=some _ from gY (by rw [Bool.and_eq_true];exact ⟨gX.2 (by omega),aqr hf ((FOf f hf).ap0 hw) (by omega) (Nat.le_refl _)⟩)),Tre.aG,aBL]
def aey:Env:=⟨tau,[(38,amR),(85,XD)],[]⟩
def arw:FnI:=fnI Tryz.f58 []
def XP (_:Bool) (_:Bool) (_:(Int×(Int×Unit))) (_:List Int) (_:List Int):Int→au:=fun r=>⟨(.i r),[],[]⟩
theorem aop:∀(zp0 zp1:Bool)(p0:(Int×(Int×Unit)))(p1 p2:List Int),bL aey arw ⟨[(.imm true aP p0),(.imm zp0 .il p1),(.imm zp1 .il p2)],[]⟩=(abR p0 p1 p2).run fun r=>some (XP zp0 zp1 p0 p1 p2 r):=fun _ _ _ _ _=>by kernel_rfl
def arv (av:List AV) (rs:List Root):Tre au:=
 aD av fun a0_ av0=>
 aD av0 fun a1_ av1=>
 aD av1 fun a2_ av2=>
 aN av2<|
 aN rs<|
 ay true aP a0_ fun d1=>
 bg .il a1_ fun z3 d2=>
 bg .il a2_ fun z5 d4=>
 .mat (Im d1 d2 d4) fun r=>.ret (XP z3 z5 d1 d2 d4 r)
def aez:Ctr:=dD [] arv
theorem aoq:Contract Tryz.prog .none 58 aez:=aB (V:=aey) aV (ak auJ aDW (ak aek aD3 aI)) Tryz.func58 bN fun _ _ _=>aK fun _ _=>aK fun _ _=>aK fun _ _=>bn<|bn<|aH fun _=>bZ fun _ _=>bZ fun _ _=>fun h=>by intros;subst_vars;exact bB (aop _ _ _ _ _) h
def ac3 (p0:List Int):Tre Int:=
 .ret (p0.length:Int)
def alb (p0:List Int):Option Int:=(ac3 p0).run some
theorem ac4(p0:List Int):alb p0=some (p0.length:Int):=rfl
def V8:Env:=⟨tau,[],[]⟩
def ald:FnI:=fnI Tryz.f45 []
def OQ (_:Bool) (_:List Int):Int→au:=fun r=>⟨(.i r),[],[]⟩
theorem aiQ:∀(zp0:Bool)(p0:List Int),bL V8 ald ⟨[(.imm zp0 .il p0)],[]⟩=(ac3 p0).run fun r=>some (OQ zp0 p0 r):=fun _ _=>by kernel_rfl
def alc (av:List AV) (rs:List Root):Tre au:=
 aD av fun a0_ av0=>
 aN av0<|
 aN rs<|
 bg .il a0_ fun z2 d1=>
 .ret (OQ z2 d1 (d1.length:Int))
def kE:Ctr:=dD [] alc
theorem lF:Contract Tryz.prog .none 45 kE:=aB (V:=V8) aV aI Tryz.func45 bN fun _ _ _=>aK fun _ _=>bn<|bn<|bZ fun _ _=>fun h=>by intros;subst_vars;exact sW (aiQ _ _) (ac4 _) h
def Jq (p0:aF):Tre Int:=
 let v1:=aJ .i64 ((p0.2.1.length:Int)-p0.2.2.1)
 let v2:=aJ .i64 (Int.tdiv v1 2)
 .ret v2
def VJ (p0:aF):Option Int:=(Jq p0).run some
def eT(p0:aF):Int:=
 let v1:=aJ .i64 ((p0.2.1.length:Int)-p0.2.2.1)
 let v2:=aJ .i64 (Int.tdiv v1 2)
 v2
theorem Ox(p0:aF):VJ p0=some (eT p0):=rfl
def EN:Env:=⟨tau,[(45,kE)],[]⟩
def VL:FnI:=fnI Tryz.f61 []
def Aq (_:Bool) (_:aF):Int→au:=fun r=>⟨(.i r),[],[]⟩
theorem Uq:∀(zp0:Bool)(p0:aF),bL EN VL ⟨[(.imm zp0 aU p0)],[]⟩=(Jq p0).run fun r=>some (Aq zp0 p0 r):=fun _ _=>by kernel_rfl
def VK (av:List AV) (rs:List Root):Tre au:=
 aD av fun a0_ av0=>
 aN av0<|
 aN rs<|
 bg aU a0_ fun z2 d1=>
 .ret (Aq z2 d1 (eT d1))
def EO:Ctr:=dD [] VK
theorem Ur:Contract Tryz.prog .none 61 EO:=aB (V:=EN) aV (ak lF akw aI) Tryz.func61 bN fun _ _ _=>aK fun _ _=>bn<|bn<|bZ fun _ _=>fun h=>by intros;subst_vars;exact sW (Uq _ _) (Ox _) h
def Iw:(List Int)→Tre ((List Int) ⊕ (List Int)):=fun s1=>
 .cond (decide ((s1.length:Int)>0))
  (let v1:=aJ .i64 ((s1.length:Int)-1)
  .ite (0≤v1∧v1<(s1.length:Int))<|
  .mat (s1[v1.toNat]?) fun x2=>
  .cond (decide (x2=0))
   (.ite (0≤(0:Int)∧(0:Int)≤v1∧v1≤(s1.length:Int))<|
   let v3:=(s1.drop 0).take (v1-0).toNat
   .ret (.inl v3))
   (.ret (.inr s1)))
  (.ret (.inr s1))
def avY (p0:List Int):Tre (List Int):=
 .mat (aL Iw p0) fun l4=>
 .ret l4
def Wi (p0:List Int):Option (List Int):=(avY p0).run some
-- more
theorem alr{l:List Nat}{n:Nat}(hn:0<n)(hl:n≤l.length)(hl2:l.length≤1000):(Iw (aW (l.take n))).run some=some (if cf l (n-1)=0 then .inl (aW (l.take (n-1))) else .inr (aW (l.take n))):=by
 have hlen:(aW (l.take n)).length=n:=by rw [aY,List.length_take];omega
 have hx:(aW (l.take n))[n-1]?=some (cf l (n-1):Int):=by
  refine dX ?_
  rw [List.getElem?_take_of_lt (by omega)];exact fI (by omega)
 have hm:aJ .i64 (((aW (l.take n)).length:Int)-1)=((n-1:Nat):Int):=by rw [hlen,gP (by omega) (by omega)]
 unfold Iw
 dsimp only
 rw [Tre.aA,decide_eq_true (by omega),cond_true]
 rw [hm,dM hx,Tre.aA]
 by_cases h0:cf l (n-1)=0
 ·rw [if_pos h0,decide_eq_true (by omega),cond_true,Tre.run_ite,if_pos (by omega),Tre.aG]
  have he:(((n-1:Nat):Int)-0).toNat=n-1:=by omega
  rw [he,List.drop_zero,←Yi,List.take_take,Nat.min_eq_left (by omega)]
 ·rw [if_neg h0,decide_eq_false (by omega),cond_false,Tre.aG]
theorem ati{l:List Nat}(hl2:l.length≤1000):Wi (aW l)=some (aW (dh l)):=by
 have htl:=lC l
 unfold Wi avY
 rw [ah (show aL Iw (aW l)=some (aW (dh l)) from ?_),Tre.aG]
 have h0:aW l=aW (l.take (l.length-0)):=by rw [Nat.sub_zero,List.take_length]
 rw [h0]
 refine cO (fun i=>aW (l.take (l.length-i))) (l.length-(dh l).length) _ (fun i hi=>?_) ?_
 ·rw [alr (by omega) (by omega) hl2,if_pos (II (by omega)),Nat.sub_sub]
 ·rw [show l.length-(l.length-(dh l).length)=(dh l).length by omega]
  by_cases hz:(dh l).length=0
  ·have:dh l=[]:=List.length_eq_zero_iff.1 hz
   rw [hz,List.take_zero,this]
   rfl
  ·rw [alr (by omega) htl hl2,if_neg ((Qa l).resolve_left hz),aeW]
def ac6:Env:=⟨tau,[],[]⟩
def as2:Code:=(Tryz.f48.body).getD .skip
def ac7 (awW:Bool):(List Int)→St:=fun x=>bO [(0,(.imm awW .il x))] []
def ZI (awW:Bool):(List Int)→Ex×St:=fun x=>(.exit 0,bO [(0,(.imm awW .il x))] [])
def as4 (s:St):Tre (Ex×St):=
 bg .il (s.tmps 0) fun z3 d2=>
 .mat (aL Iw d2) fun x=>.ret (ZI z3 x)
def LP:bA:=⟨([0],[]),([0],[]),as4⟩
def alf:List (Nat×bA):=[(1,LP)]
theorem alg:∀(awW:Bool)(x:List Int)(c:St→Option (Ex×St)),den ac6 alf (aR as2 0) (ac7 awW x) (bR LP.kp LP.kx c)=(Iw x).run (bS (ac7 awW) (ZI awW) c):=fun _ _ _=>by
 kernel_rfl
theorem aqj:bP ac6 alf (aR as2 0) LP:=bV fun _ _ _=>bZ fun _ _=>fun h e1=>bJ (alg _) h (by subst_vars;exact aM rfl rfl ⟨e1,trivial⟩ trivial)
def aA2:FnI:=fnI Tryz.f48 alf
def alh (zp0:Bool) (_:List Int):(List Int)→au:=fun r=>⟨(.imm zp0 .il r),[],[]⟩
theorem ayX:∀(zp0:Bool)(p0:List Int),bL ac6 aA2 ⟨[(.imm zp0 .il p0)],[]⟩=(avY p0).run fun r=>some (alh zp0 p0 r):=fun _ _=>by kernel_rfl
def aA1 (av:List AV) (rs:List Root):Tre au:=
 aD av fun a0_ av0=>
 aN av0<|
 aN rs<|
 bg .il a0_ fun z2 d1=>
 .mat (Wi d1) fun r=>.ret (alh z2 d1 r)
def as3:Ctr:=dD [0] aA1
theorem ayY:Contract Tryz.prog .none 48 as3:=aB (V:=ac6) aV aI Tryz.func48 (bD (n:=1) fun k hk=>by
 match k,hk with
 |0,_=>exact bF (id:=1) aqj) fun _ _ _=>aK fun _ _=>bn<|bn<|bZ fun _ _=>fun h=>by intros;subst_vars;exact bB (ayX _ _) h
def kU (aX:List Int) (bq:List Int) (bY:Int) (dI:(Int×(Int×Unit))):(Int×(List Int))→Tre ((Int×(List Int)) ⊕ (List Int)):=fun s3=>
 .cond (decide (s3.1<bY))
  (.ite (0≤s3.1∧s3.1<(bq.length:Int))<|
  .mat (bq[s3.1.toNat]?) fun x1=>
  .mat (xY dI aX x1) fun r2=>
  .ite ((s3.2.length+1)*8≤bI∧1≤8)<|
  .ret (.inl (aJ .i64 (s3.1+1),s3.2++([r2]))))
  (.ret (.inr s3.2))
def Jh (p0:(Int×(Int×Unit))) (p1:List Int) (p2:List Int):Tre (List Int):=
 .mat (aL (kU p1 p2 (p2.length:Int) p0) (0,[])) fun l3=>
 .ret l3
def vN (p0:(Int×(Int×Unit))) (p1:List Int) (p2:List Int):Option (List Int):=(Jh p0 p1 p2).run some
def vO:Env:=⟨tau,[(69,SI)],[]⟩
def Ot:Code:=(Tryz.f46.body).getD .skip
def EI (dV:Bool) (BR:Bool) (aX:List Int) (bq:List Int) (bY:Int) (dI:(Int×(Int×Unit))):(Int×(List Int))→St:=fun x=>bO [(1,(.imm dV .il aX)),(3,(.ptr (5,0) [])),(7,(.ref (9,0) [])),(11,(.imm BR .il bq)),(12,(.i bY)),(13,(.i x.1))] [((5,0),some ⟨true,aP,.own,dI⟩),((9,0),some ⟨false,.il,.own,x.2⟩)]
def Cn (_:Bool) (_:Bool) (_:List Int) (_:List Int) (_:Int) (_:(Int×(Int×Unit))):(List Int)→Ex×St:=fun x=>(.exit 0,bO [(7,(.ref (9,0) []))] [((9,0),some ⟨false,.il,.own,x⟩)])
def YG (s:St):Tre (Ex×St):=
 bg .il (s.tmps 1) fun z3 d2=>
 dR (5,0) [] (s.tmps 3)<|
 dF (9,0) [] (s.tmps 7)<|
 bg .il (s.tmps 11) fun z8 d7=>
 ay true .n (s.tmps 12) fun d10=>
 ay true .n (s.tmps 13) fun d12=>
 aZ true aP (s.roots (5,0)) fun m14 d15=>
 asM .own m14<|
 aZ false .il (s.roots (9,0)) fun m17 d18=>
 asM .own m17<|
 .mat (aL (kU d2 d7 d10 d15) (d12,d18)) fun x=>.ret (Cn z3 z8 d2 d7 d10 d15 x)
def pE:bA:=⟨([1,3,7,11,12,13],[(5,0),(9,0)]),([7],[(9,0)]),YG⟩
def CZ:List (Nat×bA):=[(3,pE)]
theorem Q0:∀(dV BR:Bool)(aX bq:List Int)(bY:Int)(dI:(Int×(Int×Unit)))(x:(Int×(List Int)))(c:St→Option (Ex×St)),den vO CZ (aR Ot 0) (EI dV BR aX bq bY dI x) (bR pE.kp pE.kx c)=(kU aX bq bY dI x).run (bS (EI dV BR aX bq bY dI) (Cn dV BR aX bq bY dI) c):=fun _ _ _ _ _ _ _ _=>by
 kernel_rfl
theorem VE:bP vO CZ (aR Ot 0) pE:=bV fun _ _ _=>bZ fun _ _=>gL<|fu<|bZ fun _ _=>aH fun _=>aH fun _=>bT fun _ _=>tM<|bT fun _ _=>tM<|fun h _ e16 _ e13 e11 e9 e6 e5 e4 e1=>bJ (Q0 _ _ _ _ _ _) h (by subst_vars;exact aM rfl rfl ⟨e1,e4,e5,e6,e9,e11,trivial⟩ ⟨e13,e16,trivial⟩)
def afC:FnI:=fnI Tryz.f46 CZ
def Ji (_:Bool) (_:Bool) (_:(Int×(Int×Unit))) (_:List Int) (_:List Int):(List Int)→au:=fun r=>⟨(.ref (1,0) []),[],[⟨false,.il,.own,r⟩]⟩
theorem acL:∀(zp0 zp1:Bool)(p0:(Int×(Int×Unit)))(p1 p2:List Int),bL vO afC ⟨[(.imm true aP p0),(.imm zp0 .il p1),(.imm zp1 .il p2)],[]⟩=(Jh p0 p1 p2).run fun r=>some (Ji zp0 zp1 p0 p1 p2 r):=fun _ _ _ _ _=>by kernel_rfl
def afB (av:List AV) (rs:List Root):Tre au:=
 aD av fun a0_ av0=>
 aD av0 fun a1_ av1=>
 aD av1 fun a2_ av2=>
 aN av2<|
 aN rs<|
 ay true aP a0_ fun d1=>
 bg .il a1_ fun z3 d2=>
 bg .il a2_ fun z5 d4=>
 .mat (vN d1 d2 d4) fun r=>.ret (Ji z3 z5 d1 d2 d4 r)
def Ou:Ctr:=dD [] afB
theorem acM:Contract Tryz.prog .none 46 Ou:=aB (V:=vO) aV (ak afA aGy aI) Tryz.func46 (bD (n:=1) fun k hk=>by
 match k,hk with
 |0,_=>exact bF (id:=3) VE) fun _ _ _=>aK fun _ _=>aK fun _ _=>aK fun _ _=>bn<|bn<|aH fun _=>bZ fun _ _=>bZ fun _ _=>fun h=>by intros;subst_vars;exact bB (acL _ _ _ _ _) h
def yO (p0:aF) (p1:List Int):Tre (List Int):=
 .mat (vN p0.1 p1 p0.2.1) fun r1=>
 .ret r1
def oh (p0:aF) (p1:List Int):Option (List Int):=(yO p0 p1).run some
-- more
theorem awe{f:TF3}(hf:aO f=true){P X:List Nat}(hP:inL (FOf f hf) P)(hl:P.length≤1000)(hX:inL (FOf f hf) X)(hXl:X.length≤1000):vN f (aW P) (aW X)=some (aW (X.map ((FOf f hf).lp P))):=by
 unfold vN Jh
 rw [ah (show aL (kU (aW P) (aW X) ((aW X).length:Int) f) (0,[])=some (aW (X.map ((FOf f hf).lp P))) from ?_),Tre.aG]
 refine cO (fun i=>((i:Int),aW ((X.take i).map ((FOf f hf).lp P)))) X.length _ (fun i hi=>?_) ?_
 ·unfold kU
  dsimp only
  rw [dW (dX (fI hi)),ah (ay6 hf hP hl (pW hX i)),Tre.run_ite,if_pos (by rw [aY,List.length_map,List.length_take];unfold bI;omega),Tre.aG,aQ (by omega),List.take_add_one,fI hi,Option.toList_some,List.map_append,mU]
  rfl
 ·unfold kU
  dsimp only
  rw [aY,dB,Tre.aG,List.take_length]
theorem av6{f:TF3}(hf:aO f=true){P X:List Nat}(hP:inL (FOf f hf) P)(hl:P.length≤1000)(hX:inL (FOf f hf) X)(hXl:X.length≤1000)(k:Int):oh (f,aW X,k,()) (aW P)=some (aW (X.map ((FOf f hf).lp P))):=by
 unfold oh yO
 dsimp only
 rw [ah (awe hf hP hl hX hXl),Tre.aG]
def EL:Env:=⟨tau,[(46,Ou)],[]⟩
def VI:FnI:=fnI Tryz.f35 []
def Ap (_:Bool) (_:Bool) (_:aF) (_:List Int):(List Int)→au:=fun r=>⟨(.ref (1,0) []),[],[⟨false,.il,.own,r⟩]⟩
theorem Un:∀(zp0 zp1:Bool)(p0:aF)(p1:List Int),bL EL VI ⟨[(.imm zp0 aU p0),(.imm zp1 .il p1)],[]⟩=(yO p0 p1).run fun r=>some (Ap zp0 zp1 p0 p1 r):=fun _ _ _ _=>by kernel_rfl
def VH (av:List AV) (rs:List Root):Tre au:=
 aD av fun a0_ av0=>
 aD av0 fun a1_ av1=>
 aN av1<|
 aN rs<|
 bg aU a0_ fun z2 d1=>
 bg .il a1_ fun z4 d3=>
 .mat (oh d1 d3) fun r=>.ret (Ap z2 z4 d1 d3 r)
def EM:Ctr:=dD [] VH
theorem Uo:Contract Tryz.prog .none 35 EM:=aB (V:=EL) aV (ak acM aGn aI) Tryz.func35 bN fun _ _ _=>aK fun _ _=>aK fun _ _=>bn<|bn<|bZ fun _ _=>bZ fun _ _=>fun h=>by intros;subst_vars;exact bB (Un _ _ _ _) h
def Db (aX:List Int) (bq:Int):(Int×(List Int))→Tre ((Int×(List Int)) ⊕ (List Int)):=fun s3=>
 .cond (decide (s3.1<bq))
  (.ite (0≤s3.1∧s3.1<(aX.length:Int))<|
  .mat (aX[s3.1.toNat]?) fun x2=>
  .ite (0≤s3.1∧s3.1<(s3.2.length:Int))<|
  .mat (s3.2[s3.1.toNat]?) fun x3=>
  .ite (0≤s3.1∧s3.1<(s3.2.length:Int))<|
  .mat (s3.2[s3.1.toNat]?) fun _=>
  let v5:=s3.2.set s3.1.toNat (iD .i64 x3 x2)
  .ret (.inl (aJ .i64 (s3.1+1),v5)))
  (.ret (.inr s3.2))
def ap7 (p0:List Int) (p1:List Int):Tre (List Int):=
 .mat (fQ p0) fun r1=>
 .mat (aL (Db p1 (p1.length:Int)) (0,r1)) fun l6=>
 .ret l6
def Yf (p0:List Int) (p1:List Int):Option (List Int):=(ap7 p0 p1).run some
-- more
theorem ayZ{f:TF3}(hf:aO f=true){pts w m:List Nat}(hw:inL (FOf f hf) w)(hl:w.length=pts.length)(hwl:w.length≤1000):Yf (aW w) (aW (pts.map ((FOf f hf).lp m)))=some (aW ((FOf f hf).Hu pts w m)):=by
 have hel:=(FOf f hf).Va (m:=m) hl
 have hst:∀i,i<w.length→(((FOf f hf).Hu pts w m).take i++w.drop i)[i]?=some (cf w i)∧(pts.map ((FOf f hf).lp m))[i]?=some ((FOf f hf).lp m (cf pts i))∧(((FOf f hf).Hu pts w m).take i++w.drop i).set i (cf w i^^^(FOf f hf).lp m (cf pts i))=((FOf f hf).Hu pts w m).take (i+1)++w.drop (i+1):=by
  intro i hi
  have hti:(((FOf f hf).Hu pts w m).take i).length=i:=by rw [List.length_take];omega
  have hwi:=fI hi
  have hpi:=fI (show i<pts.length by omega)
  have hei:((FOf f hf).Hu pts w m)[i]?=some (cf w i^^^(FOf f hf).lp m (cf pts i)):=by
   unfold FO.Hu
   rw [List.getElem?_map,List.getElem?_zip_eq_some.2 (show pts[i]?=some (cf pts i,cf w i).1∧w[i]?=some (cf pts i,cf w i).2 from ⟨hpi,hwi⟩)]
   rfl
  have hd:w.drop i=cf w i::w.drop (i+1):=by
   obtain ⟨h1,h2⟩:=List.getElem?_eq_some_iff.1 hwi
   rw [List.drop_eq_getElem_cons h1,h2]
  refine ⟨by rw [List.getElem?_append_right (by omega),hti,Nat.sub_self,hd];rfl,by rw [List.getElem?_map,hpi];rfl,?_⟩
  rw [List.set_append_right _ _ (by omega),hti,Nat.sub_self,hd,List.set_cons_zero,List.take_add_one,hei,Option.toList_some,List.append_assoc]
  rfl
 unfold Yf ap7
 rw [ah (show fQ (aW w)=some (aW w) from Dl (by rw [aY];omega))]
 rw [ah (show aL (Db (aW (pts.map ((FOf f hf).lp m))) ((aW (pts.map ((FOf f hf).lp m))).length:Int)) (0,aW w)=some (aW ((FOf f hf).Hu pts w m)) from ?_),Tre.aG]
 refine cO (fun i=>((i:Int),aW (((FOf f hf).Hu pts w m).take i++w.drop i))) w.length _ (fun i hi=>?_) ?_
 ·obtain ⟨h1,h2,h3⟩:=hst i hi
  unfold Db
  dsimp only
  rw [dW (dX h2),dM (dX h1),dM (dX h1),ab8 hf (pW hw i) ((FOf f hf).atC _ _),Int.toNat_natCast,←Wj,h3,Tre.aG,aQ (by omega)]
 ·unfold Db
  dsimp only
  rw [aY,List.length_map,←hl,dB,Tre.aG,List.drop_length,List.append_nil,List.take_of_length_le (by omega)]
def Yg:Env:=⟨tau,[(65,kJ)],[]⟩
def ao0:Code:=(Tryz.f34.body).getD .skip
def Zz (dV:Bool) (aX:List Int) (bq:Int):(Int×(List Int))→St:=fun x=>bO [(5,(.ref (7,0) [])),(10,(.imm dV .il aX)),(11,(.i bq)),(12,(.i x.1))] [((7,0),some ⟨false,.il,.own,x.2⟩)]
def V3 (_:Bool) (_:List Int) (_:Int):(List Int)→Ex×St:=fun x=>(.exit 0,bO [(5,(.ref (7,0) []))] [((7,0),some ⟨false,.il,.own,x⟩)])
def ap8 (s:St):Tre (Ex×St):=
 dF (7,0) [] (s.tmps 5)<|
 bg .il (s.tmps 10) fun z4 d3=>
 ay true .n (s.tmps 11) fun d6=>
 ay true .n (s.tmps 12) fun d8=>
 aZ false .il (s.roots (7,0)) fun m10 d11=>
 asM .own m10<|
 .mat (aL (Db d3 d6) (d8,d11)) fun x=>.ret (V3 z4 d3 d6 x)
def H7:bA:=⟨([5,10,11,12],[(7,0)]),([5],[(7,0)]),ap8⟩
def afJ:List (Nat×bA):=[(3,H7)]
theorem aiI:∀(dV:Bool)(aX:List Int)(bq:Int)(x:(Int×(List Int)))(c:St→Option (Ex×St)),den Yg afJ (aR ao0 0) (Zz dV aX bq x) (bR H7.kp H7.kx c)=(Db aX bq x).run (bS (Zz dV aX bq) (V3 dV aX bq) c):=fun _ _ _ _ _=>by
 kernel_rfl
theorem anK:bP Yg afJ (aR ao0 0) H7:=bV fun _ _ _=>fu<|bZ fun _ _=>aH fun _=>aH fun _=>bT fun _ _=>tM<|fun h _ e9 e7 e5 e2 e1=>bJ (aiI _ _ _) h (by subst_vars;exact aM rfl rfl ⟨e1,e2,e5,e7,trivial⟩ ⟨e9,trivial⟩)
def ayQ:FnI:=fnI Tryz.f34 afJ
def aho (_:Bool) (_:Bool) (_:List Int) (_:List Int):(List Int)→au:=fun r=>⟨(.ref (1,0) []),[],[⟨false,.il,.own,r⟩]⟩
theorem avP:∀(zp0 zp1:Bool)(p0 p1:List Int),bL Yg ayQ ⟨[(.imm zp0 .il p0),(.imm zp1 .il p1)],[]⟩=(ap7 p0 p1).run fun r=>some (aho zp0 zp1 p0 p1 r):=fun _ _ _ _=>by kernel_rfl
def ayP (av:List AV) (rs:List Root):Tre au:=
 aD av fun a0_ av0=>
 aD av0 fun a1_ av1=>
 aN av1<|
 aN rs<|
 bg .il a0_ fun z2 d1=>
 bg .il a1_ fun z4 d3=>
 .mat (Yf d1 d3) fun r=>.ret (aho z2 z4 d1 d3 r)
def ao1:Ctr:=dD [] ayP
theorem avQ:Contract Tryz.prog .none 34 ao1:=aB (V:=Yg) aV (ak nD axf aI) Tryz.func34 (bD (n:=1) fun k hk=>by
 match k,hk with
 |0,_=>exact bF (id:=3) anK) fun _ _ _=>aK fun _ _=>aK fun _ _=>bn<|bn<|bZ fun _ _=>bZ fun _ _=>fun h=>by intros;subst_vars;exact bB (avP _ _ _ _) h
def ak6 (p0:List Int):Tre Int:=
 .mat (acn p0) fun r1=>
 .ret (r1.length:Int)
def Rh (p0:List Int):Option Int:=(ak6 p0).run some
-- more
theorem aC9{f:TF3}(hf:aO f=true){L:List Nat}(h:inL (FOf f hf) L)(hl:L.length≤1000):Rh (aW L)=some (rkN L:Int):=by
 have h5:=(K5 hf).2
 unfold Rh ak6
 rw [ah (show acn (aW L)=some _ from gY (aqr hf h hl (by omega))),Tre.aG,aBL]
def ak7:Env:=⟨tau,[(64,zx),(45,kE)],[]⟩
def avT:FnI:=fnI Tryz.f33 []
def ac1 (_:Bool) (_:List Int):Int→au:=fun r=>⟨(.i r),[],[]⟩
theorem asY:∀(zp0:Bool)(p0:List Int),bL ak7 avT ⟨[(.imm zp0 .il p0)],[]⟩=(ak6 p0).run fun r=>some (ac1 zp0 p0 r):=fun _ _=>by kernel_rfl
def avS (av:List AV) (rs:List Root):Tre au:=
 aD av fun a0_ av0=>
 aN av0<|
 aN rs<|
 bg .il a0_ fun z2 d1=>
 .mat (Rh d1) fun r=>.ret (ac1 z2 d1 r)
def ak8:Ctr:=dD [] avS
theorem asZ:Contract Tryz.prog .none 33 ak8:=aB (V:=ak7) aV (ak AU asz (ak lF akw aI)) Tryz.func33 bN fun _ _ _=>aK fun _ _=>bn<|bn<|bZ fun _ _=>fun h=>by intros;subst_vars;exact bB (asY _ _) h
def iq (pX:Int) (Vk:Int) (D6:(Int×(Int×Unit))):(Int×(List Int))→Tre ((Int×(List Int)) ⊕ (List Int)):=fun s7=>
 .cond (decide (s7.1<Vk))
  (.mat (gD D6 pX s7.1) fun r2=>
  .ite ((s7.2.length+1)*8≤bI∧1≤8)<|
  .ret (.inl (aJ .i64 (s7.1+1),s7.2++([r2]))))
  (.ret (.inr s7.2))
def gF (je:Int) (K7:Int) (Ac:aF) (DK:(Int×(Int×Unit))):(Int×(List Int))→Tre ((Int×(List Int)) ⊕ (List Int)):=fun s12=>
 .cond (decide (s12.1<K7))
  (.ite (0≤je∧je<(Ac.2.1.length:Int))<|
  .mat (Ac.2.1[je.toNat]?) fun x5=>
  .mat (gD DK x5 s12.1) fun r6=>
  .ite ((s12.2.length+1)*8≤bI∧1≤8)<|
  .ret (.inl (aJ .i64 (s12.1+1),s12.2++([r6]))))
  (.ret (.inr s12.2))
def ig (bq:Int) (bY:List Int) (dG:Int) (fA:aF) (IW:(Int×(Int×Unit))):(Int×(List (List Int)))→Tre ((Int×(List (List Int))) ⊕ (List (List Int))):=fun s3=>
 .cond (decide (s3.1<dG))
  (.ite (0≤s3.1∧s3.1<(bY.length:Int))<|
  .mat (bY[s3.1.toNat]?) fun x1=>
  .mat (aL (iq x1 (aJ .i64 (bq+1)) IW) (0,[])) fun l3=>
  let v4:=aJ .i64 (bq+fA.2.2.1)
  .mat (aL (gF s3.1 v4 fA IW) (0,l3)) fun l7=>
  .ite ((s3.2.length+1)*24≤bI∧1≤24)<|
  .ret (.inl (aJ .i64 (s3.1+1),s3.2++([l7]))))
  (.ret (.inr s3.2))
def yN (p0:aF) (p1:List Int):Tre (Bool×(List Int)):=
 .mat (aL (ig (eT p0) p1 (p1.length:Int) p0 p0.1) (0,[])) fun l8=>
 let v9:=aJ .i64 (2*(eT p0))
 let v10:=aJ .i64 ((aJ .i64 (v9+1))+p0.2.2.1)
 .mat (kR p0.1 v10 l8) fun r11=>
 .alt r11
  (fun _=>
   .ret (false,[]))
  (fun b13=>
   .ite (0<b13.length)<|
   let v14:=aJ .i64 ((eT p0)+1)
   .ite (0≤(0:Int)∧(0:Int)≤v14∧v14≤(b13.length:Int))<|
   let v15:=(b13.drop 0).take (v14-0).toNat
   .mat (Wi v15) fun r16=>
   .ite (0≤v14∧v14≤(b13.length:Int)∧(b13.length:Int)≤(b13.length:Int))<|
   let v17:=(b13.drop v14.toNat).take ((b13.length:Int)-v14).toNat
   .mat (Wi v17) fun r18=>
   .cond (decide ((r16.length:Int)=0))
    (.ret (false,[]))
    (.mat (vJ p0.1 r18 r16 false) fun r19=>
    .cond (decide ((r19.2.length:Int)>0))
     (.ret (false,[]))
     (.cond (decide ((r19.1.length:Int)>p0.2.2.1))
      (.ret (false,[]))
      (let v20:=aJ .i64 (p0.2.2.1-(r19.1.length:Int))
      .ite (0≤v20∧(r19.1.length+v20.toNat)*8≤bI∧1≤8)<|
      let v21:=r19.1++List.replicate v20.toNat 0
      .mat (oh p0 v21) fun r22=>
      .mat (Yf p1 r22) fun r23=>
      .mat (Rh r23) fun r24=>
      .ret (decide (r24≤(eT p0)),v21)))))
def kC (p0:aF) (p1:List Int):Option (Bool×(List Int)):=(yN p0 p1).run some
-- more
theorem Yw(F:FO)(n x:Nat):F.zW (n+1) x=F.zW n x++[F.sqn n x]:=by
 unfold FO.zW
 rw [List.range_succ,List.map_append]
 rfl
theorem ax0{F:FO}{k:Nat}{A:List Nat}(h:inL F A):inL F (sQ k A):=ac9 h fun x hx=>by rw [(List.mem_replicate.1 hx).2];exact F.zlt
def ail {f:TF3} (hf:aO f=true) (P W:List Nat) (k t:Nat):Option (List Nat):=by
 classical
 exact if (Eu f (2*t+1+k) (Pf hf t k P W)).length=2*t+1+k then none else if h:∃m,acg hf P W k t m then some (Classical.choose h) else none
theorem aoQ{f:TF3}{hf:aO f=true}{P W:List Nat}{k t:Nat}(h:(Eu f (2*t+1+k) (Pf hf t k P W)).length=2*t+1+k):ail hf P W k t=none:=by
 unfold ail;rw [if_pos h]
theorem CO{f:TF3}{hf:aO f=true}{P W:List Nat}{k t:Nat}(h:∀m,¬acg hf P W k t m):ail hf P W k t=none:=by
 unfold ail
 split
 ·rfl
 ·rw [dif_neg fun ⟨m,hm⟩=>h m hm]
theorem aoR{f:TF3}{hf:aO f=true}{P W:List Nat}{k t:Nat}{m:List Nat}(h:(Eu f (2*t+1+k) (Pf hf t k P W)).length≠2*t+1+k)(hm:acg hf P W k t m)(hu:∀m',acg hf P W k t m'→m'=m):ail hf P W k t=some m:=by
 unfold ail
 rw [if_neg h,dif_pos ⟨m,hm⟩,hu _ (Classical.choose_spec (⟨m,hm⟩:∃m,acg hf P W k t m))]
theorem ayr{f:TF3}{hf:aO f=true}{P W:List Nat}{k t:Nat}{m:List Nat}(h:ail hf P W k t=some m):acg hf P W k t m:=by
 unfold ail at h
 split at h
 ·cases h
 ·split at h
  ·rename_i h1
   rw [←Option.some.inj h]
   exact Classical.choose_spec h1
  ·cases h
theorem awc{f:TF3}{P:List Nat}{k:Nat}(hk:k≤P.length)(hn:P.length≤1000):eT (f,aW P,(k:Int),())=(((P.length-k)/2:Nat):Int):=by
 unfold eT
 dsimp only
 rw [aY,show aJ .i64 ((P.length:Int)-(k:Int))=((P.length-k:Nat):Int) by rw [dS (by omega) (by omega)];omega]
 rw [show Int.tdiv ((P.length-k:Nat):Int) 2=(((P.length-k)/2:Nat):Int) from (Int.ofNat_tdiv (P.length-k) 2).symm]
 exact Dj (by omega)
theorem Yr{f:TF3}(hf:aO f=true){P W:List Nat}{t k:Nat}(hl:W.length=P.length):(Pf hf t k P W).length=P.length:=by
 unfold Pf
 rw [List.length_map,List.length_zip,hl,Nat.min_self]
theorem apu{f:TF3}(hf:aO f=true){P W:List Nat}{t k i:Nat}(hl:W.length=P.length)(hi:i<P.length):(Pf hf t k P W)[i]?=some (aW (at0 hf t k (cf P i) (cf W i))):=by
 unfold Pf
 rw [List.getElem?_map,List.getElem?_zip_eq_some.2 (show P[i]?=some (cf P i,cf W i).1∧W[i]?=some (cf P i,cf W i).2 from ⟨fI hi,fI (by omega)⟩)]
 rfl
theorem ay0{f:TF3}(hf:aO f=true){P W:List Nat}{k t:Nat}(hP:inL (FOf f hf) P)(hW:inL (FOf f hf) W)(hl:W.length=P.length)(hn:P.length≤1000)(hk:k≤1000)(ht:t≤1000) :
  aL (ig (t:Int) (aW W) ((aW W).length:Int) (f,aW P,(k:Int),()) f) (0,[])=some (Pf hf t k P W):=by
 have hrl:=Yr hf (t:=t) (k:=k) hl
 refine cO (fun i=>((i:Int),(Pf hf t k P W).take i)) P.length _ (fun i hi=>?_) ?_
 ·have hwi:=fI (show i<W.length by omega)
  have hpi:=fI hi
  have ht1:aJ .i64 ((t:Int)+1)=((t+1:Nat):Int):=aQ (by omega)
  have htk:aJ .i64 ((t:Int)+(k:Int))=((t+k:Nat):Int):=by rw [dS (by omega) (by omega)];omega
  have h1:aL (iq (cf W i:Int) ((t+1:Nat):Int) f) (0,[])=some (aW ((FOf f hf).zW (t+1) (cf W i))):=by
   refine cO (fun j=>((j:Int),aW ((FOf f hf).zW j (cf W i)))) (t+1) _ (fun j hj=>?_) ?_
   ·unfold iq
    dsimp only
    rw [Tre.aA,decide_eq_true (by omega),cond_true,ah (alq hf (pW hW i) j),Tre.run_ite,if_pos (by rw [aY,FO.BP];unfold bI;omega),Tre.aG,aQ (by omega),Yw,mU]
    rfl
   ·unfold iq
    dsimp only
    rw [dB,Tre.aG]
  have h2:aL (gF (i:Int) ((t+k:Nat):Int) (f,aW P,(k:Int),()) f) (0,aW ((FOf f hf).zW (t+1) (cf W i)))=some (aW (at0 hf t k (cf P i) (cf W i))):=by
   have h0:aW ((FOf f hf).zW (t+1) (cf W i))=aW ((FOf f hf).zW (t+1) (cf W i)++(FOf f hf).zW 0 (cf P i)):=by
    rw [show (FOf f hf).zW 0 (cf P i)=[] from rfl,List.append_nil]
   rw [h0]
   refine cO (fun j=>((j:Int),aW ((FOf f hf).zW (t+1) (cf W i)++(FOf f hf).zW j (cf P i)))) (t+k) _ (fun j hj=>?_) ?_
   ·unfold gF
    dsimp only
    rw [Tre.aA,decide_eq_true (by omega),cond_true,dM (dX hpi),ah (alq hf (pW hP i) j),Tre.run_ite,if_pos (by rw [aY,List.length_append,FO.BP,FO.BP];unfold bI;omega),Tre.aG,aQ (by omega),Yw _ j,←List.append_assoc,mU (_++_) [_]]
    rfl
   ·unfold gF
    dsimp only
    rw [dB,Tre.aG]
    rfl
  unfold ig
  dsimp only
  rw [dW (dX hwi),ht1,ah h1,htk,ah h2,Tre.run_ite,if_pos (by rw [List.length_take];unfold bI;omega),Tre.aG,aQ (by omega),List.take_add_one,apu hf hl hi]
  rfl
 ·unfold ig
  dsimp only
  rw [aY,hl,dB,Tre.aG,List.take_of_length_le (by omega)]
theorem alp{V N:List Nat}{t:Nat}(h:V.length=t+1):((aW (V++N)).drop 0).take (((t+1:Nat):Int)-0).toNat=aW V∧((aW (V++N)).drop ((t+1:Nat):Int).toNat).take (((aW (V++N)).length:Int)-((t+1:Nat):Int)).toNat=aW N:=by
 have hl:(aW V).length=t+1:=by rw [aY,h]
 rw [List.drop_zero,show (((t+1:Nat):Int)-0).toNat=t+1 by omega,Int.toNat_natCast,aY,List.length_append,h,mU]
 refine ⟨by rw [List.take_append_of_le_length (by omega),List.take_of_length_le (by omega)],?_⟩
 rw [List.drop_append_of_le_length (by omega),List.drop_of_length_le (by omega),List.nil_append,List.take_of_length_le (by rw [aY];omega)]
theorem alm{f:TF3}(hf:aO f=true){P W:List Nat}{k:Nat}(hi:FO.uD P)(hP:inL (FOf f hf) P)(hW:inL (FOf f hf) W)(hl:W.length=P.length)(hn:P.length≤10)(hk:1≤k)(hkn:k≤P.length) :
  (∃m,ail hf P W k ((P.length-k)/2)=some m∧kC (f,aW P,(k:Int),()) (aW W)=some (true,aW m))∨(ail hf P W k ((P.length-k)/2)=none∧∃M,kC (f,aW P,(k:Int),()) (aW W)=some (false,M)):=by
 generalize ht:(P.length-k)/2=t
 have hr:eT (f,aW P,(k:Int),())=(t:Int):=by rw [awc hkn (by omega),ht]
 have h2t:2*t+k≤P.length:=by omega
 have hrows:=ay0 hf hP hW hl (by omega) (show k≤1000 by omega) (show t≤1000 by omega)
 have hgr:=at1 hf (t:=t) (k:=k) hP hW
 have hrl:=Yr hf (t:=t) (k:=k) hl
 have h9:aJ .i64 (2*(t:Int))=((2*t:Nat):Int):=by rw [dS (by omega) (by omega)];omega
 have h10:aJ .i64 (((2*t:Nat):Int)+1)=((2*t+1:Nat):Int):=aQ (by omega)
 have h11:aJ .i64 (((2*t+1:Nat):Int)+(k:Int))=((2*t+1+k:Nat):Int):=by rw [dS (by omega) (by omega)];omega
 have ht1:aJ .i64 ((t:Int)+1)=((t+1:Nat):Int):=aQ (by omega)
 unfold kC yN
 dsimp only
 rw [hr,ah hrows,h9,h10,h11]
 rcases av8 hf (show 2*t+1+k≤1000 by omega) hgr (by omega) with ⟨hfull,hke⟩|⟨hnf,x,hke,hker⟩
 ·exact .inr ⟨aoQ hfull,[],by rw [ah hke];rfl⟩
 obtain ⟨V,N,rfl,hV,hN,hVi,hNi,hx,ho⟩:=apc hf hP hW hker
 have hall:∀m,acg hf P W k t m→_:=fun m hm=>axb hf hi hP hW hl (by omega) hk h2t hm hV hN hVi hNi hx ho
 obtain ⟨hp1,hp2⟩:=alp (N:=N) hV
 have hxl:(aW (V++N)).length=2*t+1+k:=by rw [aY,List.length_append];omega
 have hvt:=lC V
 have hnt:=lC N
 rw [ah hke,Tre.aDi,Tre.run_ite,if_pos (by omega),ht1,Tre.run_ite,if_pos (by omega),hp1,ah (ati (by omega)),Tre.run_ite,if_pos (by omega),hp2,ah (ati (by omega)),Tre.aA]
 by_cases hv0:dh V=[]
 ·refine .inr ⟨CO fun m hm=>(hall m hm).1 hv0,[],?_⟩
  rw [decide_eq_true (by rw [aY,hv0];rfl)];rfl
 have hvpos:=List.length_pos_iff.2 hv0
 obtain ⟨A,R,hd1,hd2,hd3,hd4⟩:=av5 hf (uO hNi) (uO hVi) hv0 (vo V) (vo N) (by omega) (by omega)
 rw [decide_eq_false (by rw [aY];omega),cond_false,ah hd1,Tre.aA]
 by_cases hR:R=[]
 ·rw [decide_eq_false (by rw [hR];show ¬((0:Nat):Int)>0;decide),cond_false,Tre.aA]
  by_cases hA:A.length≤k
  ·have hw20:aJ .i64 ((k:Int)-((aW A).length:Int))=((k-A.length:Nat):Int):=by rw [aY,dS (by omega) (by omega)];omega
   have hpad:aW A++List.replicate (k-A.length) (0:Int)=aW (sQ k A):=by unfold sQ;rw [mU,Di]
   have hMi:=ax0 (k:=k) hd2.ia
   have hMl:(sQ k A).length=k:=adE hA
   have hel:=(FOf f hf).Va (m:=sQ k A) hl
   rw [decide_eq_false (by rw [aY];omega),cond_false,hw20,Int.toNat_natCast,Tre.run_ite,if_pos ⟨by omega,by rw [aY];unfold bI;omega,by omega⟩,hpad]
   rw [ah (av6 hf hMi (by omega) hP (by omega) _),ah (ayZ hf hW hl (by omega)),ah (aC9 hf ((FOf f hf).ap0 hW) (by omega)),Tre.aG]
   by_cases hrk:rkN ((FOf f hf).Hu P W (sQ k A))≤t
   ·refine .inl ⟨sQ k A,aoR hnf ⟨hMl,hMi,hrk⟩ fun m' hm'=>?_,by rw [decide_eq_true (by omega)]⟩
    obtain ⟨he,_⟩:=(hall m' hm').2 A R hd2 hd3
    rw [he,RJ hm'.1]
   ·refine .inr ⟨CO fun m hm=>hrk ?_,_,by rw [decide_eq_false (by omega)]⟩
    obtain ⟨he,_⟩:=(hall m hm).2 A R hd2 hd3
    rw [he,RJ hm.1]
    exact hm.2.2
  ·refine .inr ⟨CO fun m hm=>hA ?_,[],?_⟩
   ·obtain ⟨he,_⟩:=(hall m hm).2 A R hd2 hd3
    have:=lC m
    rw [he]
    have:=hm.1
    omega
   ·rw [decide_eq_true (by rw [aY];omega)];rfl
 ·have hRp:=List.length_pos_iff.2 hR
  refine .inr ⟨CO fun m hm=>hR ((hall m hm).2 A R hd2 hd3).2,[],?_⟩
  rw [decide_eq_true (by rw [aY];omega)];rfl
def fF:Env:=⟨tau,[(61,EO),(62,mH),(63,Ll),(48,as3),(47,Od),(45,kE),(35,EM),(34,ao1),(33,ak8)],[(1000002,[((17,0),[],false)])]⟩
def iO:Code:=(Tryz.f32.body).getD .skip
def xB (acd:Bool) (awZ:Bool) (aw0:Bool) (mO:List Int) (gN:Int) (sJ:Int) (pX:Int) (yJ:List Int) (yK:Int) (yL:Int) (Vk:Int) (aaG:aF) (D6:(Int×(Int×Unit))) (QO:(List (List Int))):(Int×(List Int))→St:=fun x=>bO [(1,(.imm acd .il mO)),(2,(.ptr (4,0) [])),(6,(.ptr (8,0) [])),(7,(.i gN)),(8,(.ref (10,0) [])),(9,(.i sJ)),(10,(.i pX)),(11,(.ref (13,0) [])),(24,(.imm awZ .il yJ)),(25,(.i yK)),(26,(.i yL)),(33,(.i Vk)),(34,(.i x.1))] [((4,0),some ⟨true,aU,(.imm aw0),aaG⟩),((8,0),some ⟨true,aP,.own,D6⟩),((10,0),some ⟨false,(.sl .il),.own,QO⟩),((13,0),some ⟨false,.il,.own,x.2⟩)]
def wJ (acd:Bool) (awZ:Bool) (aw0:Bool) (mO:List Int) (gN:Int) (sJ:Int) (_:Int) (yJ:List Int) (yK:Int) (yL:Int) (_:Int) (aaG:aF) (D6:(Int×(Int×Unit))) (QO:(List (List Int))):(List Int)→Ex×St:=fun x=>(.exit 2,bO [(1,(.imm acd .il mO)),(2,(.ptr (4,0) [])),(6,(.ptr (8,0) [])),(7,(.i gN)),(8,(.ref (10,0) [])),(9,(.i sJ)),(11,(.ref (13,0) [])),(24,(.imm awZ .il yJ)),(25,(.i yK)),(26,(.i yL))] [((4,0),some ⟨true,aU,(.imm aw0),aaG⟩),((8,0),some ⟨true,aP,.own,D6⟩),((10,0),some ⟨false,(.sl .il),.own,QO⟩),((13,0),some ⟨false,.il,.own,x⟩)])
def Ow (s:St):Tre (Ex×St):=
 bg .il (s.tmps 1) fun z3 d2=>
 dR (4,0) [] (s.tmps 2)<|
 dR (8,0) [] (s.tmps 6)<|
 ay true .n (s.tmps 7) fun d7=>
 dF (10,0) [] (s.tmps 8)<|
 ay true .n (s.tmps 9) fun d10=>
 ay true .n (s.tmps 10) fun d12=>
 dF (13,0) [] (s.tmps 11)<|
 bg .il (s.tmps 24) fun z16 d15=>
 ay true .n (s.tmps 25) fun d18=>
 ay true .n (s.tmps 26) fun d20=>
 ay true .n (s.tmps 33) fun d22=>
 ay true .n (s.tmps 34) fun d24=>
 aZ true aU (s.roots (4,0)) fun m26 d27=>
 kr m26 fun z28=>
 aZ true aP (s.roots (8,0)) fun m30 d31=>
 asM .own m30<|
 aZ false (.sl .il) (s.roots (10,0)) fun m33 d34=>
 asM .own m33<|
 aZ false .il (s.roots (13,0)) fun m36 d37=>
 asM .own m36<|
 .mat (aL (iq d12 d22 d31) (d24,d37)) fun x=>.ret (wJ z3 z16 z28 d2 d7 d10 d12 d15 d18 d20 d22 d27 d31 d34 x)
def kW:bA:=⟨([1,2,6,7,8,9,10,11,24,25,26,33,34],[(4,0),(8,0),(10,0),(13,0)]),([1,2,6,7,8,9,11,24,25,26],[(4,0),(8,0),(10,0),(13,0)]),Ow⟩
def wH (KC:Bool) (anj:Bool) (ank:Bool) (qI:List Int) (ng:Int) (je:Int) (Qr:List Int) (j5:Int) (qJ:Int) (K7:Int) (Ac:aF) (DK:(Int×(Int×Unit))) (IQ:(List (List Int))):(Int×(List Int))→St:=fun x=>bO [(1,(.imm KC .il qI)),(2,(.ptr (4,0) [])),(6,(.ptr (8,0) [])),(7,(.i ng)),(8,(.ref (10,0) [])),(9,(.i je)),(11,(.ref (13,0) [])),(24,(.imm anj .il Qr)),(25,(.i j5)),(26,(.i qJ)),(48,(.i K7)),(49,(.i x.1))] [((4,0),some ⟨true,aU,(.imm ank),Ac⟩),((8,0),some ⟨true,aP,.own,DK⟩),((10,0),some ⟨false,(.sl .il),.own,IQ⟩),((13,0),some ⟨false,.il,.own,x.2⟩)]
def uL (KC:Bool) (anj:Bool) (ank:Bool) (qI:List Int) (ng:Int) (_:Int) (Qr:List Int) (j5:Int) (qJ:Int) (_:Int) (Ac:aF) (DK:(Int×(Int×Unit))) (IQ:(List (List Int))):(List Int)→Ex×St:=fun x=>(.exit 4,bO [(1,(.imm KC .il qI)),(2,(.ptr (4,0) [])),(6,(.ptr (8,0) [])),(7,(.i ng)),(8,(.ref (10,0) [])),(11,(.ref (13,0) [])),(24,(.imm anj .il Qr)),(25,(.i j5)),(26,(.i qJ))] [((4,0),some ⟨true,aU,(.imm ank),Ac⟩),((8,0),some ⟨true,aP,.own,DK⟩),((10,0),some ⟨false,(.sl .il),.own,IQ⟩),((13,0),some ⟨false,.il,.own,x⟩)])
def M6 (s:St):Tre (Ex×St):=
 bg .il (s.tmps 1) fun z3 d2=>
 dR (4,0) [] (s.tmps 2)<|
 dR (8,0) [] (s.tmps 6)<|
 ay true .n (s.tmps 7) fun d7=>
 dF (10,0) [] (s.tmps 8)<|
 ay true .n (s.tmps 9) fun d10=>
 dF (13,0) [] (s.tmps 11)<|
 bg .il (s.tmps 24) fun z14 d13=>
 ay true .n (s.tmps 25) fun d16=>
 ay true .n (s.tmps 26) fun d18=>
 ay true .n (s.tmps 48) fun d20=>
 ay true .n (s.tmps 49) fun d22=>
 aZ true aU (s.roots (4,0)) fun m24 d25=>
 kr m24 fun z26=>
 aZ true aP (s.roots (8,0)) fun m28 d29=>
 asM .own m28<|
 aZ false (.sl .il) (s.roots (10,0)) fun m31 d32=>
 asM .own m31<|
 aZ false .il (s.roots (13,0)) fun m34 d35=>
 asM .own m34<|
 .mat (aL (gF d10 d20 d25 d29) (d22,d35)) fun x=>.ret (uL z3 z14 z26 d2 d7 d10 d13 d16 d18 d20 d25 d29 d32 x)
def j6:bA:=⟨([1,2,6,7,8,9,11,24,25,26,48,49],[(4,0),(8,0),(10,0),(13,0)]),([1,2,6,7,8,11,24,25,26],[(4,0),(8,0),(10,0),(13,0)]),M6⟩
def xA (dV:Bool) (BR:Bool) (awX:Bool) (aX:List Int) (bq:Int) (bY:List Int) (dG:Int) (fA:aF) (IW:(Int×(Int×Unit))):(Int×(List (List Int)))→St:=fun x=>bO [(1,(.imm dV .il aX)),(2,(.ptr (4,0) [])),(6,(.ptr (8,0) [])),(7,(.i bq)),(8,(.ref (10,0) [])),(24,(.imm BR .il bY)),(25,(.i dG)),(26,(.i x.1))] [((4,0),some ⟨true,aU,(.imm awX),fA⟩),((8,0),some ⟨true,aP,.own,IW⟩),((10,0),some ⟨false,(.sl .il),.own,x.2⟩)]
def wI (dV:Bool) (_:Bool) (awX:Bool) (aX:List Int) (bq:Int) (_:List Int) (_:Int) (fA:aF) (IW:(Int×(Int×Unit))):(List (List Int))→Ex×St:=fun x=>(.exit 0,bO [(1,(.imm dV .il aX)),(2,(.ptr (4,0) [])),(6,(.ptr (8,0) [])),(7,(.i bq)),(8,(.ref (10,0) []))] [((4,0),some ⟨true,aU,(.imm awX),fA⟩),((8,0),some ⟨true,aP,.own,IW⟩),((10,0),some ⟨false,(.sl .il),.own,x⟩)])
def Ov (s:St):Tre (Ex×St):=
 bg .il (s.tmps 1) fun z3 d2=>
 dR (4,0) [] (s.tmps 2)<|
 dR (8,0) [] (s.tmps 6)<|
 ay true .n (s.tmps 7) fun d7=>
 dF (10,0) [] (s.tmps 8)<|
 bg .il (s.tmps 24) fun z11 d10=>
 ay true .n (s.tmps 25) fun d13=>
 ay true .n (s.tmps 26) fun d15=>
 aZ true aU (s.roots (4,0)) fun m17 d18=>
 kr m17 fun z19=>
 aZ true aP (s.roots (8,0)) fun m21 d22=>
 asM .own m21<|
 aZ false (.sl .il) (s.roots (10,0)) fun m24 d25=>
 asM .own m24<|
 .mat (aL (ig d7 d10 d13 d18 d22) (d15,d25)) fun x=>.ret (wI z3 z11 z19 d2 d7 d10 d13 d18 d22 x)
def kV:bA:=⟨([1,2,6,7,8,24,25,26],[(4,0),(8,0),(10,0)]),([1,2,6,7,8],[(4,0),(8,0),(10,0)]),Ov⟩
def fU:List (Nat×bA):=[(7,kW),(12,j6),(3,kV)]
theorem Jp:∀(acd awZ aw0:Bool)(mO:List Int)(gN sJ pX:Int)(yJ:List Int)(yK yL Vk:Int)(aaG:aF)(D6:(Int×(Int×Unit)))(QO:(List (List Int)))(x:(Int×(List Int)))(c:St→Option (Ex×St)),den fF fU (aR iO 1) (xB acd awZ aw0 mO gN sJ pX yJ yK yL Vk aaG D6 QO x) (bR kW.kp kW.kx c)=(iq pX Vk D6 x).run (bS (xB acd awZ aw0 mO gN sJ pX yJ yK yL Vk aaG D6 QO) (wJ acd awZ aw0 mO gN sJ pX yJ yK yL Vk aaG D6 QO) c):=fun _ _ _ _ _ _ _ _ _ _ _ _ _ _ _ _=>by
 kernel_rfl
theorem M8:bP fF fU (aR iO 1) kW:=bV fun _ _ _=>bZ fun _ _=>gL<|gL<|aH fun _=>fu<|aH fun _=>aH fun _=>fu<|bZ fun _ _=>aH fun _=>aH fun _=>aH fun _=>aH fun _=>bT fun _ _=>zU fun _=>bT fun _ _=>tM<|bT fun _ _=>tM<|bT fun _ _=>tM<|fun h _ e35 _ e32 _ e29 _ e25 e23 e21 e19 e17 e14 e13 e11 e9 e8 e6 e5 e4 e1=>bJ (Jp _ _ _ _ _ _ _ _ _ _ _ _ _ _) h (by subst_vars;exact aM rfl rfl ⟨e1,e4,e5,e6,e8,e9,e11,e13,e14,e17,e19,e21,e23,trivial⟩ ⟨e25,e29,e32,e35,trivial⟩)
theorem HZ:∀(KC anj ank:Bool)(qI:List Int)(ng je:Int)(Qr:List Int)(j5 qJ K7:Int)(Ac:aF)(DK:(Int×(Int×Unit)))(IQ:(List (List Int)))(x:(Int×(List Int)))(c:St→Option (Ex×St)),den fF fU (aR iO 2) (wH KC anj ank qI ng je Qr j5 qJ K7 Ac DK IQ x) (bR j6.kp j6.kx c)=(gF je K7 Ac DK x).run (bS (wH KC anj ank qI ng je Qr j5 qJ K7 Ac DK IQ) (uL KC anj ank qI ng je Qr j5 qJ K7 Ac DK IQ) c):=fun _ _ _ _ _ _ _ _ _ _ _ _ _ _ _=>by
 kernel_rfl
theorem KI:bP fF fU (aR iO 2) j6:=bV fun _ _ _=>bZ fun _ _=>gL<|gL<|aH fun _=>fu<|aH fun _=>fu<|bZ fun _ _=>aH fun _=>aH fun _=>aH fun _=>aH fun _=>bT fun _ _=>zU fun _=>bT fun _ _=>tM<|bT fun _ _=>tM<|bT fun _ _=>tM<|fun h _ e33 _ e30 _ e27 _ e23 e21 e19 e17 e15 e12 e11 e9 e8 e6 e5 e4 e1=>bJ (HZ _ _ _ _ _ _ _ _ _ _ _ _ _) h (by subst_vars;exact aM rfl rfl ⟨e1,e4,e5,e6,e8,e9,e11,e12,e15,e17,e19,e21,trivial⟩ ⟨e23,e27,e30,e33,trivial⟩)
theorem Jo:∀(dV BR awX:Bool)(aX:List Int)(bq:Int)(bY:List Int)(dG:Int)(fA:aF)(IW:(Int×(Int×Unit)))(x:(Int×(List (List Int))))(c:St→Option (Ex×St)),den fF fU (aR iO 0) (xA dV BR awX aX bq bY dG fA IW x) (bR kV.kp kV.kx c)=(ig bq bY dG fA IW x).run (bS (xA dV BR awX aX bq bY dG fA IW) (wI dV BR awX aX bq bY dG fA IW) c):=fun _ _ _ _ _ _ _ _ _ _ _=>by
 kernel_rfl
theorem M7:bP fF fU (aR iO 0) kV:=bV fun _ _ _=>bZ fun _ _=>gL<|gL<|aH fun _=>fu<|bZ fun _ _=>aH fun _=>aH fun _=>bT fun _ _=>zU fun _=>bT fun _ _=>tM<|bT fun _ _=>tM<|fun h _ e23 _ e20 _ e16 e14 e12 e9 e8 e6 e5 e4 e1=>bJ (Jo _ _ _ _ _ _ _ _ _) h (by subst_vars;exact aM rfl rfl ⟨e1,e4,e5,e6,e8,e9,e12,e14,trivial⟩ ⟨e16,e20,e23,trivial⟩)
def VG:FnI:=fnI Tryz.f32 fU
def Ao (_:Bool) (_:Bool) (_:aF) (_:List Int):(Bool×(List Int))→au:=fun r=>⟨(.tcons (.ref (1,0) []) (.tcons (.imm true .bool r.1) .tnil)),[],[⟨false,.il,.own,r.2⟩]⟩
theorem Ul:∀(zp0 zp1:Bool)(p0:aF)(p1:List Int),bL fF VG ⟨[(.imm zp0 aU p0),(.imm zp1 .il p1)],[]⟩=(yN p0 p1).run fun r=>some (Ao zp0 zp1 p0 p1 r):=fun _ _ _ _=>by kernel_rfl
def VF (av:List AV) (rs:List Root):Tre au:=
 aD av fun a0_ av0=>
 aD av0 fun a1_ av1=>
 aN av1<|
 aN rs<|
 bg aU a0_ fun z2 d1=>
 bg .il a1_ fun z4 d3=>
 .mat (kC d1 d3) fun r=>.ret (Ao z2 z4 d1 d3 r)
def EK:Ctr:=dD [] VF
theorem Um:Contract Tryz.prog .none 32 EK:=aB (V:=fF) aV (ak Ur aGw (ak og asy (ak aaO aGx (ak ayY aAE (ak acC aGo (ak lF akw (ak Uo aGg (ak avQ aGf (ak asZ aGe aI))))))))) Tryz.func32 (bD (n:=3) fun k hk=>by
 match k,hk with
 |0,_=>exact bF (id:=3) M7
 |1,_=>exact bF (id:=7) M8
 |2,_=>exact bF (id:=12) KI) fun _ _ _=>aK fun _ _=>aK fun _ _=>bn<|bn<|bZ fun _ _=>bZ fun _ _=>fun h=>by intros;subst_vars;exact bB (Ul _ _ _ _) h
def jA (dJ:List Int) (dU:Int) (eH:Int) (eY:aF):(Int×(List Int))→Tre ((Int×(List Int)) ⊕ (List Int)):=fun s8=>
 .cond (decide (s8.1≤dU))
  (.ite (0≤eH∧eH<(dJ.length:Int))<|
  .mat (dJ[eH.toNat]?) fun x2=>
  .mat (mE eY.1 x2 s8.1) fun r3=>
  .ite ((s8.2.length+1)*8≤bI∧1≤8)<|
  .ret (.inl (aJ .i64 (s8.1+1),s8.2++([r3]))))
  (.ret (.inr s8.2))
def iT (ng:Int) (je:Int) (j5:aF):(Int×(List Int))→Tre ((Int×(List Int)) ⊕ (List Int)):=fun s12=>
 let v5:=aJ .i64 (ng+j5.2.2.1)
 .cond (decide (s12.1<v5))
  (.ite (0≤je∧je<(j5.2.1.length:Int))<|
  .mat (j5.2.1[je.toNat]?) fun x6=>
  .mat (mE j5.1 x6 s12.1) fun r7=>
  .ite ((s12.2.length+1)*8≤bI∧1≤8)<|
  .ret (.inl (aJ .i64 (s12.1+1),s12.2++([r7]))))
  (.ret (.inr s12.2))
def jy (bU:List Int) (cZ:Int) (IX:aF):(Int×(List (List Int)))→Tre ((Int×(List (List Int))) ⊕ (List (List Int))):=fun s4=>
 .cond (decide (s4.1<(bU.length:Int)))
  (.mat (aL (jA bU cZ s4.1 IX) (0,[])) fun l4=>
  .mat (aL (iT cZ s4.1 IX) (0,l4)) fun l8=>
  .ite ((s4.2.length+1)*24≤bI∧1≤24)<|
  .ret (.inl (aJ .i64 (s4.1+1),s4.2++([l8]))))
  (.ret (.inr s4.2))
def Dz (p0:List Int) (p1:aF):Tre ((Int×Bool×(List Int)) ⊕ ((List Int)×Int×Bool)):=
 let v1:=xR (p1.2.1.length:Int) p1.2.2.1
 .mat (aL (jy p0 v1 p1) (0,[])) fun l9=>
 let v10:=aJ .i64 ((aJ .i64 (2*v1))+1)
 let v11:=aJ .i64 (v10+p1.2.2.1)
 .mat (zQ p1.1 v11 l9) fun r12=>
 .cond (!r12.1)
  (.ret (.inl (0,false,[])))
  (.ite (0≤aJ .i64 (v1+1)∧aJ .i64 (v1+1)≤(r12.2.length:Int)∧(r12.2.length:Int)≤(r12.2.length:Int))<|
  .ite (0≤(0:Int)∧(0:Int)≤aJ .i64 (v1+1)∧aJ .i64 (v1+1)≤(r12.2.length:Int))<|
  .mat (rT p1.1 ((r12.2.drop ((aJ .i64 (v1+1)).toNat)).take (((r12.2.length:Int)-(aJ .i64 (v1+1))).toNat)) ((r12.2.drop 0).take (((aJ .i64 (v1+1))-0).toNat)) p1.2.2.1) fun r13=>
  .cond (!r13.2)
   (.ret (.inl (0,false,[])))
   (.mat (wC p1 r13.1) fun r14=>
   .mat (Im p1.1 r14 p0) fun r15=>
   .cond (decide (r15>v1))
    (.ret (.inl (0,false,[])))
    (.ret (.inr (r13.1,r15,true)))))
def mZ (p0:List Int) (p1:aF):Option ((Int×Bool×(List Int)) ⊕ ((List Int)×Int×Bool)):=(Dz p0 p1).run some
-- more
theorem awQ{P:List Nat}{k:Nat}(hk:k≤P.length)(hn:P.length≤1000):xR ((aW P).length:Int) (k:Int)=(((P.length-k)/2:Nat):Int):=by
 unfold xR
 rw [aY,show aJ .i64 ((P.length:Int)-(k:Int))=((P.length-k:Nat):Int) by rw [dS (by omega) (by omega)];omega]
 rw [show Int.tdiv ((P.length-k:Nat):Int) 2=(((P.length-k)/2:Nat):Int) from (Int.ofNat_tdiv (P.length-k) 2).symm]
 exact Dj (by omega)
theorem azB{f:TF3}(hf:aO f=true){P W:List Nat}{k t:Nat}(hP:inL (FOf f hf) P)(hW:inL (FOf f hf) W)(hl:W.length=P.length)(hn:P.length≤1000)(hk:k≤1000)(ht:t≤1000) :
  aL (jy (aW W) (t:Int) (f,aW P,(k:Int),())) (0,[])=some (Pf hf t k P W):=by
 have hrl:=Yr hf (t:=t) (k:=k) hl
 refine cO (fun i=>((i:Int),(Pf hf t k P W).take i)) P.length _ (fun i hi=>?_) ?_
 ·have hwi:=fI (show i<W.length by omega)
  have hpi:=fI hi
  have htk:aJ .i64 ((t:Int)+(k:Int))=((t+k:Nat):Int):=by rw [dS (by omega) (by omega)];omega
  have h1:aL (jA (aW W) (t:Int) (i:Int) (f,aW P,(k:Int),())) (0,[])=some (aW ((FOf f hf).zW (t+1) (cf W i))):=by
   refine cO (fun j=>((j:Int),aW ((FOf f hf).zW j (cf W i)))) (t+1) _ (fun j hj=>?_) ?_
   ·unfold jA
    dsimp only
    rw [Tre.aA,decide_eq_true (by omega),cond_true,dM (dX hwi),ah (am9 hf (pW hW i) j),Tre.run_ite,if_pos (by rw [aY,FO.BP];unfold bI;omega),Tre.aG,aQ (by omega),Yw,mU]
    rfl
   ·unfold jA
    dsimp only
    rw [Tre.aA,decide_eq_false (by omega),cond_false,Tre.aG]
  have h2:aL (iT (t:Int) (i:Int) (f,aW P,(k:Int),())) (0,aW ((FOf f hf).zW (t+1) (cf W i)))=some (aW (at0 hf t k (cf P i) (cf W i))):=by
   have h0:aW ((FOf f hf).zW (t+1) (cf W i))=aW ((FOf f hf).zW (t+1) (cf W i)++(FOf f hf).zW 0 (cf P i)):=by
    rw [show (FOf f hf).zW 0 (cf P i)=[] from rfl,List.append_nil]
   rw [h0]
   refine cO (fun j=>((j:Int),aW ((FOf f hf).zW (t+1) (cf W i)++(FOf f hf).zW j (cf P i)))) (t+k) _ (fun j hj=>?_) ?_
   ·unfold iT
    dsimp only
    rw [htk,Tre.aA,decide_eq_true (by omega),cond_true,dM (dX hpi),ah (am9 hf (pW hP i) j),Tre.run_ite,if_pos (by rw [aY,List.length_append,FO.BP,FO.BP];unfold bI;omega),Tre.aG,aQ (by omega),Yw _ j,←List.append_assoc,mU (_++_) [_]]
    rfl
   ·unfold iT
    dsimp only
    rw [htk,dB,Tre.aG]
    rfl
  unfold jy
  dsimp only
  rw [Tre.aA,decide_eq_true (by rw [aY];omega),cond_true,ah h1,ah h2,Tre.run_ite,if_pos (by rw [List.length_take];unfold bI;omega),Tre.aG,aQ (by omega),List.take_add_one,apu hf hl hi]
  rfl
 ·unfold jy
  dsimp only
  rw [aY,hl,dB,Tre.aG,List.take_of_length_le (by omega)]
theorem auS{f:TF3}(hf:aO f=true){V N:List Nat}{k:Nat}(hVi:inL (FOf f hf) V)(hNi:inL (FOf f hf) N)(hVl:V.length≤12)(hNl:N.length≤12)(hk:k≤1000) :
  (dh V=[]∧rT f (aW N) (aW V) (k:Int)=some ([],false))∨(dh V≠[]∧∃A R,T9 (FOf f hf) (dh N) (dh V) A R∧R.length<(dh V).length ∧
   rT f (aW N) (aW V) (k:Int)=some (if R=[]∧A.length≤k then (aW (sQ k A),true) else ([],false))):=by
 have hvt:=lC V
 have hnt:=lC N
 unfold rT NM
 rw [ah (apE (by omega)),ah (apE (by omega))]
 by_cases hv0:dh V=[]
 ·refine .inl ⟨hv0,?_⟩
  rw [hv0,ah (azD hf (uO hNi) (vo N) (by omega)),Tre.aA,decide_eq_false (by decide),Bool.not_false,cond_true,Tre.aG]
 ·obtain ⟨A,R,h1,h2,h3,h4⟩:=aBQ hf (uO hNi) (uO hVi) hv0 (vo V) (vo N) (by omega) (by omega)
  refine .inr ⟨hv0,A,R,h2,h3,?_⟩
  rw [ah h1,Tre.aA,decide_eq_true rfl,Bool.not_true,cond_false,Tre.aA]
  by_cases hR:R=[]
  ·rw [decide_eq_false (by rw [hR];show ¬((0:Nat):Int)>0;decide),cond_false,Tre.aA]
   by_cases hA:A.length≤k
   ·rw [decide_eq_false (by rw [aY];omega),cond_false,Tre.run_ite,if_pos ⟨rfl,by omega,rfl,by omega,by omega⟩,Int.toNat_natCast,ah (aBA hA hk),Tre.aG,if_pos ⟨hR,hA⟩]
   ·rw [decide_eq_true (by rw [aY];omega),cond_true,Tre.aG,if_neg fun h=>hA h.2]
  ·have hRp:=List.length_pos_iff.2 hR
   rw [decide_eq_true (by rw [aY];omega),cond_true,Tre.aG,if_neg fun h=>hR h.1]
theorem awL{f:TF3}(hf:aO f=true){P W:List Nat}{k:Nat}(hi:FO.uD P)(hP:inL (FOf f hf) P)(hW:inL (FOf f hf) W)(hl:W.length=P.length)(hn:P.length≤10)(hk:1≤k)(hkn:k≤P.length) :
  (∃m,ail hf P W k ((P.length-k)/2)=some m∧mZ (aW W) (f,aW P,(k:Int),())=some (.inr (aW m,(rkN ((FOf f hf).Hu P W m):Int),true)))∨(ail hf P W k ((P.length-k)/2)=none∧mZ (aW W) (f,aW P,(k:Int),())=some (.inl (0,false,[]))):=by
 have hr:=awQ (P:=P) hkn (by omega)
 generalize ht:(P.length-k)/2=t at hr ⊢
 have h2t:2*t+k≤P.length:=by omega
 have hrows:=azB hf hP hW hl (by omega) (show k≤1000 by omega) (show t≤1000 by omega)
 have hgr:=at1 hf (t:=t) (k:=k) hP hW
 have hrl:=Yr hf (t:=t) (k:=k) hl
 have h9:aJ .i64 (2*(t:Int))=((2*t:Nat):Int):=by rw [dS (by omega) (by omega)];omega
 have h10:aJ .i64 (((2*t:Nat):Int)+1)=((2*t+1:Nat):Int):=aQ (by omega)
 have h11:aJ .i64 (((2*t+1:Nat):Int)+(k:Int))=((2*t+1+k:Nat):Int):=by rw [dS (by omega) (by omega)];omega
 have ht1:aJ .i64 ((t:Int)+1)=((t+1:Nat):Int):=aQ (by omega)
 unfold mZ Dz
 dsimp only
 rw [hr,ah hrows,h9,h10,h11]
 rcases aB0 hf (show 2*t+1+k≤1000 by omega) hgr (by omega) with ⟨hfull,hke⟩|⟨hnf,x,hke,hker⟩
 ·exact .inr ⟨aoQ hfull,by rw [ah hke];rfl⟩
 obtain ⟨V,N,rfl,hV,hN,hVi,hNi,hx,ho⟩:=apc hf hP hW hker
 have hall:∀m,acg hf P W k t m→_:=fun m hm=>axb hf hi hP hW hl (by omega) hk h2t hm hV hN hVi hNi hx ho
 obtain ⟨hp1,hp2⟩:=alp (N:=N) hV
 have hxl:(aW (V++N)).length=2*t+1+k:=by rw [aY,List.length_append];omega
 rw [ah hke]
 dsimp only
 rw [Tre.aA,Bool.not_true,cond_false,ht1,Tre.run_ite,if_pos (by omega),Tre.run_ite,if_pos (by omega),hp1,hp2]
 rcases auS hf (k:=k) hVi hNi (by omega) (by omega) (by omega) with ⟨hv0,hd⟩|⟨hv0,A,R,hd2,hd3,hd⟩
 ·refine .inr ⟨CO fun m hm=>(hall m hm).1 hv0,?_⟩
  rw [ah hd];rfl
 ·rw [ah hd]
  by_cases hc:R=[]∧A.length≤k
  ·rw [if_pos hc]
   obtain ⟨hR,hA⟩:=hc
   have hMi:=ax0 (k:=k) hd2.ia
   have hMl:(sQ k A).length=k:=adE hA
   rw [Tre.aA,Bool.not_true,cond_false,ah (aCb hf hMi (by omega) hP (by omega) _),ah (azz hf hW hl (by omega)),Tre.aA]
   by_cases hrk:rkN ((FOf f hf).Hu P W (sQ k A))≤t
   ·refine .inl ⟨sQ k A,aoR hnf ⟨hMl,hMi,hrk⟩ fun m' hm'=>?_,by rw [decide_eq_false (by omega),cond_false,Tre.aG]⟩
    obtain ⟨he,_⟩:=(hall m' hm').2 A R hd2 hd3
    rw [he,RJ hm'.1]
   ·refine .inr ⟨CO fun m hm=>hrk ?_,by rw [decide_eq_true (by omega),cond_true,Tre.aG]⟩
    obtain ⟨he,_⟩:=(hall m hm).2 A R hd2 hd3
    rw [he,RJ hm.1]
    exact hm.2.2
  ·rw [if_neg hc]
   refine .inr ⟨CO fun m hm=>hc ?_,rfl⟩
   obtain ⟨he,hR⟩:=(hall m hm).2 A R hd2 hd3
   have:=lC m
   have:=hm.1
   exact ⟨hR,by rw [he];omega⟩
def gy:Env:=⟨tau,[(55,aak),(56,xO),(57,ah6),(43,TR),(39,P7),(58,aez)],[]⟩
def jY:Code:=(Tryz.f29.body).getD .skip
def BJ (BU:Bool) (dJ:List Int) (dU:Int) (eH:Int) (eY:aF) (mP:(List (List Int))):(Int×(List Int))→St:=fun x=>bO [(0,(.ptr (0,0) [])),(1,(.imm BU .il dJ)),(7,(.i dU)),(8,(.ref (10,0) [])),(9,(.i eH)),(10,(.ref (12,0) [])),(11,(.i x.1))] [((0,0),some ⟨true,aU,.own,eY⟩),((10,0),some ⟨false,(.sl .il),.own,mP⟩),((12,0),some ⟨false,.il,.own,x.2⟩)]
def zP (BU:Bool) (dJ:List Int) (dU:Int) (eH:Int) (eY:aF) (mP:(List (List Int))):(List Int)→Ex×St:=fun x=>(.exit 2,bO [(0,(.ptr (0,0) [])),(1,(.imm BU .il dJ)),(7,(.i dU)),(8,(.ref (10,0) [])),(9,(.i eH)),(10,(.ref (12,0) []))] [((0,0),some ⟨true,aU,.own,eY⟩),((10,0),some ⟨false,(.sl .il),.own,mP⟩),((12,0),some ⟨false,.il,.own,x⟩)])
def UR (s:St):Tre (Ex×St):=
 dR (0,0) [] (s.tmps 0)<|
 bg .il (s.tmps 1) fun z4 d3=>
 ay true .n (s.tmps 7) fun d6=>
 dF (10,0) [] (s.tmps 8)<|
 ay true .n (s.tmps 9) fun d9=>
 dF (12,0) [] (s.tmps 10)<|
 ay true .n (s.tmps 11) fun d12=>
 aZ true aU (s.roots (0,0)) fun m14 d15=>
 asM .own m14<|
 aZ false (.sl .il) (s.roots (10,0)) fun m17 d18=>
 asM .own m17<|
 aZ false .il (s.roots (12,0)) fun m20 d21=>
 asM .own m20<|
 .mat (aL (jA d3 d6 d9 d15) (d12,d21)) fun x=>.ret (zP z4 d3 d6 d9 d15 d18 x)
def nC:bA:=⟨([0,1,7,8,9,10,11],[(0,0),(10,0),(12,0)]),([0,1,7,8,9,10],[(0,0),(10,0),(12,0)]),UR⟩
def zN (KC:Bool) (qI:List Int) (ng:Int) (je:Int) (j5:aF) (qJ:(List (List Int))):(Int×(List Int))→St:=fun x=>bO [(0,(.ptr (0,0) [])),(1,(.imm KC .il qI)),(7,(.i ng)),(8,(.ref (10,0) [])),(9,(.i je)),(10,(.ref (12,0) [])),(12,(.i x.1))] [((0,0),some ⟨true,aU,.own,j5⟩),((10,0),some ⟨false,(.sl .il),.own,qJ⟩),((12,0),some ⟨false,.il,.own,x.2⟩)]
def xQ (KC:Bool) (qI:List Int) (ng:Int) (je:Int) (j5:aF) (qJ:(List (List Int))):(List Int)→Ex×St:=fun x=>(.exit 4,bO [(0,(.ptr (0,0) [])),(1,(.imm KC .il qI)),(7,(.i ng)),(8,(.ref (10,0) [])),(9,(.i je)),(10,(.ref (12,0) []))] [((0,0),some ⟨true,aU,.own,j5⟩),((10,0),some ⟨false,(.sl .il),.own,qJ⟩),((12,0),some ⟨false,.il,.own,x⟩)])
def R9 (s:St):Tre (Ex×St):=
 dR (0,0) [] (s.tmps 0)<|
 bg .il (s.tmps 1) fun z4 d3=>
 ay true .n (s.tmps 7) fun d6=>
 dF (10,0) [] (s.tmps 8)<|
 ay true .n (s.tmps 9) fun d9=>
 dF (12,0) [] (s.tmps 10)<|
 ay true .n (s.tmps 12) fun d12=>
 aZ true aU (s.roots (0,0)) fun m14 d15=>
 asM .own m14<|
 aZ false (.sl .il) (s.roots (10,0)) fun m17 d18=>
 asM .own m17<|
 aZ false .il (s.roots (12,0)) fun m20 d21=>
 asM .own m20<|
 .mat (aL (iT d6 d9 d15) (d12,d21)) fun x=>.ret (xQ z4 d3 d6 d9 d15 d18 x)
def mg:bA:=⟨([0,1,7,8,9,10,12],[(0,0),(10,0),(12,0)]),([0,1,7,8,9,10],[(0,0),(10,0),(12,0)]),R9⟩
def BI (nG:Bool) (bU:List Int) (cZ:Int) (IX:aF):(Int×(List (List Int)))→St:=fun x=>bO [(0,(.ptr (0,0) [])),(1,(.imm nG .il bU)),(7,(.i cZ)),(8,(.ref (10,0) [])),(9,(.i x.1))] [((0,0),some ⟨true,aU,.own,IX⟩),((10,0),some ⟨false,(.sl .il),.own,x.2⟩)]
def zO (nG:Bool) (bU:List Int) (cZ:Int) (IX:aF):(List (List Int))→Ex×St:=fun x=>(.exit 0,bO [(0,(.ptr (0,0) [])),(1,(.imm nG .il bU)),(7,(.i cZ)),(8,(.ref (10,0) []))] [((0,0),some ⟨true,aU,.own,IX⟩),((10,0),some ⟨false,(.sl .il),.own,x⟩)])
def UQ (s:St):Tre (Ex×St):=
 dR (0,0) [] (s.tmps 0)<|
 bg .il (s.tmps 1) fun z4 d3=>
 ay true .n (s.tmps 7) fun d6=>
 dF (10,0) [] (s.tmps 8)<|
 ay true .n (s.tmps 9) fun d9=>
 aZ true aU (s.roots (0,0)) fun m11 d12=>
 asM .own m11<|
 aZ false (.sl .il) (s.roots (10,0)) fun m14 d15=>
 asM .own m14<|
 .mat (aL (jy d3 d6 d12) (d9,d15)) fun x=>.ret (zO z4 d3 d6 d12 x)
def nA:bA:=⟨([0,1,7,8,9],[(0,0),(10,0)]),([0,1,7,8],[(0,0),(10,0)]),UQ⟩
def iN:List (Nat×bA):=[(8,nC),(12,mg),(4,nA)]
theorem NK:∀(BU:Bool)(dJ:List Int)(dU eH:Int)(eY:aF)(mP:(List (List Int)))(x:(Int×(List Int)))(c:St→Option (Ex×St)),den gy iN (aR jY 1) (BJ BU dJ dU eH eY mP x) (bR nC.kp nC.kx c)=(jA dJ dU eH eY x).run (bS (BJ BU dJ dU eH eY mP) (zP BU dJ dU eH eY mP) c):=fun _ _ _ _ _ _ _ _=>by
 kernel_rfl
theorem Sc:bP gy iN (aR jY 1) nC:=bV fun _ _ _=>gL<|bZ fun _ _=>aH fun _=>fu<|aH fun _=>fu<|aH fun _=>bT fun _ _=>tM<|bT fun _ _=>tM<|bT fun _ _=>tM<|fun h _ e19 _ e16 _ e13 e11 e10 e8 e7 e5 e2 e1=>bJ (NK _ _ _ _ _ _) h (by subst_vars;exact aM rfl rfl ⟨e1,e2,e5,e7,e8,e10,e11,trivial⟩ ⟨e13,e16,e19,trivial⟩)
theorem KO:∀(KC:Bool)(qI:List Int)(ng je:Int)(j5:aF)(qJ:(List (List Int)))(x:(Int×(List Int)))(c:St→Option (Ex×St)),den gy iN (aR jY 2) (zN KC qI ng je j5 qJ x) (bR mg.kp mg.kx c)=(iT ng je j5 x).run (bS (zN KC qI ng je j5 qJ) (xQ KC qI ng je j5 qJ) c):=fun _ _ _ _ _ _ _ _=>by
 kernel_rfl
theorem PL:bP gy iN (aR jY 2) mg:=bV fun _ _ _=>gL<|bZ fun _ _=>aH fun _=>fu<|aH fun _=>fu<|aH fun _=>bT fun _ _=>tM<|bT fun _ _=>tM<|bT fun _ _=>tM<|fun h _ e19 _ e16 _ e13 e11 e10 e8 e7 e5 e2 e1=>bJ (KO _ _ _ _ _ _) h (by subst_vars;exact aM rfl rfl ⟨e1,e2,e5,e7,e8,e10,e11,trivial⟩ ⟨e13,e16,e19,trivial⟩)
theorem NJ:∀(nG:Bool)(bU:List Int)(cZ:Int)(IX:aF)(x:(Int×(List (List Int))))(c:St→Option (Ex×St)),den gy iN (aR jY 0) (BI nG bU cZ IX x) (bR nA.kp nA.kx c)=(jy bU cZ IX x).run (bS (BI nG bU cZ IX) (zO nG bU cZ IX) c):=fun _ _ _ _ _ _=>by
 kernel_rfl
theorem Sb:bP gy iN (aR jY 0) nA:=bV fun _ _ _=>gL<|bZ fun _ _=>aH fun _=>fu<|aH fun _=>bT fun _ _=>tM<|bT fun _ _=>tM<|fun h _ e13 _ e10 e8 e7 e5 e2 e1=>bJ (NJ _ _ _ _) h (by subst_vars;exact aM rfl rfl ⟨e1,e2,e5,e7,e8,trivial⟩ ⟨e10,e13,trivial⟩)
def abX:FnI:=fnI Tryz.f29 iN
def u6 (_:Bool) (_:List Int) (p1:aF):((Int×Bool×(List Int)) ⊕ ((List Int)×Int×Bool))→au
 |.inl r=>⟨(.tcons (.ref (1,0) []) (.tcons (.i r.1) (.tcons (.imm true .bool r.2.1) .tnil))),[⟨true,aU,.own,p1⟩],[⟨false,.il,.own,r.2.2⟩]⟩
 |.inr r=>⟨(.tcons (.imm true .il r.1) (.tcons (.i r.2.1) (.tcons (.imm true .bool r.2.2) .tnil))),[⟨true,aU,.own,p1⟩],[]⟩
theorem Zh:∀(zp0:Bool)(p0:List Int)(p1:aF),bL gy abX ⟨[(.ptr (0,0) []),(.imm zp0 .il p0)],[⟨true,aU,.own,p1⟩]⟩=(Dz p0 p1).run fun r=>some (u6 zp0 p0 p1 r):=fun _ _ _=>by kernel_rfl
def abW (av:List AV) (rs:List Root):Tre au:=
 aD av fun a0_ av0=>
 aD av0 fun a1_ av1=>
 aN av1<|
 aD rs fun r0_ rs0=>
 aN rs0<|
 dR (0,0) [] a0_<|
 bg .il a1_ fun z2 d1=>
 wQ true aU r0_ fun m3 d4=>
 asM .own m3<|
 .mat (mZ d1 d4) fun r=>.alt r (fun a0=>.ret (u6 z2 d1 d4 (.inl a0))) (fun b0=>.ret (u6 z2 d1 d4 (.inr b0)))
def Kg:Ctr:=dD [] abW
theorem Zi:Contract Tryz.prog .none 29 Kg:=aB (V:=gy) aV (ak am0 aGt (ak Bq axe (ak arB aGu (ak agT aGl (ak aeM aGi (ak aoq aGv aI)))))) Tryz.func29 (bD (n:=3) fun k hk=>by
 match k,hk with
 |0,_=>exact bF (id:=4) Sb
 |1,_=>exact bF (id:=8) Sc
 |2,_=>exact bF (id:=12) PL) fun _ _ _=>aK fun _ _=>aK fun _ _=>bn<|aK fun _ _=>bn<|gL<|bZ fun _ _=>tRt fun _ _=>tM<|fun h=>by intros;subst_vars;exact akB (Zh _ _ _) h (by rintro (x|x)<;>rfl)
def jU (dJ:List Int) (eH:aF) (eZ:aT):(Int×aF×(List Int))→Tre ((Int×aF×(List Int)) ⊕ (aF×(List Int))):=fun s8=>
 .cond (decide (s8.1<(eZ.2.1.length:Int)))
  (.ite (0≤s8.1∧s8.1<(eZ.2.1.length:Int))<|
  .mat (eZ.2.1[s8.1.toNat]?) fun x3=>
  .mat (aox eH.2.1 x3) fun r4=>
  .ite ((s8.2.1.2.1.length+1)*8≤bI∧1≤8)<|
  .ite (0≤s8.1∧s8.1<(eZ.2.1.length:Int))<|
  .mat (eZ.2.1[s8.1.toNat]?) fun x5=>
  .mat (aox dJ x5) fun r6=>
  .ite ((s8.2.2.length+1)*8≤bI∧1≤8)<|
  .ret (.inl (aJ .i64 (s8.1+1),(s8.2.1.1,(s8.2.1.2.1++([r4]),s8.2.1.2.2)),s8.2.2++([r6]))))
  (.ret (.inr (s8.2.1,s8.2.2)))
def Ga (p0:aF) (p1:List Int) (p2:aT):Tre ((List Int)×Int):=
 .mat (wo p1 false p0 p2) fun r1=>
 .cond (!decide (r1=0))
  (.ret ([],r1))
  (.mat (Eh p2.1 p2.2.1) fun r2=>
  .mat (aL (jU p1 p0 (p2.1,(r2,()))) (0,(p0.1,([],p0.2.2)),[])) fun l7=>
  .mat (mZ l7.2 l7.1) fun r8=>
  .alt r8
   (fun a9=>
    .cond (!a9.2.1)
     (.ret ([],6))
     (.ret (a9.2.2,0)))
   (fun b10=>
    .cond (!b10.2.2)
     (.ret ([],6))
     (.ret (b10.1,0))))
def tO (p0:aF) (p1:List Int) (p2:aT):Option ((List Int)×Int):=(Ga p0 p1 p2).run some
def tQ:Env:=⟨tau,[(41,PU),(49,Z7),(50,amq),(29,Kg)],[(1000000,[((8,0),[],false)])]⟩
def L9:Code:=(Tryz.f25.body).getD .skip
def Cw (BU:Bool) (NS:Bool) (dJ:List Int) (eH:aF) (eZ:aT):(Int×aF×(List Int))→St:=fun x=>bO [(1,(.imm BU .il dJ)),(3,(.ptr (5,0) [])),(9,(.ptr (11,0) [])),(10,(.ptr (12,0) [])),(11,(.ref (13,0) [])),(12,(.i x.1))] [((5,0),some ⟨true,aU,(.imm NS),eH⟩),((11,0),some ⟨true,bC,.own,eZ⟩),((12,0),some ⟨true,aU,.own,x.2.1⟩),((13,0),some ⟨false,.il,.own,x.2.2⟩)]
def Bo (_:Bool) (_:Bool) (_:List Int) (_:aF) (_:aT):(aF×(List Int))→Ex×St:=fun x=>(.exit 0,bO [(10,(.ptr (12,0) [])),(11,(.ref (13,0) []))] [((12,0),some ⟨true,aU,.own,x.1⟩),((13,0),some ⟨false,.il,.own,x.2⟩)])
def Xe (s:St):Tre (Ex×St):=
 bg .il (s.tmps 1) fun z3 d2=>
 dR (5,0) [] (s.tmps 3)<|
 dR (11,0) [] (s.tmps 9)<|
 dR (12,0) [] (s.tmps 10)<|
 dF (13,0) [] (s.tmps 11)<|
 ay true .n (s.tmps 12) fun d9=>
 aZ true aU (s.roots (5,0)) fun m11 d12=>
 kr m11 fun z13=>
 aZ true bC (s.roots (11,0)) fun m15 d16=>
 asM .own m15<|
 aZ true aU (s.roots (12,0)) fun m18 d19=>
 asM .own m18<|
 aZ false .il (s.roots (13,0)) fun m21 d22=>
 asM .own m21<|
 .mat (aL (jU d2 d12 d16) (d9,d19,d22)) fun x=>.ret (Bo z3 z13 d2 d12 d16 x)
def oF:bA:=⟨([1,3,9,10,11,12],[(5,0),(11,0),(12,0),(13,0)]),([10,11],[(12,0),(13,0)]),Xe⟩
def Bn:List (Nat×bA):=[(8,oF)]
theorem Pk:∀(BU NS:Bool)(dJ:List Int)(eH:aF)(eZ:aT)(x:(Int×aF×(List Int)))(c:St→Option (Ex×St)),den tQ Bn (aR L9 0) (Cw BU NS dJ eH eZ x) (bR oF.kp oF.kx c)=(jU dJ eH eZ x).run (bS (Cw BU NS dJ eH eZ) (Bo BU NS dJ eH eZ) c):=fun _ _ _ _ _ _ _=>by
 kernel_rfl
theorem UH:bP tQ Bn (aR L9 0) oF:=bV fun _ _ _=>bZ fun _ _=>gL<|gL<|gL<|fu<|aH fun _=>bT fun _ _=>zU fun _=>bT fun _ _=>tM<|bT fun _ _=>tM<|bT fun _ _=>tM<|fun h _ e20 _ e17 _ e14 _ e10 e8 e7 e6 e5 e4 e1=>bJ (Pk _ _ _ _ _) h (by subst_vars;exact aM rfl rfl ⟨e1,e4,e5,e6,e7,e8,trivial⟩ ⟨e10,e14,e17,e20,trivial⟩)
def adU:FnI:=fnI Tryz.f25 Bn
def GQ (_:Bool) (_:Bool) (_:Bool) (_:aF) (_:List Int) (_:aT):((List Int)×Int)→au:=fun r=>⟨(.tcons (.imm true .il r.1) (.tcons (.i r.2) .tnil)),[],[]⟩
theorem abv:∀(zp0 zp1 zp2:Bool)(p0:aF)(p1:List Int)(p2:aT),bL tQ adU ⟨[(.imm zp0 aU p0),(.imm zp1 .il p1),(.imm zp2 bC p2)],[]⟩=(Ga p0 p1 p2).run fun r=>some (GQ zp0 zp1 zp2 p0 p1 p2 r):=fun _ _ _ _ _ _=>by kernel_rfl
def adT (av:List AV) (rs:List Root):Tre au:=
 aD av fun a0_ av0=>
 aD av0 fun a1_ av1=>
 aD av1 fun a2_ av2=>
 aN av2<|
 aN rs<|
 bg aU a0_ fun z2 d1=>
 bg .il a1_ fun z4 d3=>
 bg bC a2_ fun z6 d5=>
 .mat (tO d1 d3 d5) fun r=>.ret (GQ z2 z4 z6 d1 d3 d5 r)
def Ma:Ctr:=dD [] adT
theorem abw:Contract Tryz.prog .none 25 Ma:=aB (V:=tQ) aV (ak aeF aGj (ak amA aGp (ak auo aGq (ak Zi aGa aI)))) Tryz.func25 (bD (n:=1) fun k hk=>by
 match k,hk with
 |0,_=>exact bF (id:=8) UH) fun _ _ _=>aK fun _ _=>aK fun _ _=>aK fun _ _=>bn<|bn<|bZ fun _ _=>bZ fun _ _=>bZ fun _ _=>fun h=>by intros;subst_vars;exact bB (abv _ _ _ _ _ _) h
def qP (bU:Int):Int→Tre (Int ⊕ (Bool ⊕ Unit)):=fun s4=>
 .mat (qW s4) fun r1=>
 .mat (qW bU) fun r2=>
 .cond (decide (aJ .i64 (2*r1)≤r2))
  (.mat (abb bU s4) fun r3=>
  .cond (decide (r3=0))
   (.ret (.inr (.inl false)))
   (.ret (.inl (aJ .i64 (s4+1)))))
  (.ret (.inr (.inr ())))
def FY (p0:Int):Tre Bool:=
 .cond (decide (p0<2))
  (.ret false)
  (.cond (decide (p0 ≥ 64))
   (.ret false)
   (.mat (aL (qP p0) 2) fun l4=>
   .alt l4
    (fun a5=>
     .ret a5)
    (fun _=>
     .ret true)))
def tF (p0:Int):Option Bool:=(FY p0).run some
def tH:Env:=⟨tau,[(133,H9),(111,abd)],[]⟩
def Ls:Code:=(Tryz.f136.body).getD .skip
def sN (bU:Int):Int→St:=fun x=>bO [(0,(.i bU)),(3,(.i x))] []
def lU (_:Int):(Bool ⊕ Unit)→Ex×St
 |.inl x=>(.ret,bO [(2,(.imm true .bool x))] [])
 |.inr _=>(.exit 0,bO [(2,.dead)] [])
def ES (s:St):Tre (Ex×St):=
 ay true .n (s.tmps 0) fun d2=>
 ay true .n (s.tmps 3) fun d4=>
 .mat (aL (qP d2) d4) fun x=>.alt x (fun a0=>.ret (lU d2 (.inl a0))) (fun b0=>.ret (lU d2 (.inr b0)))
def kD:bA:=⟨([0,3],[]),([2],[]),ES⟩
def Au:List (Nat×bA):=[(4,kD)]
theorem OA:∀(bU x:Int)(c:St→Option (Ex×St)),den tH Au (aR Ls 0) (sN bU x) (bR kD.kp kD.kx c)=(qP bU x).run (bS (sN bU) (lU bU) c):=fun _ _ _=>by
 kernel_rfl
theorem Uu:bP tH Au (aR Ls 0) kD:=fP fun s e s' h=>by
 generalize hs:restrict kD.kp s=s1 at h
 have h:(ES s1).run some=some (e,s'):=h
 obtain ⟨d2,e1,h_0⟩:=cu h
 obtain ⟨d4,e3,h_1⟩:=cu h_0
 obtain ⟨y,hy,hz⟩:=iE h_1
 refine ⟨_,_,sN d2,lU d2,qP d2,d4,y,?_,hy,?_,OA d2⟩
 ·subst hs;exact aM (T:=[(0,(.i d2)),(3,(.i d4))]) (U:=[]) rfl rfl ⟨e1,e3,trivial⟩ trivial
 ·rcases y with x|x<;>exact Option.some.inj hz
def acO:FnI:=fnI Tryz.f136 Au
def Gv (_:Int):Bool→au:=fun r=>⟨(.imm true .bool r),[],[]⟩
theorem aaT:∀(p0:Int),bL tH acO ⟨[(.i p0)],[]⟩=(FY p0).run fun r=>some (Gv p0 r):=fun _=>by kernel_rfl
def acN (av:List AV) (rs:List Root):Tre au:=
 aD av fun a0_ av0=>
 aN av0<|
 aN rs<|
 ay true .n a0_ fun d1=>
 .mat (tF d1) fun r=>.ret (Gv d1 r)
def Lu:Ctr:=dD [] acN
theorem aaU:Contract Tryz.prog .none 136 Lu:=aB (V:=tH) aV (ak Nk avI (ak aht aAy aI)) Tryz.func136 (bD (n:=1) fun k hk=>by
 match k,hk with
 |0,_=>exact bF (id:=4) Uu) fun _ _ _=>aK fun _ _=>bn<|bn<|aH fun _=>fun h=>by intros;subst_vars;exact bB (aaT _) h
def H6 (p0:(Int×(Int×Unit))):Tre Bool:=
 .cond (inR p0.1 1 5)
  (.mat (tF p0.2.1) fun r1=>
  .cond r1
   (.mat (qW p0.2.1) fun r2=>
   .ret (decide (r2=p0.1)))
   (.ret false))
  (.ret false)
def uM (p0:(Int×(Int×Unit))):Option Bool:=(H6 p0).run some
-- more
theorem SN(f:Int×Int×Unit):uM f=some (aO f):=by
 refine asB ?_ ?_ (by kernel_rfl) f
 ·intro f h
  unfold uM H6
  rw [Tre.aA,h];rfl
 ·intro f h
  unfold uM H6
  rw [Tre.aA]
  have:tF f.2.1=some false:=by
   unfold tF FY
   rw [Tre.aA]
   by_cases h1:f.2.1<2
   ·rw [decide_eq_true h1];rfl
   ·rw [decide_eq_false h1,cond_false,Tre.aA,decide_eq_true (by omega)];rfl
  rw [ah this]
  cases inR f.1 1 5<;>rfl
def VY:Env:=⟨tau,[(92,yS),(136,Lu),(133,H9)],[]⟩
def akT:FnI:=fnI Tryz.f118 []
def OG (_:(Int×(Int×Unit))):Bool→au:=fun r=>⟨(.imm true .bool r),[],[]⟩
theorem aiE:∀(p0:(Int×(Int×Unit))),bL VY akT ⟨[(.imm true aP p0)],[]⟩=(H6 p0).run fun r=>some (OG p0 r):=fun _=>by kernel_rfl
def akS (av:List AV) (rs:List Root):Tre au:=
 aD av fun a0_ av0=>
 aN av0<|
 aN rs<|
 ay true aP a0_ fun d1=>
 .mat (uM d1) fun r=>.ret (OG d1 r)
def VZ:Ctr:=dD [] akS
theorem aiF:Contract Tryz.prog .none 118 VZ:=aB (V:=VY) aV (ak zy aoW (ak aaU aE2 (ak Nk avI aI))) Tryz.func118 bN fun _ _ _=>aK fun _ _=>bn<|bn<|aH fun _=>fun h=>by intros;subst_vars;exact bB (aiE _) h
def yM (p0:Int) (p1:(Int×(Int×Unit))):Tre Bool:=
 .mat (rM p1) fun r1=>
 let v2:=inR p0 0 (aJ .i64 (r1-1))
 .ret (!v2)
def nW (p0:Int) (p1:(Int×(Int×Unit))):Option Bool:=(yM p0 p1).run some
def EA:Env:=⟨tau,[(95,FV),(92,yS)],[]⟩
def Vu:FnI:=fnI Tryz.f94 []
def Ah (_:Int) (p1:(Int×(Int×Unit))):Bool→au:=fun r=>⟨(.imm true .bool r),[⟨true,aP,.own,p1⟩],[]⟩
theorem Ue:∀(p0:Int)(p1:(Int×(Int×Unit))),bL EA Vu ⟨[(.i p0),(.ptr (0,0) [])],[⟨true,aP,.own,p1⟩]⟩=(yM p0 p1).run fun r=>some (Ah p0 p1 r):=fun _ _=>by kernel_rfl
def Vt (av:List AV) (rs:List Root):Tre au:=
 aD av fun a0_ av0=>
 aD av0 fun a1_ av1=>
 aN av1<|
 aD rs fun r0_ rs0=>
 aN rs0<|
 ay true .n a0_ fun d1=>
 dR (0,0) [] a1_<|
 wQ true aP r0_ fun m2 d3=>
 asM .own m2<|
 .mat (nW d1 d3) fun r=>.ret (Ah d1 d3 r)
def EB:Ctr:=dD [] Vt
theorem Uf:Contract Tryz.prog .none 94 EB:=aB (V:=EA) aV (ak Ob aD5 (ak zy aoW aI)) Tryz.func94 bN fun _ _ _=>aK fun _ _=>aK fun _ _=>bn<|aK fun _ _=>bn<|aH fun _=>gL<|tRt fun _ _=>tM<|fun h=>by intros;subst_vars;exact bB (Ue _ _) h
def agc (aS:List Int) (bK:Int) (bM:(Int×(Int×Unit))):Int→Tre (Int ⊕ (Int ⊕ Unit)):=fun s2=>
 .cond (decide (s2<bK))
  (.ite (0≤s2∧s2<(aS.length:Int))<|
  .mat (aS[s2.toNat]?) fun x1=>
  .mat (nW x1 bM) fun r2=>
  .cond r2
   (.ret (.inr (.inl s2)))
   (.ret (.inl (aJ .i64 (s2+1)))))
  (.ret (.inr (.inr ())))
def nm7 (p0:List Int) (p1:(Int×(Int×Unit))):Tre Int:=
 .mat (aL (agc p0 (p0.length:Int) p1) 0) fun l3=>
 .alt l3
  (fun a4=>
   .ret a4)
  (fun _=>
   .ret (-1))
def axS (p0:List Int) (p1:(Int×(Int×Unit))):Option Int:=(nm7 p0 p1).run some
def axT:Env:=⟨tau,[(94,EB)],[]⟩
def aEm:Code:=(Tryz.f99.body).getD .skip
def agd (eF:Bool) (aS:List Int) (bK:Int) (bM:(Int×(Int×Unit))):Int→St:=fun x=>bO [(0,(.imm eF .il aS)),(1,(.fn 94 [(0,0)])),(7,(.i bK)),(8,(.i x))] [((0,0),some ⟨true,aP,.own,bM⟩)]
def RG (_:Bool) (_:List Int) (_:Int) (bM:(Int×(Int×Unit))):(Int ⊕ Unit)→Ex×St
 |.inl x=>(.ret,bO [(4,(.i x))] [((0,0),some ⟨true,aP,.own,bM⟩)])
 |.inr _=>(.exit 0,bO [(4,.dead)] [((0,0),some ⟨true,aP,.own,bM⟩)])
def atP (s:St):Tre (Ex×St):=
 bg .il (s.tmps 0) fun z3 d2=>
 Ua 94 [(0,0)] (s.tmps 1)<|
 ay true .n (s.tmps 7) fun d6=>
 ay true .n (s.tmps 8) fun d8=>
 aZ true aP (s.roots (0,0)) fun m10 d11=>
 asM .own m10<|
 .mat (aL (agc d2 d6 d11) d8) fun x=>.alt x (fun a0=>.ret (RG z3 d2 d6 d11 (.inl a0))) (fun b0=>.ret (RG z3 d2 d6 d11 (.inr b0)))
def WQ:bA:=⟨([0,1,7,8],[(0,0)]),([4],[(0,0)]),atP⟩
def aBq:List (Nat×bA):=[(2,WQ)]
theorem atQ:∀(eF:Bool)(aS:List Int)(bK:Int)(bM:(Int×(Int×Unit)))(x:Int)(c:St→Option (Ex×St)),den axT aBq (aR aEm 0) (agd eF aS bK bM x) (bR WQ.kp WQ.kx c)=(agc aS bK bM x).run (bS (agd eF aS bK bM) (RG eF aS bK bM) c):=fun _ _ _ _ _ _=>by
 kernel_rfl
theorem azg:bP axT aBq (aR aEm 0) WQ:=fP fun s e s' h=>by
 generalize hs:restrict WQ.kp s=s1 at h
 have h:(atP s1).run some=some (e,s'):=h
 obtain ⟨z3,d2,e1,h_0⟩:=fG h
 obtain ⟨e4,h_1⟩:=CJ h_0
 obtain ⟨d6,e5,h_2⟩:=cu h_1
 obtain ⟨d8,e7,h_3⟩:=cu h_2
 obtain ⟨m10,d11,e9,h_4⟩:=gQ h_3
 obtain ⟨rfl,h_5⟩:=uI h_4
 obtain ⟨y,hy,hz⟩:=iE h_5
 refine ⟨_,_,agd z3 d2 d6 d11,RG z3 d2 d6 d11,agc d2 d6 d11,d8,y,?_,hy,?_,atQ z3 d2 d6 d11⟩
 ·subst hs;exact aM (T:=[(0,(.imm z3 .il d2)),(1,(.fn 94 [(0,0)])),(7,(.i d6)),(8,(.i d8))]) (U:=[((0,0),some ⟨true,aP,.own,d11⟩)]) rfl rfl ⟨e1,e4,e5,e7,trivial⟩ ⟨e9,trivial⟩
 ·rcases y with x|x<;>exact Option.some.inj hz
def aHb:FnI:=fnI Tryz.f99 aBq
def axU (_:Bool) (_:List Int) (p1:(Int×(Int×Unit))):Int→au:=fun r=>⟨(.i r),[⟨true,aP,.own,p1⟩],[]⟩
theorem aFu:∀(zp0:Bool)(p0:List Int)(p1:(Int×(Int×Unit))),bL axT aHb ⟨[(.imm zp0 .il p0),(.fn 94 [(0,0)])],[⟨true,aP,.own,p1⟩]⟩=(nm7 p0 p1).run fun r=>some (axU zp0 p0 p1 r):=fun _ _ _=>by kernel_rfl
def aHa (av:List AV) (rs:List Root):Tre au:=
 aD av fun a0_ av0=>
 aD av0 fun a1_ av1=>
 aN av1<|
 aD rs fun r0_ rs0=>
 aN rs0<|
 bg .il a0_ fun z2 d1=>
 Ua 94 [(0,0)] a1_<|
 wQ true aP r0_ fun m3 d4=>
 asM .own m3<|
 .mat (axS d1 d4) fun r=>.ret (axU z2 d1 d4 r)
def aEn:Ctr:=dD [] aHa
theorem aFv:Contract Tryz.prog .none 99 aEn:=aB (V:=axT) aV (ak Uf aGO aI) Tryz.func99 (bD (n:=1) fun k hk=>by
 match k,hk with
 |0,_=>exact bF (id:=2) azg) fun _ _ _=>aK fun _ _=>aK fun _ _=>bn<|aK fun _ _=>bn<|bZ fun _ _=>tFn<|tRt fun _ _=>tM<|fun h=>by intros;subst_vars;exact bB (aFu _ _ _) h
def nm5 (p0:List Int) (p1:(Int×(Int×Unit))):Tre Bool:=
 .mat (axS p0 p1) fun r1=>
 .ret (decide (r1 ≥ 0))
def axN (p0:List Int) (p1:(Int×(Int×Unit))):Option Bool:=(nm5 p0 p1).run some
def aEi:Env:=⟨tau,[(99,aEn)],[]⟩
def aG7:FnI:=fnI Tryz.f93 []
def axO (_:Bool) (_:List Int) (p1:(Int×(Int×Unit))):Bool→au:=fun r=>⟨(.imm true .bool r),[⟨true,aP,.own,p1⟩],[]⟩
theorem aFq:∀(zp0:Bool)(p0:List Int)(p1:(Int×(Int×Unit))),bL aEi aG7 ⟨[(.imm zp0 .il p0),(.fn 94 [(0,0)])],[⟨true,aP,.own,p1⟩]⟩=(nm5 p0 p1).run fun r=>some (axO zp0 p0 p1 r):=fun _ _ _=>by kernel_rfl
def aG6 (av:List AV) (rs:List Root):Tre au:=
 aD av fun a0_ av0=>
 aD av0 fun a1_ av1=>
 aN av1<|
 aD rs fun r0_ rs0=>
 aN rs0<|
 bg .il a0_ fun z2 d1=>
 Ua 94 [(0,0)] a1_<|
 wQ true aP r0_ fun m3 d4=>
 asM .own m3<|
 .mat (axN d1 d4) fun r=>.ret (axO z2 d1 d4 r)
def aEj:Ctr:=dD [] aG6
theorem aFr:Contract Tryz.prog .none 93 aEj:=aB (V:=aEi) aV (ak aFv axg aI) Tryz.func93 bN fun _ _ _=>aK fun _ _=>aK fun _ _=>bn<|aK fun _ _=>bn<|bZ fun _ _=>tFn<|tRt fun _ _=>tM<|fun h=>by intros;subst_vars;exact bB (aFq _ _ _) h
def Vq (p0:(Int×(Int×Unit))) (p1:List Int):Tre Bool:=
 .mat (axN p1 p0) fun r1=>
 .ret (!r1)
def xw (p0:(Int×(Int×Unit))) (p1:List Int):Option Bool:=(Vq p0 p1).run some
-- more
theorem afq{f:TF3}(hf:aO f=true)(x:Int):nW x f=some (!inR x 0 (Zo f)):=by
 have:=nQ hf
 have h1:rM f=some (F7 .i64 1 f.1):=by
  unfold rM MW
  rw [Tre.run_ite,if_pos (by omega)]
  rfl
 unfold nW yM
 rw [ah h1,aCg hf]
 rfl
theorem Vr{f:TF3}(hf:aO f=true)(c:List Int)(hc:c.length<4611686018427387904):xw f c=some (oW f c):=by
 have h1:axS c f=some (nI (fun x=>!inR x 0 (Zo f)) 0 c):=by
  unfold axS nm7
  rw [Tre.jl,vF (xs:=c) (fun i x=>cond (!inR x 0 (Zo f)) (some (.inl (i:Int))) none) (.inr ())]
  ·rw [Option.bind_some,←NZ (p:=fun x=>!inR x 0 (Zo f))]
   generalize Gq _ _ _ _=r
   cases r<;>rfl
  ·intro i x hx
   have hi:i<c.length:=(List.getElem?_eq_some_iff.1 hx).1
   unfold agc
   rw [dW hx,ah (afq hf x),Tre.aA]
   cases inR x 0 (Zo f)
   ·rfl
   ·simp only [Bool.not_true,cond_false,Tre.aG,aQ (show i<4611686018427387904 by omega)]
  ·unfold agc
   exact dB
 have h2:axN c f=some (decide (nI (fun x=>!inR x 0 (Zo f)) 0 c ≥ 0)):=by
  unfold axN nm5
  rw [ah h1]
  rfl
 unfold xw Vq oW
 rw [ah h2,←aA3 (p:=fun x=>inR x 0 (Zo f))]
 rfl
def Zv:Env:=⟨tau,[(93,aEj)],[]⟩
def anH:FnI:=fnI Tryz.f60 []
def SA (_:Bool) (_:(Int×(Int×Unit))) (_:List Int):Bool→au:=fun r=>⟨(.imm true .bool r),[],[]⟩
theorem akM:∀(zp0:Bool)(p0:(Int×(Int×Unit)))(p1:List Int),bL Zv anH ⟨[(.imm true aP p0),(.imm zp0 .il p1)],[]⟩=(Vq p0 p1).run fun r=>some (SA zp0 p0 p1 r):=fun _ _ _=>by kernel_rfl
def anG (av:List AV) (rs:List Root):Tre au:=
 aD av fun a0_ av0=>
 aD av0 fun a1_ av1=>
 aN av1<|
 aN rs<|
 ay true aP a0_ fun d1=>
 bg .il a1_ fun z3 d2=>
 .mat (xw d1 d2) fun r=>.ret (SA z3 d1 d2 r)
def MX:Ctr:=dD [] anG
theorem Vs:Contract Tryz.prog .none 60 MX:=aB (V:=Zv) aV (ak aFr aD4 aI) Tryz.func60 bN fun _ _ _=>aK fun _ _=>aK fun _ _=>bn<|bn<|aH fun _=>bZ fun _ _=>fun h=>by intros;subst_vars;exact bB (akM _ _ _) h
def Jb (p0:(Int×(Int×Unit))) (p1:List Int):Tre Bool:=
 let v1:=inR (p1.length:Int) 1 5
 .cond v1
  (.mat (xw p0 p1) fun r2=>
  .ret r2)
  (.ret false)
def vL (p0:(Int×(Int×Unit))) (p1:List Int):Option Bool:=(Jb p0 p1).run some
def Oe:Env:=⟨tau,[(45,kE),(92,yS),(60,MX)],[]⟩
def afs:FnI:=fnI Tryz.f121 []
def Jc (_:Bool) (_:(Int×(Int×Unit))) (_:List Int):Bool→au:=fun r=>⟨(.imm true .bool r),[],[]⟩
theorem acF:∀(zp0:Bool)(p0:(Int×(Int×Unit)))(p1:List Int),bL Oe afs ⟨[(.imm true aP p0),(.imm zp0 .il p1)],[]⟩=(Jb p0 p1).run fun r=>some (Jc zp0 p0 p1 r):=fun _ _ _=>by kernel_rfl
def afr (av:List AV) (rs:List Root):Tre au:=
 aD av fun a0_ av0=>
 aD av0 fun a1_ av1=>
 aN av1<|
 aN rs<|
 ay true aP a0_ fun d1=>
 bg .il a1_ fun z3 d2=>
 .mat (vL d1 d2) fun r=>.ret (Jc z3 d1 d2 r)
def Og:Ctr:=dD [] afr
theorem acG:Contract Tryz.prog .none 121 Og:=aB (V:=Oe) aV (ak lF akw (ak zy aoW (ak Vs aD0 aI))) Tryz.func121 bN fun _ _ _=>aK fun _ _=>aK fun _ _=>bn<|bn<|aH fun _=>bZ fun _ _=>fun h=>by intros;subst_vars;exact bB (acF _ _ _) h
def qb (p0:List Int) (p1:(Int×(Int×Unit))) (p2:(List (List Int))):Tre Bool:=
 .mat (vL p1 p0) fun r1=>
 .cond (!r1)
  (.ret true)
  (.ite ((0:Int)≤0∧(0:Int)<(p2.length:Int))<|
  .mat (p2[0]?) fun x2=>
  .ret (!decide ((p0.length:Int)=(x2.length:Int))))
def gJ (p0:List Int) (p1:(Int×(Int×Unit))) (p2:(List (List Int))):Option Bool:=(qb p0 p1 p2).run some
def wF:Env:=⟨tau,[(121,Og)],[]⟩
def KH:FnI:=fnI Tryz.f120 []
def tC (_:Bool) (zp1:Bool) (_:List Int) (p1:(Int×(Int×Unit))) (p2:(List (List Int))):Bool→au:=fun r=>⟨(.imm true .bool r),[⟨true,aP,.own,p1⟩,⟨true,(.sl .il),(.imm zp1),p2⟩],[]⟩
theorem Jl:∀(zp0 zp1:Bool)(p0:List Int)(p1:(Int×(Int×Unit)))(p2:(List (List Int))),bL wF KH ⟨[(.imm zp0 .il p0),(.ptr (0,0) []),(.ptr (0,1) [])],[⟨true,aP,.own,p1⟩,⟨true,(.sl .il),(.imm zp1),p2⟩]⟩=(qb p0 p1 p2).run fun r=>some (tC zp0 zp1 p0 p1 p2 r):=fun _ _ _ _ _=>by kernel_rfl
def KG (av:List AV) (rs:List Root):Tre au:=
 aD av fun a0_ av0=>
 aD av0 fun a1_ av1=>
 aD av1 fun a2_ av2=>
 aN av2<|
 aD rs fun r0_ rs0=>
 aD rs0 fun r1_ rs1=>
 aN rs1<|
 bg .il a0_ fun z2 d1=>
 dR (0,0) [] a1_<|
 dR (0,1) [] a2_<|
 wQ true aP r0_ fun m3 d4=>
 asM .own m3<|
 wQ true (.sl .il) r1_ fun m5 d6=>
 kr m5 fun z7=>
 .mat (gJ d1 d4 d6) fun r=>.ret (tC z2 z7 d1 d4 d6 r)
def wG:Ctr:=dD [] KG
theorem Jm:Contract Tryz.prog .none 120 wG:=aB (V:=wF) aV (ak acG aEQ aI) Tryz.func120 bN fun _ _ _=>aK fun _ _=>aK fun _ _=>aK fun _ _=>bn<|aK fun _ _=>aK fun _ _=>bn<|bZ fun _ _=>gL<|gL<|tRt fun _ _=>tM<|tRt fun _ _=>zU fun _=>fun h=>by intros;subst_vars;exact bB (Jl _ _ _ _ _) h
def WK (aS:(List (List Int))) (bK:Int) (bM:(Int×(Int×Unit))) (IV:(List (List Int))):Int→Tre (Int ⊕ (Int ⊕ Unit)):=fun s2=>
 .cond (decide (s2<bK))
  (.ite (0≤s2∧s2<(aS.length:Int))<|
  .mat (aS[s2.toNat]?) fun x1=>
  .mat (gJ x1 bM IV) fun r2=>
  .cond r2
   (.ret (.inr (.inl s2)))
   (.ret (.inl (aJ .i64 (s2+1)))))
  (.ret (.inr (.inr ())))
def nm3 (p0:(List (List Int))) (p1:(Int×(Int×Unit))) (p2:(List (List Int))):Tre Int:=
 .mat (aL (WK p0 (p0.length:Int) p1 p2) 0) fun l3=>
 .alt l3
  (fun a4=>
   .ret a4)
  (fun _=>
   .ret (-1))
def axH (p0:(List (List Int))) (p1:(Int×(Int×Unit))) (p2:(List (List Int))):Option Int:=(nm3 p0 p1 p2).run some
def axI:Env:=⟨tau,[(120,wG)],[]⟩
def aEe:Code:=(Tryz.f122.body).getD .skip
def af7 (eF:Bool) (X7:Bool) (aS:(List (List Int))) (bK:Int) (bM:(Int×(Int×Unit))) (IV:(List (List Int))):Int→St:=fun x=>bO [(0,(.imm eF (.sl .il) aS)),(1,(.fn 120 [(0,0),(0,1)])),(7,(.i bK)),(8,(.i x))] [((0,0),some ⟨true,aP,.own,bM⟩),((0,1),some ⟨true,(.sl .il),(.imm X7),IV⟩)]
def RA (_:Bool) (X7:Bool) (_:(List (List Int))) (_:Int) (bM:(Int×(Int×Unit))) (IV:(List (List Int))):(Int ⊕ Unit)→Ex×St
 |.inl x=>(.ret,bO [(4,(.i x))] [((0,0),some ⟨true,aP,.own,bM⟩),((0,1),some ⟨true,(.sl .il),(.imm X7),IV⟩)])
 |.inr _=>(.exit 0,bO [(4,.dead)] [((0,0),some ⟨true,aP,.own,bM⟩),((0,1),some ⟨true,(.sl .il),(.imm X7),IV⟩)])
def atJ (s:St):Tre (Ex×St):=
 bg (.sl .il) (s.tmps 0) fun z3 d2=>
 Ua 120 [(0,0),(0,1)] (s.tmps 1)<|
 ay true .n (s.tmps 7) fun d6=>
 ay true .n (s.tmps 8) fun d8=>
 aZ true aP (s.roots (0,0)) fun m10 d11=>
 asM .own m10<|
 aZ true (.sl .il) (s.roots (0,1)) fun m13 d14=>
 kr m13 fun z15=>
 .mat (aL (WK d2 d6 d11 d14) d8) fun x=>.alt x (fun a0=>.ret (RA z3 z15 d2 d6 d11 d14 (.inl a0))) (fun b0=>.ret (RA z3 z15 d2 d6 d11 d14 (.inr b0)))
def WL:bA:=⟨([0,1,7,8],[(0,0),(0,1)]),([4],[(0,0),(0,1)]),atJ⟩
def aBn:List (Nat×bA):=[(2,WL)]
theorem atK:∀(eF X7:Bool)(aS:(List (List Int)))(bK:Int)(bM:(Int×(Int×Unit)))(IV:(List (List Int)))(x:Int)(c:St→Option (Ex×St)),den axI aBn (aR aEe 0) (af7 eF X7 aS bK bM IV x) (bR WL.kp WL.kx c)=(WK aS bK bM IV x).run (bS (af7 eF X7 aS bK bM IV) (RA eF X7 aS bK bM IV) c):=fun _ _ _ _ _ _ _ _=>by
 kernel_rfl
theorem azd:bP axI aBn (aR aEe 0) WL:=fP fun s e s' h=>by
 generalize hs:restrict WL.kp s=s1 at h
 have h:(atJ s1).run some=some (e,s'):=h
 obtain ⟨z3,d2,e1,h_0⟩:=fG h
 obtain ⟨e4,h_1⟩:=CJ h_0
 obtain ⟨d6,e5,h_2⟩:=cu h_1
 obtain ⟨d8,e7,h_3⟩:=cu h_2
 obtain ⟨m10,d11,e9,h_4⟩:=gQ h_3
 obtain ⟨rfl,h_5⟩:=uI h_4
 obtain ⟨m13,d14,e12,h_6⟩:=gQ h_5
 obtain ⟨z15,rfl,h_7⟩:=KX h_6
 obtain ⟨y,hy,hz⟩:=iE h_7
 refine ⟨_,_,af7 z3 z15 d2 d6 d11 d14,RA z3 z15 d2 d6 d11 d14,WK d2 d6 d11 d14,d8,y,?_,hy,?_,atK z3 z15 d2 d6 d11 d14⟩
 ·subst hs;exact aM (T:=[(0,(.imm z3 (.sl .il) d2)),(1,(.fn 120 [(0,0),(0,1)])),(7,(.i d6)),(8,(.i d8))]) (U:=[((0,0),some ⟨true,aP,.own,d11⟩),((0,1),some ⟨true,(.sl .il),(.imm z15),d14⟩)]) rfl rfl ⟨e1,e4,e5,e7,trivial⟩ ⟨e9,e12,trivial⟩
 ·rcases y with x|x<;>exact Option.some.inj hz
def aG3:FnI:=fnI Tryz.f122 aBn
def axJ (_:Bool) (zp1:Bool) (_:(List (List Int))) (p1:(Int×(Int×Unit))) (p2:(List (List Int))):Int→au:=fun r=>⟨(.i r),[⟨true,aP,.own,p1⟩,⟨true,(.sl .il),(.imm zp1),p2⟩],[]⟩
theorem aFl:∀(zp0 zp1:Bool)(p0:(List (List Int)))(p1:(Int×(Int×Unit)))(p2:(List (List Int))),bL axI aG3 ⟨[(.imm zp0 (.sl .il) p0),(.fn 120 [(0,0),(0,1)])],[⟨true,aP,.own,p1⟩,⟨true,(.sl .il),(.imm zp1),p2⟩]⟩=(nm3 p0 p1 p2).run fun r=>some (axJ zp0 zp1 p0 p1 p2 r):=fun _ _ _ _ _=>by kernel_rfl
def aG2 (av:List AV) (rs:List Root):Tre au:=
 aD av fun a0_ av0=>
 aD av0 fun a1_ av1=>
 aN av1<|
 aD rs fun r0_ rs0=>
 aD rs0 fun r1_ rs1=>
 aN rs1<|
 bg (.sl .il) a0_ fun z2 d1=>
 Ua 120 [(0,0),(0,1)] a1_<|
 wQ true aP r0_ fun m3 d4=>
 asM .own m3<|
 wQ true (.sl .il) r1_ fun m5 d6=>
 kr m5 fun z7=>
 .mat (axH d1 d4 d6) fun r=>.ret (axJ z2 z7 d1 d4 d6 r)
def aEf:Ctr:=dD [] aG2
theorem aFm:Contract Tryz.prog .none 122 aEf:=aB (V:=axI) aV (ak Jm aEP aI) Tryz.func122 (bD (n:=1) fun k hk=>by
 match k,hk with
 |0,_=>exact bF (id:=2) azd) fun _ _ _=>aK fun _ _=>aK fun _ _=>bn<|aK fun _ _=>aK fun _ _=>bn<|bZ fun _ _=>tFn<|tRt fun _ _=>tM<|tRt fun _ _=>zU fun _=>fun h=>by intros;subst_vars;exact bB (aFl _ _ _ _ _) h
def nm0 (p0:(List (List Int))) (p1:(Int×(Int×Unit))) (p2:(List (List Int))):Tre Bool:=
 .mat (axH p0 p1 p2) fun r1=>
 .ret (decide (r1 ≥ 0))
def axA (p0:(List (List Int))) (p1:(Int×(Int×Unit))) (p2:(List (List Int))):Option Bool:=(nm0 p0 p1 p2).run some
def aD8:Env:=⟨tau,[(122,aEf)],[]⟩
def aGX:FnI:=fnI Tryz.f119 []
def axB (_:Bool) (zp1:Bool) (_:(List (List Int))) (p1:(Int×(Int×Unit))) (p2:(List (List Int))):Bool→au:=fun r=>⟨(.imm true .bool r),[⟨true,aP,.own,p1⟩,⟨true,(.sl .il),(.imm zp1),p2⟩],[]⟩
theorem aFf:∀(zp0 zp1:Bool)(p0:(List (List Int)))(p1:(Int×(Int×Unit)))(p2:(List (List Int))),bL aD8 aGX ⟨[(.imm zp0 (.sl .il) p0),(.fn 120 [(0,0),(0,1)])],[⟨true,aP,.own,p1⟩,⟨true,(.sl .il),(.imm zp1),p2⟩]⟩=(nm0 p0 p1 p2).run fun r=>some (axB zp0 zp1 p0 p1 p2 r):=fun _ _ _ _ _=>by kernel_rfl
def aGW (av:List AV) (rs:List Root):Tre au:=
 aD av fun a0_ av0=>
 aD av0 fun a1_ av1=>
 aN av1<|
 aD rs fun r0_ rs0=>
 aD rs0 fun r1_ rs1=>
 aN rs1<|
 bg (.sl .il) a0_ fun z2 d1=>
 Ua 120 [(0,0),(0,1)] a1_<|
 wQ true aP r0_ fun m3 d4=>
 asM .own m3<|
 wQ true (.sl .il) r1_ fun m5 d6=>
 kr m5 fun z7=>
 .mat (axA d1 d4 d6) fun r=>.ret (axB z2 z7 d1 d4 d6 r)
def aD9:Ctr:=dD [] aGW
theorem aFg:Contract Tryz.prog .none 119 aD9:=aB (V:=aD8) aV (ak aFm aAB aI) Tryz.func119 bN fun _ _ _=>aK fun _ _=>aK fun _ _=>bn<|aK fun _ _=>aK fun _ _=>bn<|bZ fun _ _=>tFn<|tRt fun _ _=>tM<|tRt fun _ _=>zU fun _=>fun h=>by intros;subst_vars;exact bB (aFf _ _ _ _ _) h
def vP (p0:(Int×(Int×Unit))) (p1:(List (List Int))):Tre Int:=
 .mat (uM p0) fun r1=>
 .cond (!r1)
  (.ret 1)
  (.mat (axA p1 p0 p1) fun r2=>
  .cond r2
   (.ret 2)
   (.ret 0))
def jQ (p0:(Int×(Int×Unit))) (p1:(List (List Int))):Option Int:=(vP p0 p1).run some
def Jj:Env:=⟨tau,[(118,VZ),(119,aD9)],[]⟩
def aaS:FnI:=fnI Tryz.f90 []
def EJ (_:Bool) (_:(Int×(Int×Unit))) (_:(List (List Int))):Int→au:=fun r=>⟨(.i r),[],[]⟩
theorem YH:∀(zp0:Bool)(p0:(Int×(Int×Unit)))(p1:(List (List Int))),bL Jj aaS ⟨[(.imm true aP p0),(.imm zp0 (.sl .il) p1)],[]⟩=(vP p0 p1).run fun r=>some (EJ zp0 p0 p1 r):=fun _ _ _=>by kernel_rfl
def aaR (av:List AV) (rs:List Root):Tre au:=
 aD av fun a0_ av0=>
 aD av0 fun a1_ av1=>
 aN av1<|
 aN rs<|
 ay true aP a0_ fun d1=>
 bg (.sl .il) a1_ fun z3 d2=>
 .mat (jQ d1 d2) fun r=>.ret (EJ z3 d1 d2 r)
def Jk:Ctr:=dD [] aaR
theorem YI:Contract Tryz.prog .none 90 Jk:=aB (V:=Jj) aV (ak aiF aEN (ak aFg aEO aI)) Tryz.func90 bN fun _ _ _=>aK fun _ _=>aK fun _ _=>bn<|bn<|aH fun _=>bZ fun _ _=>fun h=>by intros;subst_vars;exact bB (YH _ _ _) h
def Dc (p0:List Int):Tre Bool:=
 .mat (acn p0) fun r1=>
 .ret (decide ((r1.length:Int)=(p0.length:Int)))
def Jw (p0:List Int):Option Bool:=(Dc p0).run some
def aC7 (xs:List Int):Option Bool:=akg (Dr 62 xs) (decide (((NW xs).length:Int)=(xs.length:Int)))
theorem UE(p0:List Int)(y:Bool)(h:aC7 p0=some y):Jw p0=some y:=by
 obtain ⟨hok,rfl⟩:=rW h
 unfold Jw Dc
 rw [ah (show acn p0=some _ from gY hok)]
 rfl
def Jy:Env:=⟨tau,[(64,zx)],[]⟩
def aa4:FnI:=fnI Tryz.f91 []
def EZ (_:Bool) (_:List Int):Bool→au:=fun r=>⟨(.imm true .bool r),[],[]⟩
theorem YO:∀(zp0:Bool)(p0:List Int),bL Jy aa4 ⟨[(.imm zp0 .il p0)],[]⟩=(Dc p0).run fun r=>some (EZ zp0 p0 r):=fun _ _=>by kernel_rfl
def aa3 (av:List AV) (rs:List Root):Tre au:=
 aD av fun a0_ av0=>
 aN av0<|
 aN rs<|
 bg .il a0_ fun z2 d1=>
 .mat (aC7 d1) fun r=>.ret (EZ z2 d1 r)
def Jz:Ctr:=dD [] aa3
theorem YP:Contract Tryz.prog .none 91 Jz:=aB (V:=Jy) aV (ak AU asz aI) Tryz.func91 bN fun _ _ _=>aK fun _ _=>bn<|bn<|bZ fun _ _=>fun h=>by intros;subst_vars;exact nR (YO _ _) (UE _) h
def Da (p0:aF):Tre Bool:=
 .mat (jQ p0.1 ([p0.2.1])) fun r1=>
 .cond (decide (r1=0))
  (.mat (aC7 p0.2.1) fun r2=>
  .cond r2
   (let v3:=inR p0.2.2.1 1 (p0.2.1.length:Int)
   .ret v3)
   (.ret false))
  (.ret false)
def mR (p0:aF):Option Bool:=(Da p0).run some
def Jv:Env:=⟨tau,[(90,Jk),(91,Jz),(45,kE),(92,yS)],[]⟩
def aa2:FnI:=fnI Tryz.f59 []
def EY (_:Bool) (_:aF):Bool→au:=fun r=>⟨(.imm true .bool r),[],[]⟩
theorem YN:∀(zp0:Bool)(p0:aF),bL Jv aa2 ⟨[(.imm zp0 aU p0)],[]⟩=(Da p0).run fun r=>some (EY zp0 p0 r):=fun _ _=>by kernel_rfl
def aa1 (av:List AV) (rs:List Root):Tre au:=
 aD av fun a0_ av0=>
 aN av0<|
 aN rs<|
 bg aU a0_ fun z2 d1=>
 .mat (mR d1) fun r=>.ret (EY z2 d1 r)
def yR:Ctr:=dD [] aa1
theorem Gx:Contract Tryz.prog .none 59 yR:=aB (V:=Jv) aV (ak YI aGM (ak YP aGN (ak lF akw (ak zy aoW aI)))) Tryz.func59 bN fun _ _ _=>aK fun _ _=>bn<|bn<|bZ fun _ _=>fun h=>by intros;subst_vars;exact bB (YN _ _) h
def yP (p0:aF) (p1:List Int):Tre Int:=
 .mat (mR p0) fun r1=>
 .cond (!r1)
  (.ret 1)
  (.cond (!decide ((p1.length:Int)=(p0.2.1.length:Int)))
   (.ret 2)
   (.mat (xw p0.1 p1) fun r2=>
   .cond (!r2)
    (.ret 2)
    (.ret 0)))
def om (p0:aF) (p1:List Int):Option Int:=(yP p0 p1).run some
-- more
theorem av7{f:TF3}(hf:aO f=true)(c:List Int):vL f c=some (inR (c.length:Int) 1 5&&oW f c):=by
 unfold vL Jb
 dsimp only
 rw [Tre.aA]
 cases hi:inR (c.length:Int) 1 5
 ·rfl
 ·have:=gX.1 hi
  rw [cond_true,ah (Vr hf c (by omega)),Tre.aG,Bool.true_and]
theorem aqt{f:TF3}(hf:aO f=true)(c:List Int):jQ f [c]=some (if inR (c.length:Int) 1 5=true∧oW f c=true then 0 else 2):=by
 have h1:gJ c f [c]=some (!(inR (c.length:Int) 1 5&&oW f c)):=by
  unfold gJ qb
  rw [ah (av7 hf c),Tre.aA]
  cases inR (c.length:Int) 1 5&&oW f c
  ·rfl
  ·rw [Bool.not_true,cond_false,Tre.run_ite,if_pos ⟨by omega,by simp⟩,ah (show [c][0]?=some c from rfl),Tre.aG,decide_eq_true rfl]
   rfl
 have h2:axH [c] f [c]=some (if inR (c.length:Int) 1 5=true∧oW f c=true then -1 else 0):=by
  unfold axH nm3
  by_cases hc:inR (c.length:Int) 1 5=true∧oW f c=true
  ·rw [hc.1,hc.2] at h1
   rw [ah (show aL (WK [c] (([c]:List (List Int)).length:Int) f [c]) 0=some (.inr ()) from ?_),if_pos hc]
   ·rfl
   refine cO (fun i=>(i:Int)) 1 _ (fun i hi=>?_) ?_
   ·obtain rfl:i=0:=by omega
    unfold WK
    rw [dW (i:=0) (show [c][0]?=some c from rfl),ah h1]
    rfl
   ·rfl
  ·have h3:(inR (c.length:Int) 1 5&&oW f c)=false:=by
    cases h:(inR (c.length:Int) 1 5&&oW f c)
    ·rfl
    ·rw [Bool.and_eq_true] at h;exact absurd h hc
   rw [h3] at h1
   rw [ah (show aL (WK [c] (([c]:List (List Int)).length:Int) f [c]) 0=some (.inl 0) from ?_),if_neg hc]
   ·rfl
   refine fE ?_
   unfold WK
   have:=dW (i:=0) (xs:=[c]) (x:=c) (show [c][0]?=some c from rfl) (k:=fun x1=>Tre.mat (gJ x1 f [c]) fun r2=>Tre.cond r2 (Tre.ret (Sum.inr (Sum.inl (0:Int)))) (Tre.ret (Sum.inl (aJ .i64 ((0:Int)+1))))) (e:=Tre.ret (Sum.inr (Sum.inr ()))) (c:=some)
   refine Eq.trans this ?_
   rw [ah h1]
   rfl
 have h4:axA [c] f [c]=some (!decide (inR (c.length:Int) 1 5=true∧oW f c=true)):=by
  unfold axA nm0
  rw [ah h2,Tre.aG]
  by_cases hc:inR (c.length:Int) 1 5=true∧oW f c=true
  ·rw [if_pos hc,decide_eq_true hc];rfl
  ·rw [if_neg hc,decide_eq_false hc];rfl
 unfold jQ vP
 rw [ah (SN f),hf,Tre.aA,Bool.not_true,cond_false,ah h4,Tre.aA]
 by_cases hc:inR (c.length:Int) 1 5=true∧oW f c=true
 ·rw [decide_eq_true hc,if_pos hc];rfl
 ·rw [decide_eq_false hc,if_neg hc];rfl
theorem adf(g:TF3×List Int×Int×Unit):mR g=some (Ub g):=by
 unfold mR Da Ub
 cases hf:aO g.1
 ·have:jQ g.1 [g.2.1]=some 1:=by
   unfold jQ vP
   rw [ah (SN g.1),hf]
   rfl
  rw [ah this]
  rfl
 rw [ah (aqt hf g.2.1),Tre.aA,Bool.true_and]
 by_cases hc:inR (g.2.1.length:Int) 1 5=true∧oW g.1 g.2.1=true
 ·have hl:=gX.1 hc.1
  have h5:=(K5 hf).2
  rw [if_pos hc,decide_eq_true rfl,cond_true,ah (show aC7 g.2.1=some _ from gY (asx hf hc.2 (by omega) (by omega))),Tre.aA,hc.1,hc.2,Bool.true_and,Bool.true_and]
  cases decide (((NW g.2.1).length:Int)=(g.2.1.length:Int))
  ·rfl
  ·rfl
 ·have h3:(inR (g.2.1.length:Int) 1 5&&(oW g.1 g.2.1&&(decide (((NW g.2.1).length:Int)=(g.2.1.length:Int))&&inR g.2.2.1 1 (g.2.1.length:Int))))=false:=by
   cases h:inR (g.2.1.length:Int) 1 5
   ·rfl
   ·cases h2:oW g.1 g.2.1
    ·rfl
    ·exact absurd ⟨h,h2⟩ hc
  rw [if_neg hc,decide_eq_false (by decide),cond_false,h3]
  rfl
theorem awf(g:TF3×List Int×Int×Unit)(w:List Int)(hw:w.length≤1048576):om g w=some (Ew g w):=by
 unfold om yP Ew
 rw [ah (adf g),Tre.aA]
 cases hg:Ub g
 ·rfl
 ·have hf:aO g.1=true:=by unfold Ub at hg;simp only [Bool.and_eq_true] at hg;exact hg.1
  rw [Bool.not_true,cond_false,if_pos rfl,Tre.aA]
  by_cases h1:w.length=g.2.1.length
  ·rw [decide_eq_true (by omega),Bool.not_true,cond_false,ah (Vr hf w (by omega)),Tre.aA]
   cases he:oW g.1 w
   ·rw [if_neg (by simp)];rfl
   ·rw [if_pos ⟨h1,rfl⟩];rfl
  ·rw [decide_eq_false (by omega),Bool.not_false,cond_true,if_neg fun h=>h1 h.1];rfl
def EP:Env:=⟨tau,[(59,yR),(60,MX)],[]⟩
def VO:FnI:=fnI Tryz.f31 []
def Ar (_:Bool) (_:Bool) (_:aF) (_:List Int):Int→au:=fun r=>⟨(.i r),[],[]⟩
theorem Us:∀(zp0 zp1:Bool)(p0:aF)(p1:List Int),bL EP VO ⟨[(.imm zp0 aU p0),(.imm zp1 .il p1)],[]⟩=(yP p0 p1).run fun r=>some (Ar zp0 zp1 p0 p1 r):=fun _ _ _ _=>by kernel_rfl
def VN (av:List AV) (rs:List Root):Tre au:=
 aD av fun a0_ av0=>
 aD av0 fun a1_ av1=>
 aN av1<|
 aN rs<|
 bg aU a0_ fun z2 d1=>
 bg .il a1_ fun z4 d3=>
 .mat (om d1 d3) fun r=>.ret (Ar z2 z4 d1 d3 r)
def ER:Ctr:=dD [] VN
theorem Ut:Contract Tryz.prog .none 31 ER:=aB (V:=EP) aV (ak Gx aDZ (ak Vs aD0 aI)) Tryz.func31 bN fun _ _ _=>aK fun _ _=>aK fun _ _=>bn<|bn<|bZ fun _ _=>bZ fun _ _=>fun h=>by intros;subst_vars;exact bB (Us _ _ _ _) h
def sM (p0:aF) (p1:List Int) (p2:aT) (p3:Int):Tre Int:=
 .mat (mR p0) fun r1=>
 .cond (!r1)
  (.ret 1)
  (.mat (Lv p2) fun r2=>
  .cond (!r2)
   (.ret 1)
   (.mat (om p0 p1) fun r3=>
   .cond (!decide (r3=0))
    (.ret r3)
    (.cond (!decide (p2.1=p3))
     (.ret 2)
     (let v4:=aJ .i64 ((p2.2.1.length:Int)+p0.2.2.1)
     .cond (decide ((p0.2.1.length:Int)<v4))
      (.ret 4)
      (.ret 0)))))
def kX (p0:aF) (p1:List Int) (p2:aT) (p3:Int):Option Int:=(sM p0 p1 p2 p3).run some
-- more
theorem ay4(g:TF3×List Int×Int×Unit)(w:List Int)(u:Int×List Int×Unit)(c:Int)(hw:w.length≤1048576)(hu:u.2.1.length≤1048576):kX g w u c=some (ahk g w u c):=by
 unfold kX sM ahk
 rw [ah (adf g),Tre.aA]
 cases hg:Ub g
 ·rfl
 rw [Bool.not_true,cond_false,if_pos rfl,ah (ap5 u hu),Tre.aA]
 cases hs:ajJ u
 ·rfl
 have hl:=asK hg hs
 rw [Int.add_comm] at hl
 rw [Bool.not_true,cond_false,if_pos rfl,ah (awf g w hw),Tre.aA]
 by_cases h1:Ew g w=0
 case neg=>rw [if_neg h1,decide_eq_false h1,Bool.not_false,cond_true,Tre.aG,ayO hg h1]
 rw [if_pos h1,decide_eq_true h1,Bool.not_true,cond_false,Tre.aA]
 by_cases h2:u.1=c
 case neg=>rw [decide_eq_false h2,if_neg h2];rfl
 rw [decide_eq_true h2,if_pos h2,Bool.not_true,cond_false]
 dsimp only
 rw [hl,Tre.aA]
 by_cases h3:(g.2.1.length:Int)<g.2.2.1+(u.2.1.length:Int)
 ·rw [decide_eq_true (by omega),if_pos h3];rfl
 ·rw [decide_eq_false (by omega),if_neg h3];rfl
def zf:Env:=⟨tau,[(59,yR),(74,ahn),(31,ER),(45,kE)],[]⟩
def Oz:FnI:=fnI Tryz.f44 []
def wK (_:Bool) (_:Bool) (_:Bool) (_:aF) (_:List Int) (_:aT) (_:Int):Int→au:=fun r=>⟨(.i r),[],[]⟩
theorem M9:∀(zp0 zp1 zp2:Bool)(p0:aF)(p1:List Int)(p2:aT)(p3:Int),bL zf Oz ⟨[(.imm zp0 aU p0),(.imm zp1 .il p1),(.imm zp2 bC p2),(.i p3)],[]⟩=(sM p0 p1 p2 p3).run fun r=>some (wK zp0 zp1 zp2 p0 p1 p2 p3 r):=fun _ _ _ _ _ _ _=>by kernel_rfl
def Oy (av:List AV) (rs:List Root):Tre au:=
 aD av fun a0_ av0=>
 aD av0 fun a1_ av1=>
 aD av1 fun a2_ av2=>
 aD av2 fun a3_ av3=>
 aN av3<|
 aN rs<|
 bg aU a0_ fun z2 d1=>
 bg .il a1_ fun z4 d3=>
 bg bC a2_ fun z6 d5=>
 ay true .n a3_ fun d7=>
 .mat (kX d1 d3 d5 d7) fun r=>.ret (wK z2 z4 z6 d1 d3 d5 d7 r)
def zi:Ctr:=dD [] Oy
theorem Na:Contract Tryz.prog .none 44 zi:=aB (V:=zf) aV (ak Gx aDZ (ak ap6 aGD (ak Ut aGc (ak lF akw aI)))) Tryz.func44 bN fun _ _ _=>aK fun _ _=>aK fun _ _=>aK fun _ _=>aK fun _ _=>bn<|bn<|bZ fun _ _=>bZ fun _ _=>bZ fun _ _=>aH fun _=>fun h=>by intros;subst_vars;exact bB (M9 _ _ _ _ _ _ _) h
def afN (aS:Int):Int→Tre (Int ⊕ Int):=fun s2=>
 .ite (0≤s2)<|
 let v1:=Rj .i64 (OU .i64 aS s2) 1
 .cond (decide (v1=0))
  (.ret (.inl (aJ .i64 (s2+1))))
  (.ret (.inr s2))
def aAW (p0:Int):Tre Int:=
 .mat (aL (afN p0) 0) fun l2=>
 .ret l2
def acV (p0:Int):Option Int:=(aAW p0).run some
-- more
theorem atc:∀x:Nat,x<32→x≠0→acV (x:Int)=some ((qB x:Nat):Int)
 |0,_,h=>absurd rfl h
 |1,_,_=>by kernel_rfl
 |2,_,_=>by kernel_rfl
 |3,_,_=>by kernel_rfl
 |4,_,_=>by kernel_rfl
 |5,_,_=>by kernel_rfl
 |6,_,_=>by kernel_rfl
 |7,_,_=>by kernel_rfl
 |8,_,_=>by kernel_rfl
 |9,_,_=>by kernel_rfl
 |10,_,_=>by kernel_rfl
 |11,_,_=>by kernel_rfl
 |12,_,_=>by kernel_rfl
 |13,_,_=>by kernel_rfl
 |14,_,_=>by kernel_rfl
 |15,_,_=>by kernel_rfl
 |16,_,_=>by kernel_rfl
 |17,_,_=>by kernel_rfl
 |18,_,_=>by kernel_rfl
 |19,_,_=>by kernel_rfl
 |20,_,_=>by kernel_rfl
 |21,_,_=>by kernel_rfl
 |22,_,_=>by kernel_rfl
 |23,_,_=>by kernel_rfl
 |24,_,_=>by kernel_rfl
 |25,_,_=>by kernel_rfl
 |26,_,_=>by kernel_rfl
 |27,_,_=>by kernel_rfl
 |28,_,_=>by kernel_rfl
 |29,_,_=>by kernel_rfl
 |30,_,_=>by kernel_rfl
 |31,_,_=>by kernel_rfl
 |n+32,h,_=>absurd h (by omega)
def acW:Env:=⟨tau,[],[]⟩
def asQ:Code:=(Tryz.f81.body).getD .skip
def acX (aS:Int):Int→St:=fun x=>bO [(0,(.i aS)),(3,(.i x))] []
def ZB (_:Int):Int→Ex×St:=fun x=>(.exit 0,bO [(3,(.i x))] [])
def asS (s:St):Tre (Ex×St):=
 ay true .n (s.tmps 0) fun d2=>
 ay true .n (s.tmps 3) fun d4=>
 .mat (aL (afN d2) d4) fun x=>.ret (ZB d2 x)
def LH:bA:=⟨([0,3],[]),([3],[]),asS⟩
def akZ:List (Nat×bA):=[(2,LH)]
theorem ak0:∀(aS x:Int)(c:St→Option (Ex×St)),den acW akZ (aR asQ 0) (acX aS x) (bR LH.kp LH.kx c)=(afN aS x).run (bS (acX aS) (ZB aS) c):=fun _ _ _=>by
 kernel_rfl
theorem aqc:bP acW akZ (aR asQ 0) LH:=bV fun _ _ _=>aH fun _=>aH fun _=>fun h e3 e1=>bJ (ak0 _) h (by subst_vars;exact aM rfl rfl ⟨e1,e3,trivial⟩ trivial)
def aAY:FnI:=fnI Tryz.f81 akZ
def ak1 (_:Int):Int→au:=fun r=>⟨(.i r),[],[]⟩
theorem ayR:∀(p0:Int),bL acW aAY ⟨[(.i p0)],[]⟩=(aAW p0).run fun r=>some (ak1 p0 r):=fun _=>by kernel_rfl
def aAX (av:List AV) (rs:List Root):Tre au:=
 aD av fun a0_ av0=>
 aN av0<|
 aN rs<|
 ay true .n a0_ fun d1=>
 .mat (acV d1) fun r=>.ret (ak1 d1 r)
def asR:Ctr:=dD [] aAX
theorem ayS:Contract Tryz.prog .none 81 asR:=aB (V:=acW) aV aI Tryz.func81 (bD (n:=1) fun k hk=>by
 match k,hk with
 |0,_=>exact bF (id:=2) aqc) fun _ _ _=>aK fun _ _=>bn<|bn<|aH fun _=>fun h=>by intros;subst_vars;exact bB (ayR _) h
def Nb (p0:aT):Tre (Int×(List Int)):=
 .mat (acn p0.2.1) fun r1=>
 .ret (p0.1,r1)
def F4 (p0:aT):Option (Int×(List Int)):=(Nb p0).run some
def SK:Env:=⟨tau,[(64,zx)],[]⟩
def aiA:FnI:=fnI Tryz.f82 []
def Lx (_:Bool) (_:aT):(Int×(List Int))→au:=fun r=>⟨(.pair (.i r.1) (.pair (.ref (1,0) []) (.imm true .unit ()))),[],[⟨false,.il,.own,r.2⟩]⟩
theorem afE:∀(zp0:Bool)(p0:aT),bL SK aiA ⟨[(.imm zp0 bC p0)],[]⟩=(Nb p0).run fun r=>some (Lx zp0 p0 r):=fun _ _=>by kernel_rfl
def aiz (av:List AV) (rs:List Root):Tre au:=
 aD av fun a0_ av0=>
 aN av0<|
 aN rs<|
 bg bC a0_ fun z2 d1=>
 .mat (F4 d1) fun r=>.ret (Lx z2 d1 r)
def SL:Ctr:=dD [] aiz
theorem afF:Contract Tryz.prog .none 82 SL:=aB (V:=SK) aV (ak AU asz aI) Tryz.func82 bN fun _ _ _=>aK fun _ _=>bn<|bn<|bZ fun _ _=>fun h=>by intros;subst_vars;exact bB (afE _ _) h
def jR (bq:Int) (fA:List Int):(Int×Int)→Tre ((Int×Int) ⊕ Int):=fun s3=>
 .cond (decide (s3.2<bq))
  (.ite (0≤s3.2∧s3.2<(fA.length:Int))<|
  .mat (fA[s3.2.toNat]?) fun x2=>
  .mat (acV x2) fun r3=>
  .ite (0≤r3)<|
  let v4:=ior .i64 s3.1 (F7 .i64 1 r3)
  .ret (.inl (v4,aJ .i64 (s3.2+1))))
  (.ret (.inr s3.1))
def jq (Hz:Int) (K8:Int) (Ad:List Int):(Int×Int)→Tre ((Int×Int) ⊕ Int):=fun s14=>
 .cond (decide (s14.2<K8))
  (.ite (0≤s14.2∧s14.2<(Ad.length:Int))<|
  .mat (Ad[s14.2.toNat]?) fun x7=>
  .ite (0≤Hz)<|
  let v8:=Rj .i64 (OU .i64 x7 Hz) 1
  .cond (decide (v8=1))
   (.mat (acV x7) fun r9=>
   .ite (0≤r9)<|
   let v10:=ior .i64 s14.1 (F7 .i64 1 r9)
   .ret (.inl (v10,aJ .i64 (s14.2+1))))
   (.ret (.inl (s14.1,aJ .i64 (s14.2+1)))))
  (.ret (.inr s14.1))
def jS (qM:Int) (wR:Int) (QT:List Int):(Int×aT)→Tre ((Int×aT) ⊕ aT):=fun s9=>
 .cond (decide (s9.1<wR))
  (.ite (0≤s9.1)<|
  let v6:=Rj .i64 (OU .i64 qM s9.1) 1
  .cond (decide (v6=1))
   (.ret (.inl (aJ .i64 (s9.1+1),s9.2)))
   (.ite (0≤s9.1)<|
   .mat (aL (jq s9.1 (QT.length:Int) QT) (F7 .i64 1 s9.1,0)) fun l11=>
   .ite ((s9.2.2.1.length+1)*8≤bI∧1≤8)<|
   .ret (.inl (aJ .i64 (s9.1+1),(s9.2.1,(s9.2.2.1++([l11]),s9.2.2.2))))))
  (.ret (.inr s9.2))
def F5 (p0:aT):Tre (Int×(List Int)):=
 .mat (acn p0.2.1) fun r1=>
 .mat (aL (jR (r1.length:Int) r1) (0,0)) fun l5=>
 .mat (aL (jS l5 p0.1 r1) (0,(p0.1,([],())))) fun l12=>
 .mat (F4 l12) fun r13=>
 .ret (r13.1,r13.2)
def tJ (p0:aT):Option (Int×(List Int)):=(F5 p0).run some
-- more
theorem aEr{a p:Nat}(ha:a<32)(hp:p<5):a|||2 ^ p<32:=Nat.or_lt_two_pow (n:=5) ha (Nat.pow_lt_pow_right (by decide) hp)
theorem att{ns:List Nat}(hb:∀r∈ns,r<32∧r≠0):∀(l:List Nat)(a:Nat),a<32→(∀r∈l,r∈ns)→l.foldl (fun a r=>a|||2 ^ qB r) a<32:=by
 intro l
 induction l with
 |nil=>intro a h _;exact h
 |cons x l ih=>
  intro a h hs
  have hx:=hb x (hs x (List.mem_cons_self ..))
  exact ih _ (aEr h (JG hx.1 hx.2).2) fun r hr=>hs r (.tail _ hr)
theorem aBO{ns:List Nat}{c:Nat}(hb:∀r∈ns,r<32∧r≠0):∀(l:List Nat)(a:Nat),a<32→(∀r∈l,r∈ns)→l.foldl (fun v r=>cond (r.testBit c) (v|||2 ^ qB r) v) a<32:=by
 intro l
 induction l with
 |nil=>intro a h _;exact h
 |cons x l ih=>
  intro a h hs
  have hx:=hb x (hs x (List.mem_cons_self ..))
  refine ih _ ?_ fun r hr=>hs r (.tail _ hr)
  show cond (x.testBit c) (a|||2 ^ qB x) a<32
  cases x.testBit c
  ·exact h
  ·exact aEr h (JG hx.1 hx.2).2
theorem ay2{ns:List Nat}{c:Nat}(hc:c<5)(hb:∀r∈ns,r<32∧r≠0)(hl:ns.length≤1000):aL (jq (c:Int) ((up ns).length:Int) (up ns)) (F7 .i64 1 (c:Int),0)=some ((aBN ns c:Nat):Int):=by
 rw [Wm (by omega)]
 refine cO (fun i=>((((ns.take i).foldl (fun v r=>cond (r.testBit c) (v|||2 ^ qB r) v) (2 ^ c):Nat):Int),(i:Int))) ns.length _ (fun i hi=>?_) ?_
 ·have hg:ns[i]?=some ns[i]:=List.getElem?_eq_getElem hi
  have hx:=hb _ (List.getElem_mem hi)
  have hlo:=JG hx.1 hx.2
  have hv:=aBO (c:=c) hb (ns.take i) (2 ^ c) (Nat.pow_lt_pow_right (by decide) hc) fun r hr=>List.mem_of_mem_take hr
  have h2:2 ^ qB ns[i]<32:=Nat.pow_lt_pow_right (a:=2) (n:=5) (by decide) hlo.2
  have hbit:=vC (a:=ns[i]) (j:=c) (by omega) (by omega)
  unfold nO at hbit
  unfold jq
  dsimp only
  rw [dW (X5 hg),Tre.run_ite,if_pos (by omega),hbit,Tre.aA,List.take_add_one,hg,Option.toList_some,List.foldl_append,List.foldl_cons,List.foldl_nil]
  cases ns[i].testBit c
  ·rw [cond_false,cond_false,Tre.aG,aQ (by omega)]
  ·rw [cond_true,cond_true,ah (atc _ hx.1 hx.2),Tre.run_ite,if_pos (by omega),Wm (by omega),axX (by omega) (by omega),Tre.aG,aQ (by omega)]
 ·unfold jq
  dsimp only
  rw [mo,dB,Tre.aG,List.take_length]
  rfl
theorem atb{ns:List Nat}(hb:∀r∈ns,r<32∧r≠0)(hl:ns.length≤1000):aL (jR ((up ns).length:Int) (up ns)) (0,0)=some ((qY ns:Nat):Int):=by
 refine cO (fun i=>((((ns.take i).foldl (fun a r=>a|||2 ^ qB r) 0:Nat):Int),(i:Int))) ns.length _ (fun i hi=>?_) ?_
 ·have hg:ns[i]?=some ns[i]:=List.getElem?_eq_getElem hi
  have hx:=hb _ (List.getElem_mem hi)
  have hlo:=JG hx.1 hx.2
  have hv:=att hb (ns.take i) 0 (by decide) fun r hr=>List.mem_of_mem_take hr
  have h2:2 ^ qB ns[i]<32:=Nat.pow_lt_pow_right (a:=2) (n:=5) (by decide) hlo.2
  unfold jR
  dsimp only
  rw [dW (X5 hg),ah (atc _ hx.1 hx.2),Tre.run_ite,if_pos (by omega),Wm (by omega),axX (by omega) (by omega),Tre.aG,aQ (by omega),List.take_add_one,hg,Option.toList_some,List.foldl_append]
  rfl
 ·unfold jR
  dsimp only
  rw [mo,dB,Tre.aG,List.take_length]
  rfl
theorem aA4{n:Nat}{ns D:List Nat}(h1:1≤n)(h5:n≤5)(he:kK ns ns)(hb:∀r∈ns,r<2 ^ n)(hl:ns.length≤1000)(hD:kK (ai7 (qY ns) ns n) D):tJ ((n:Int),up ns,())=some ((n:Int),up D):=by
 have hp:2 ^ n≤32:=Nat.pow_le_pow_right (n:=2) (by decide) h5
 have hb2:∀r∈ns,r<32∧r≠0:=fun r hr=>by
  obtain ⟨P,c,hR,rfl,_⟩:=he
  obtain ⟨a,ha,rfl⟩:=List.mem_map.1 hr
  exact ⟨Nat.lt_of_lt_of_le (hb _ hr) hp,aBe (hR.1 a ha).2⟩
 have hL:=att hb2 ns 0 (by decide) fun r hr=>hr
 have hro:∀c,c<5→aBN ns c<32:=fun c hc=>aBO hb2 ns (2 ^ c) (Nat.pow_lt_pow_right (by decide) hc) fun r hr=>hr
 have hle:∀i,(ai7 (qY ns) ns i).length≤i:=fun i=>by
  unfold ai7
  have:=List.length_filterMap_le (fun c=>cond ((qY ns).testBit c) none (some (aBN ns c))) (List.range i)
  rw [List.length_range] at this
  exact this
 have hout:∀x∈ai7 (qY ns) ns n,x<2 ^ 62:=fun x hx=>by
  obtain ⟨c,hc,hx⟩:=List.mem_filterMap.1 hx
  cases hq:(qY ns).testBit c
  ·rw [hq,cond_false] at hx
   have:=hro c (by have:=List.mem_range.1 hc;omega)
   rw [←Option.some.inj hx]
   omega
  ·rw [hq,cond_true] at hx;cases hx
 have hn:=hle n
 unfold tJ F5
 dsimp only
 rw [ah (show acn (up ns)=some (up ns) from by
  unfold acn
  rw [gY (Pe (by omega) fun r hr=>by have:=(hb2 r hr).1;omega),apX he])]
 rw [ah (atb hb2 hl)]
 rw [ah (show aL (jS ((qY ns:Nat):Int) (n:Int) (up ns)) (0,((n:Int),[],()))=some ((n:Int),up (ai7 (qY ns) ns n),()) from ?_)]
 ·unfold F4 Nb
  rw [ah (show (Tre.mat (acn (up (ai7 (qY ns) ns n))) fun r1=>Tre.ret ((n:Int),r1)).run some=some ((n:Int),up D) from by
   unfold acn
   rw [ah (gY (Pe (by omega) hout)),Tre.aG,apX hD]),Tre.aG]
 ·refine cO (fun c=>((c:Int),((n:Int),up (ai7 (qY ns) ns c),()))) n _ (fun c hc=>?_) ?_
  ·have hbit:=vC (a:=qY ns) (j:=c) (by have:qY ns<32:=hL;omega) (by omega)
   unfold nO at hbit
   have hlc:=hle c
   have hsn:ai7 (qY ns) ns (c+1)=ai7 (qY ns) ns c++(cond ((qY ns).testBit c) none (some (aBN ns c))).toList:=by
    unfold ai7
    rw [List.range_succ,List.filterMap_append,List.filterMap_cons,List.filterMap_nil]
    cases (qY ns).testBit c<;>rfl
   unfold jS
   dsimp only
   rw [Tre.aA,decide_eq_true (by omega),cond_true,Tre.run_ite,if_pos (by omega),hbit,Tre.aA,hsn]
   cases (qY ns).testBit c
   ·rw [cond_false,cond_false,Tre.run_ite,if_pos (by omega),ah (ay2 (by omega) hb2 hl),Tre.run_ite,if_pos (by rw [mo];unfold bI;omega),Tre.aG,aQ (by omega),Option.toList_some,ayg]
   ·rw [cond_true,cond_true,Tre.aG,aQ (by omega),Option.toList_none,List.append_nil]
  ·unfold jS
   dsimp only
   rw [Tre.aA,decide_eq_false (by omega),cond_false,Tre.aG]
def gW:Env:=⟨tau,[(64,zx),(81,asR),(82,SL)],[]⟩
def kY:Code:=(Tryz.f51.body).getD .skip
def Co (dV:Bool) (bq:Int) (dG:aT) (dI:aT) (fA:List Int):(Int×Int)→St:=fun x=>bO [(1,(.ptr (3,0) [])),(2,(.ptr (4,0) [])),(3,(.ref (5,0) [])),(4,(.i x.1)),(15,(.ref (5,0) [])),(16,(.i bq)),(17,(.i x.2))] [((3,0),some ⟨true,bC,(.imm dV),dG⟩),((4,0),some ⟨true,bC,.own,dI⟩),((5,0),some ⟨false,.il,.own,fA⟩)]
def Ay (dV:Bool) (_:Int) (dG:aT) (dI:aT) (fA:List Int):Int→Ex×St:=fun x=>(.exit 0,bO [(1,(.ptr (3,0) [])),(2,(.ptr (4,0) [])),(3,(.ref (5,0) [])),(4,(.i x))] [((3,0),some ⟨true,bC,(.imm dV),dG⟩),((4,0),some ⟨true,bC,.own,dI⟩),((5,0),some ⟨false,.il,.own,fA⟩)])
def VR (s:St):Tre (Ex×St):=
 dR (3,0) [] (s.tmps 1)<|
 dR (4,0) [] (s.tmps 2)<|
 dF (5,0) [] (s.tmps 3)<|
 ay true .n (s.tmps 4) fun d5=>
 dF (5,0) [] (s.tmps 15)<|
 ay true .n (s.tmps 16) fun d8=>
 ay true .n (s.tmps 17) fun d10=>
 aZ true bC (s.roots (3,0)) fun m12 d13=>
 kr m12 fun z14=>
 aZ true bC (s.roots (4,0)) fun m16 d17=>
 asM .own m16<|
 aZ false .il (s.roots (5,0)) fun m19 d20=>
 asM .own m19<|
 .mat (aL (jR d8 d20) (d5,d10)) fun x=>.ret (Ay z14 d8 d13 d17 d20 x)
def oq:bA:=⟨([1,2,3,4,15,16,17],[(3,0),(4,0),(5,0)]),([1,2,3,4],[(3,0),(4,0),(5,0)]),VR⟩
def Aw (Qs:Int) (Hz:Int) (Qt:Int) (Qu:Int) (K8:Int) (Qv:aT) (Ad:List Int) (Qw:aT):(Int×Int)→St:=fun x=>bO [(2,(.ptr (4,0) [])),(3,(.ref (5,0) [])),(4,(.i Qs)),(7,(.ptr (9,0) [])),(8,(.i Hz)),(9,(.i x.1)),(31,(.i Qt)),(32,(.i Qu)),(42,(.ref (5,0) [])),(43,(.i K8)),(44,(.i x.2))] [((4,0),some ⟨true,bC,.own,Qv⟩),((5,0),some ⟨false,.il,.own,Ad⟩),((9,0),some ⟨true,bC,.own,Qw⟩)]
def zk (Qs:Int) (_:Int) (Qt:Int) (Qu:Int) (_:Int) (Qv:aT) (Ad:List Int) (Qw:aT):Int→Ex×St:=fun x=>(.exit 4,bO [(2,(.ptr (4,0) [])),(3,(.ref (5,0) [])),(4,(.i Qs)),(7,(.ptr (9,0) [])),(9,(.i x)),(31,(.i Qt)),(32,(.i Qu))] [((4,0),some ⟨true,bC,.own,Qv⟩),((5,0),some ⟨false,.il,.own,Ad⟩),((9,0),some ⟨true,bC,.own,Qw⟩)])
def Uv (s:St):Tre (Ex×St):=
 dR (4,0) [] (s.tmps 2)<|
 dF (5,0) [] (s.tmps 3)<|
 ay true .n (s.tmps 4) fun d4=>
 dR (9,0) [] (s.tmps 7)<|
 ay true .n (s.tmps 8) fun d7=>
 ay true .n (s.tmps 9) fun d9=>
 ay true .n (s.tmps 31) fun d11=>
 ay true .n (s.tmps 32) fun d13=>
 dF (5,0) [] (s.tmps 42)<|
 ay true .n (s.tmps 43) fun d16=>
 ay true .n (s.tmps 44) fun d18=>
 aZ true bC (s.roots (4,0)) fun m20 d21=>
 asM .own m20<|
 aZ false .il (s.roots (5,0)) fun m23 d24=>
 asM .own m23<|
 aZ true bC (s.roots (9,0)) fun m26 d27=>
 asM .own m26<|
 .mat (aL (jq d7 d16 d24) (d9,d18)) fun x=>.ret (zk d4 d7 d11 d13 d16 d21 d24 d27 x)
def ni:bA:=⟨([2,3,4,7,8,9,31,32,42,43,44],[(4,0),(5,0),(9,0)]),([2,3,4,7,9,31,32],[(4,0),(5,0),(9,0)]),Uv⟩
def Cq (qM:Int) (wR:Int) (wS:aT) (QT:List Int):(Int×aT)→St:=fun x=>bO [(2,(.ptr (4,0) [])),(3,(.ref (5,0) [])),(4,(.i qM)),(7,(.ptr (9,0) [])),(31,(.i wR)),(32,(.i x.1))] [((4,0),some ⟨true,bC,.own,wS⟩),((5,0),some ⟨false,.il,.own,QT⟩),((9,0),some ⟨true,bC,.own,x.2⟩)]
def Az (_:Int) (_:Int) (wS:aT) (_:List Int):aT→Ex×St:=fun x=>(.exit 2,bO [(2,(.ptr (4,0) [])),(7,(.ptr (9,0) []))] [((4,0),some ⟨true,bC,.own,wS⟩),((9,0),some ⟨true,bC,.own,x⟩)])
def VT (s:St):Tre (Ex×St):=
 dR (4,0) [] (s.tmps 2)<|
 dF (5,0) [] (s.tmps 3)<|
 ay true .n (s.tmps 4) fun d4=>
 dR (9,0) [] (s.tmps 7)<|
 ay true .n (s.tmps 31) fun d7=>
 ay true .n (s.tmps 32) fun d9=>
 aZ true bC (s.roots (4,0)) fun m11 d12=>
 asM .own m11<|
 aZ false .il (s.roots (5,0)) fun m14 d15=>
 asM .own m14<|
 aZ true bC (s.roots (9,0)) fun m17 d18=>
 asM .own m17<|
 .mat (aL (jS d4 d7 d15) (d9,d18)) fun x=>.ret (Az d4 d7 d12 d15 x)
def ou:bA:=⟨([2,3,4,7,31,32],[(4,0),(5,0),(9,0)]),([2,7],[(4,0),(9,0)]),VT⟩
def jh:List (Nat×bA):=[(3,oq),(14,ni),(9,ou)]
theorem OC:∀(dV:Bool)(bq:Int)(dG dI:aT)(fA:List Int)(x:(Int×Int))(c:St→Option (Ex×St)),den gW jh (aR kY 0) (Co dV bq dG dI fA x) (bR oq.kp oq.kx c)=(jR bq fA x).run (bS (Co dV bq dG dI fA) (Ay dV bq dG dI fA) c):=fun _ _ _ _ _ _ _=>by
 kernel_rfl
theorem Uw:bP gW jh (aR kY 0) oq:=bV fun _ _ _=>gL<|gL<|fu<|aH fun _=>fu<|aH fun _=>aH fun _=>bT fun _ _=>zU fun _=>bT fun _ _=>tM<|bT fun _ _=>tM<|fun h _ e18 _ e15 _ e11 e9 e7 e6 e4 e3 e2 e1=>bJ (OC _ _ _ _ _) h (by subst_vars;exact aM rfl rfl ⟨e1,e2,e3,e4,e6,e7,e9,trivial⟩ ⟨e11,e15,e18,trivial⟩)
theorem Nc:∀(Qs Hz Qt Qu K8:Int)(Qv:aT)(Ad:List Int)(Qw:aT)(x:(Int×Int))(c:St→Option (Ex×St)),den gW jh (aR kY 2) (Aw Qs Hz Qt Qu K8 Qv Ad Qw x) (bR ni.kp ni.kx c)=(jq Hz K8 Ad x).run (bS (Aw Qs Hz Qt Qu K8 Qv Ad Qw) (zk Qs Hz Qt Qu K8 Qv Ad Qw) c):=fun _ _ _ _ _ _ _ _ _ _=>by
 kernel_rfl
theorem Q6:bP gW jh (aR kY 2) ni:=bV fun _ _ _=>gL<|fu<|aH fun _=>gL<|aH fun _=>aH fun _=>aH fun _=>aH fun _=>fu<|aH fun _=>aH fun _=>bT fun _ _=>tM<|bT fun _ _=>tM<|bT fun _ _=>tM<|fun h _ e25 _ e22 _ e19 e17 e15 e14 e12 e10 e8 e6 e5 e3 e2 e1=>bJ (Nc _ _ _ _ _ _ _ _) h (by subst_vars;exact aM rfl rfl ⟨e1,e2,e3,e5,e6,e8,e10,e12,e14,e15,e17,trivial⟩ ⟨e19,e22,e25,trivial⟩)
theorem OD:∀(qM wR:Int)(wS:aT)(QT:List Int)(x:(Int×aT))(c:St→Option (Ex×St)),den gW jh (aR kY 1) (Cq qM wR wS QT x) (bR ou.kp ou.kx c)=(jS qM wR QT x).run (bS (Cq qM wR wS QT) (Az qM wR wS QT) c):=fun _ _ _ _ _ _=>by
 kernel_rfl
theorem Ux:bP gW jh (aR kY 1) ou:=bV fun _ _ _=>gL<|fu<|aH fun _=>gL<|aH fun _=>aH fun _=>bT fun _ _=>tM<|bT fun _ _=>tM<|bT fun _ _=>tM<|fun h _ e16 _ e13 _ e10 e8 e6 e5 e3 e2 e1=>bJ (OD _ _ _ _) h (by subst_vars;exact aM rfl rfl ⟨e1,e2,e3,e5,e6,e8,trivial⟩ ⟨e10,e13,e16,trivial⟩)
def acQ:FnI:=fnI Tryz.f51 jh
def Gw (_:Bool) (_:aT):(Int×(List Int))→au:=fun r=>⟨(.pair (.i r.1) (.pair (.ref (1,0) []) (.imm true .unit ()))),[],[⟨false,.il,.own,r.2⟩]⟩
theorem aaV:∀(zp0:Bool)(p0:aT),bL gW acQ ⟨[(.imm zp0 bC p0)],[]⟩=(F5 p0).run fun r=>some (Gw zp0 p0 r):=fun _ _=>by kernel_rfl
def acP (av:List AV) (rs:List Root):Tre au:=
 aD av fun a0_ av0=>
 aN av0<|
 aN rs<|
 bg bC a0_ fun z2 d1=>
 .mat (tJ d1) fun r=>.ret (Gw z2 d1 r)
def LA:Ctr:=dD [] acP
theorem aaW:Contract Tryz.prog .none 51 LA:=aB (V:=gW) aV (ak AU asz (ak ayS aGH (ak afF aGI aI))) Tryz.func51 (bD (n:=3) fun k hk=>by
 match k,hk with
 |0,_=>exact bF (id:=3) Uw
 |1,_=>exact bF (id:=9) Ux
 |2,_=>exact bF (id:=14) Q6) fun _ _ _=>aK fun _ _=>bn<|bn<|bZ fun _ _=>fun h=>by intros;subst_vars;exact bB (aaV _ _) h
-- more
theorem avr(g:TF3×List Int×Int×Unit)(w:List Int):Ew g w≠0∨∃(hf:aO g.1=true) (P W:List Nat) (k:Nat),g=(g.1,aW P,(k:Int),())∧w=aW W∧FO.uD P∧inL (FOf g.1 hf) P∧inL (FOf g.1 hf) W∧W.length=P.length∧P.length≤5∧1≤k∧k≤P.length∧Ew (g.1,aW P,(k:Int),()) (aW W)=0:=by
 by_cases h:Ew g w=0
 ·right
  obtain ⟨h1,h2,h3⟩:=aAR h
  obtain ⟨hf,P,k,hg,hP,hi,hl,hk1,hk2⟩:=akH h1
  obtain ⟨W,hw,hW⟩:=ajQ hf (aff h3)
  refine ⟨hf,P,W,k,hg,hw,hi,hP,hW,?_,hl,hk1,hk2,by rw [←hg,←hw];exact h⟩
  rw [hg,hw] at h2
  simpa only [aY] using h2
 ·exact .inl h
def kP (Vj:List Int) (qL:Int) (MV:aF) (QN:List Int):(Int×(List Int)×(List Int))→Tre ((Int×(List Int)×(List Int)) ⊕ ((List Int)×(List Int))):=fun s6=>
 .cond (decide (s6.1<qL))
  (.ite (0≤s6.1∧s6.1<(QN.length:Int))<|
  .mat (QN[s6.1.toNat]?) fun x3=>
  .mat (aox MV.2.1 x3) fun r4=>
  .ite ((s6.2.1.length+1)*8≤bI∧1≤8)<|
  .mat (aox Vj x3) fun r5=>
  .ite ((s6.2.2.length+1)*8≤bI∧1≤8)<|
  .ret (.inl (aJ .i64 (s6.1+1),s6.2.1++([r4]),s6.2.2++([r5]))))
  (.ret (.inr (s6.2.1,s6.2.2)))
def I6 (p0:aF) (p1:List Int) (p2:aT):Tre (Int×(List Int)):=
 .mat (kX p0 p1 p2 (p0.2.1.length:Int)) fun r1=>
 .cond (!decide (r1=0))
  (.ret (r1,[]))
  (.mat (tJ p2) fun r2=>
  .mat (aL (kP p1 (r2.2.length:Int) p0 r2.2) (0,[],[])) fun l6=>
  .mat (kC (p0.1,(l6.1,p0.2.2)) l6.2) fun r7=>
  .cond (!r7.1)
   (.ret (6,[]))
   (.ret (0,r7.2)))
def pY (p0:aF) (p1:List Int) (p2:aT):Option (Int×(List Int)):=(I6 p0 p1 p2).run some
-- more
theorem aBU{F:FO}{P:List Nat}(hP:inL F P)(d:Nat):∀(l:List Nat)(i:Nat),(∀x∈l,x∈P)→uy d i l<F.q:=by
 intro l
 induction l with
 |nil=>intro i _;exact F.zlt
 |cons x l ih=>
  intro i hs
  unfold uy
  refine F.xlt _ _ ?_ (ih _ fun y hy=>hs y (.tail _ hy))
  cases d.testBit i
  ·exact F.zlt
  ·exact hP x (hs x (List.mem_cons_self ..))
theorem aBT(d:Nat):∀(l:List Nat)(i:Nat),uy d i l=FO.lQ ((List.range l.length).map fun j=>d.testBit (i+j)) l:=by
 intro l
 induction l with
 |nil=>intro i;rfl
 |cons x l ih=>
  intro i
  rw [List.length_cons,List.range_succ_eq_map,List.map_cons,List.map_map]
  unfold uy FO.lQ
  rw [ih (i+1),Nat.add_zero]
  congr 2
  refine List.map_congr_left fun j _=>?_
  show d.testBit (i+1+j)=d.testBit (i+(j+1))
  congr 1
  omega
theorem azI{P D:List Nat}(hP:FO.uD P)(hD:kK D D)(hb:∀d∈D,d<2 ^ P.length):FO.uD (D.map fun d=>uy d 0 P):=by
 intro bs hl h0
 rw [List.length_map] at hl
 rw [FO.am2 (φ:=fun d=>uy d 0 P) (ag5 P 0) (fun a b=>auU a b P 0)] at h0
 have h1:FO.lQ bs D=0:=by
  have hlt:FO.lQ bs D<2 ^ P.length:=by
   have:∀(bs:List Bool)(D:List Nat),(∀d∈D,d<2 ^ P.length)→FO.lQ bs D<2 ^ P.length:=by
    intro bs
    induction bs with
    |nil=>intro D _;exact Nat.two_pow_pos _
    |cons b bs ih=>
     intro D hb
     cases D with
     |nil=>exact Nat.two_pow_pos _
     |cons x D=>
      refine Nat.xor_lt_two_pow ?_ (ih D fun d hd=>hb d (.tail _ hd))
      cases b
      ·exact Nat.two_pow_pos _
      ·exact hb x (List.mem_cons_self ..)
   exact this bs D hb
  refine Ir hlt fun q hq=>?_
  rw [aBT] at h0
  have:=hP _ (by simp) h0 ((FO.lQ bs D).testBit (0+q)) (List.mem_map.2 ⟨q,List.mem_range.2 hq,rfl⟩)
  rwa [Nat.zero_add] at this
 exact ate hD rfl bs hl h1
theorem aj0{F:FO}{P:List Nat}(hF:F.q≤2 ^ 62)(hP:inL F P)(hl:P.length≤64){d:Nat}(hd:d<2 ^ 63):aox (aW P) (d:Int)=some ((uy d 0 P:Nat):Int):=by
 unfold aox
 rw [Dl (by rw [aY];omega),axp,azP (b:=62) hd (by omega) hl fun n hn=>Nat.lt_of_lt_of_le (hP n hn) hF]
theorem arG{f:TF3}(hf:aO f=true){P W D:List Nat}{k:Nat}{c:Int}(hP:inL (FOf f hf) P)(hW:inL (FOf f hf) W)(hl:P.length≤64)(hw:W.length≤64)(hd:∀d∈D,d<2 ^ 63)(hD:D.length≤1000) :
  aL (jU (aW W) (f,aW P,(k:Int),()) (c,up D,())) (0,(f,[],(k:Int),()),[])=some ((f,aW (D.map fun d=>uy d 0 P),(k:Int),()),aW (D.map fun d=>uy d 0 W)):=by
 have hF:(FOf f hf).q≤2 ^ 62:=by rw [aj2];exact Nat.pow_le_pow_right (by decide) (by have:=(K5 hf).2;omega)
 refine cO (fun i=>((i:Int),(f,aW ((D.take i).map fun d=>uy d 0 P),(k:Int),()),aW ((D.take i).map fun d=>uy d 0 W))) D.length _ (fun i hi=>?_) ?_
 ·have hg:D[i]?=some D[i]:=List.getElem?_eq_getElem hi
  have hdi:=hd _ (List.getElem_mem hi)
  unfold jU
  dsimp only
  rw [dW (X5 hg),ah (aj0 hF hP hl hdi),Tre.run_ite,if_pos (by rw [aY,List.length_map,List.length_take];unfold bI;omega),dM (X5 hg),ah (aj0 hF hW hw hdi),Tre.run_ite,if_pos (by rw [aY,List.length_map,List.length_take];unfold bI;omega),Tre.aG,aQ (by omega),List.take_add_one,hg,Option.toList_some,List.map_append,List.map_append,mU,mU]
  rfl
 ·unfold jU
  dsimp only
  rw [mo,dB,Tre.aG,List.take_length]
theorem aqk{f:TF3}(hf:aO f=true){P W D:List Nat}{k:Nat}(hP:inL (FOf f hf) P)(hW:inL (FOf f hf) W)(hl:P.length≤64)(hw:W.length≤64)(hd:∀d∈D,d<2 ^ 63)(hD:D.length≤1000) :
  aL (kP (aW W) ((up D).length:Int) (f,aW P,(k:Int),()) (up D)) (0,[],[])=some (aW (D.map fun d=>uy d 0 P),aW (D.map fun d=>uy d 0 W)):=by
 have hF:(FOf f hf).q≤2 ^ 62:=by rw [aj2];exact Nat.pow_le_pow_right (by decide) (by have:=(K5 hf).2;omega)
 refine cO (fun i=>((i:Int),aW ((D.take i).map fun d=>uy d 0 P),aW ((D.take i).map fun d=>uy d 0 W))) D.length _ (fun i hi=>?_) ?_
 ·have hg:D[i]?=some D[i]:=List.getElem?_eq_getElem hi
  have hdi:=hd _ (List.getElem_mem hi)
  unfold kP
  dsimp only
  rw [dW (X5 hg),ah (aj0 hF hP hl hdi),Tre.run_ite,if_pos (by rw [aY,List.length_map,List.length_take];unfold bI;omega),ah (aj0 hF hW hw hdi),Tre.run_ite,if_pos (by rw [aY,List.length_map,List.length_take];unfold bI;omega),Tre.aG,aQ (by omega),List.take_add_one,hg,Option.toList_some,List.map_append,List.map_append,mU,mU]
  rfl
 ·unfold kP
  dsimp only
  rw [mo,dB,Tre.aG,List.take_length]
theorem asA(g:TF3×List Int×Int×Unit)(w:List Int)(u:Int×List Int×Unit)(hw:w.length≤1048576)(hu:u.2.1.length≤1048576):∃y:Int×List Int,tO g w u=some (y.2,y.1)∧pY g w u=some y∧y.2.length≤10:=by
 unfold tO Ga pY I6
 rw [ah (aBV w false g u hw),ah (ay4 g w u _ hw hu),Tre.aA,Tre.aA,cond_false]
 by_cases h:ahk g w u (g.2.1.length:Int)=0
 case neg=>exact ⟨(ahk g w u (g.2.1.length:Int),[]),by rw [decide_eq_false h];rfl,by rw [decide_eq_false h];rfl,by simp⟩
 obtain ⟨hs,hh,hc,hle⟩:=aAS h
 rcases avr g w with h'|⟨hf,P,W,k,hg,rfl,hi,hP,hW,hl,hn,hk1,hk2,h0⟩
 ·exact absurd hh h'
 obtain ⟨c,ns,rfl,hc1,hc2,hnl,hns,hE⟩:=ax9 hs
 obtain ⟨f,g2⟩:=g
 dsimp only at hf hg hP hW h0 hc hle h ⊢
 simp only [Prod.mk.injEq,true_and] at hg
 subst hg
 dsimp only at hle hc ⊢
 rw [aY] at hc
 obtain rfl:c=P.length:=by omega
 rw [mo,aY] at hle
 obtain ⟨D,hD1,hD2,hD3,hD4,hD5⟩:=aCD hc1 hn hE hns
 have hd63:∀d∈D,d<2 ^ 63:=fun d hd=>Nat.lt_of_lt_of_le (hD4 d hd) (Nat.pow_le_pow_right (by decide) (by omega))
 have hPi:inL (FOf f hf) (D.map fun d=>uy d 0 P):=fun x hx=>by
  obtain ⟨d,_,rfl⟩:=List.mem_map.1 hx
  exact aBU hP d P 0 fun _ h=>h
 have hWi:inL (FOf f hf) (D.map fun d=>uy d 0 W):=fun x hx=>by
  obtain ⟨d,_,rfl⟩:=List.mem_map.1 hx
  exact aBU hW d W 0 fun _ h=>h
 have hpl:(D.map fun d=>uy d 0 P).length=D.length:=List.length_map ..
 have hwl:(D.map fun d=>uy d 0 W).length=(D.map fun d=>uy d 0 P).length:=by rw [List.length_map,List.length_map]
 have hin:=azI hi hD5 hD4
 rw [h,decide_eq_true rfl,Bool.not_true,cond_false,cond_false,ah (aBX hc1 hn hns (by omega) hD2),ah (aA4 hc1 hn hE hns (by omega) hD1)]
 dsimp only
 rw [ah (arG hf hP hW (by omega) (by omega) hd63 (by omega)),ah (aqk hf (k:=k) hP hW (by omega) (by omega) hd63 (by omega))]
 rcases awL hf hin hPi hWi hwl (by omega) hk1 (by omega) with ⟨m,h1,h2⟩|⟨h1,h2⟩
 ·rcases alm hf hin hPi hWi hwl (by omega) hk1 (by omega) with ⟨m',h1',h2'⟩|⟨h1',_⟩
  case inr=>rw [h1] at h1';cases h1'
  rw [h1] at h1'
  obtain rfl:=Option.some.inj h1'
  have hml:=(ayr h1).1
  exact ⟨(0,aW m),by rw [ah h2];rfl,by rw [ah h2'];rfl,by show (aW m).length≤10;rw [aY];omega⟩
 ·rcases alm hf hin hPi hWi hwl (by omega) hk1 (by omega) with ⟨m',h1',h2'⟩|⟨h1',M,h2'⟩
  ·rw [h1] at h1';cases h1'
  exact ⟨(6,[]),by rw [ah h2];rfl,by rw [ah h2'];rfl,by simp⟩
def vI:Env:=⟨tau,[(45,kE),(44,zi),(51,LA),(52,ao5),(32,EK)],[]⟩
def N7:Code:=(Tryz.f26.body).getD .skip
def Ey (aCq:Bool) (awY:Bool) (Vj:List Int) (qL:Int) (MV:aF) (QN:List Int):(Int×(List Int)×(List Int))→St:=fun x=>bO [(1,(.imm aCq .il Vj)),(3,(.ptr (5,0) [])),(9,(.ref (11,0) [])),(10,(.ref (12,0) [])),(29,(.ref (30,0) [])),(30,(.i qL)),(31,(.i x.1))] [((5,0),some ⟨true,aU,(.imm awY),MV⟩),((11,0),some ⟨false,.il,.own,x.2.1⟩),((12,0),some ⟨false,.il,.own,x.2.2⟩),((30,0),some ⟨false,.il,.own,QN⟩)]
def BZ (_:Bool) (awY:Bool) (_:List Int) (_:Int) (MV:aF) (_:List Int):((List Int)×(List Int))→Ex×St:=fun x=>(.exit 0,bO [(3,(.ptr (5,0) [])),(9,(.ref (11,0) [])),(10,(.ref (12,0) []))] [((5,0),some ⟨true,aU,(.imm awY),MV⟩),((11,0),some ⟨false,.il,.own,x.1⟩),((12,0),some ⟨false,.il,.own,x.2⟩)])
def Yz (s:St):Tre (Ex×St):=
 bg .il (s.tmps 1) fun z3 d2=>
 dR (5,0) [] (s.tmps 3)<|
 dF (11,0) [] (s.tmps 9)<|
 dF (12,0) [] (s.tmps 10)<|
 dF (30,0) [] (s.tmps 29)<|
 ay true .n (s.tmps 30) fun d9=>
 ay true .n (s.tmps 31) fun d11=>
 aZ true aU (s.roots (5,0)) fun m13 d14=>
 kr m13 fun z15=>
 aZ false .il (s.roots (11,0)) fun m17 d18=>
 asM .own m17<|
 aZ false .il (s.roots (12,0)) fun m20 d21=>
 asM .own m20<|
 aZ false .il (s.roots (30,0)) fun m23 d24=>
 asM .own m23<|
 .mat (aL (kP d2 d9 d14 d24) (d11,d18,d21)) fun x=>.ret (BZ z3 z15 d2 d9 d14 d24 x)
def o7:bA:=⟨([1,3,9,10,29,30,31],[(5,0),(11,0),(12,0),(30,0)]),([3,9,10],[(5,0),(11,0),(12,0)]),Yz⟩
def CU:List (Nat×bA):=[(6,o7)]
theorem QU:∀(aCq awY:Bool)(Vj:List Int)(qL:Int)(MV:aF)(QN:List Int)(x:(Int×(List Int)×(List Int)))(c:St→Option (Ex×St)),den vI CU (aR N7 0) (Ey aCq awY Vj qL MV QN x) (bR o7.kp o7.kx c)=(kP Vj qL MV QN x).run (bS (Ey aCq awY Vj qL MV QN) (BZ aCq awY Vj qL MV QN) c):=fun _ _ _ _ _ _ _ _=>by
 kernel_rfl
theorem Vm:bP vI CU (aR N7 0) o7:=bV fun _ _ _=>bZ fun _ _=>gL<|fu<|fu<|fu<|aH fun _=>aH fun _=>bT fun _ _=>zU fun _=>bT fun _ _=>tM<|bT fun _ _=>tM<|bT fun _ _=>tM<|fun h _ e22 _ e19 _ e16 _ e12 e10 e8 e7 e6 e5 e4 e1=>bJ (QU _ _ _ _ _ _) h (by subst_vars;exact aM rfl rfl ⟨e1,e4,e5,e6,e7,e8,e10,trivial⟩ ⟨e12,e16,e19,e22,trivial⟩)
def afm:FnI:=fnI Tryz.f26 CU
def I7 (_:Bool) (_:Bool) (_:Bool) (_:aF) (_:List Int) (_:aT):(Int×(List Int))→au:=fun r=>⟨(.tcons (.ref (1,0) []) (.tcons (.i r.1) .tnil)),[],[⟨false,.il,.own,r.2⟩]⟩
theorem acw:∀(zp0 zp1 zp2:Bool)(p0:aF)(p1:List Int)(p2:aT),bL vI afm ⟨[(.imm zp0 aU p0),(.imm zp1 .il p1),(.imm zp2 bC p2)],[]⟩=(I6 p0 p1 p2).run fun r=>some (I7 zp0 zp1 zp2 p0 p1 p2 r):=fun _ _ _ _ _ _=>by kernel_rfl
def afl (av:List AV) (rs:List Root):Tre au:=
 aD av fun a0_ av0=>
 aD av0 fun a1_ av1=>
 aD av1 fun a2_ av2=>
 aN av2<|
 aN rs<|
 bg aU a0_ fun z2 d1=>
 bg .il a1_ fun z4 d3=>
 bg bC a2_ fun z6 d5=>
 .mat (pY d1 d3 d5) fun r=>.ret (I7 z2 z4 z6 d1 d3 d5 r)
def N8:Ctr:=dD [] afl
theorem acy:Contract Tryz.prog .none 26 N8:=aB (V:=vI) aV (ak lF akw (ak Na aGm (ak aaW aGr (ak avX aGs (ak Um aGd aI))))) Tryz.func26 (bD (n:=1) fun k hk=>by
 match k,hk with
 |0,_=>exact bF (id:=6) Vm) fun _ _ _=>aK fun _ _=>aK fun _ _=>aK fun _ _=>bn<|bn<|bZ fun _ _=>bZ fun _ _=>bZ fun _ _=>fun h=>by intros;subst_vars;exact bB (acw _ _ _ _ _ _) h
def sj (bU:List Int) (cZ:List Int):Int→Tre (Int ⊕ (Bool ⊕ Unit)):=fun s4=>
 .cond (decide (s4<(bU.length:Int)))
  (.ite (0≤s4∧s4<(bU.length:Int))<|
  .mat (bU[s4.toNat]?) fun x1=>
  .ite (0≤s4∧s4<(cZ.length:Int))<|
  .mat (cZ[s4.toNat]?) fun x2=>
  .cond (!decide (x1=x2))
   (.ret (.inr (.inl false)))
   (.ret (.inl (aJ .i64 (s4+1)))))
  (.ret (.inr (.inr ())))
def abf (p0:List Int) (p1:List Int):Tre Bool:=
 .cond (!decide ((p0.length:Int)=(p1.length:Int)))
  (.ret false)
  (.mat (aL (sj p0 p1) 0) fun l3=>
  .alt l3
   (fun a4=>
    .ret a4)
   (fun _=>
    .ret true))
def adg (p0:List Int) (p1:List Int):Option Bool:=(abf p0 p1).run some
abbrev eqS(p0 p1:List Int):Option Bool:=eqR p0.length p0 p1
theorem aiU(p0 p1:List Int)(y:Bool)(h:eqR p0.length p0 p1=some y):adg p0 p1=some y:=by
 obtain ⟨hl,rfl,rfl⟩:=aAJ h
 unfold adg abf
 rw [Tre.aA,show (!decide ((p0.length:Int)=(p0.length:Int)))=false from by simp,cond_false,Tre.jl,vF (xs:=p0) (fun _ _=>none) (.inr ())]
 ·have:∀(l:List Int)(i:Nat),Gq (β:=Bool ⊕ Unit) (fun _ _=>none) (.inr ()) i l=.inr ():=by
   intro l
   induction l with
   |nil=>intro i;rfl
   |cons x l ih=>intro i;exact ih _
  rw [this]
  rfl
 ·intro i x hx
  have hi:i<p0.length:=(List.getElem?_eq_some_iff.1 hx).1
  unfold sj
  rw [dW hx,dM hx,Tre.aA]
  simp only [decide_true,Bool.not_true,cond_false,Tre.aG,aQ (show i<4611686018427387904 by omega)]
 ·unfold sj
  exact dB
def Ib:Env:=⟨tau,[],[]⟩
def adh:Code:=(Tryz.f12.body).getD .skip
def Dk (nG:Bool) (X8:Bool) (bU:List Int) (cZ:List Int):Int→St:=fun x=>bO [(0,(.imm nG .il bU)),(1,(.imm X8 .il cZ)),(5,(.i x))] []
def tL (_:Bool) (_:Bool) (_:List Int) (_:List Int):(Bool ⊕ Unit)→Ex×St
 |.inl x=>(.ret,bO [(4,(.imm true .bool x))] [])
 |.inr _=>(.exit 0,bO [(4,.dead)] [])
def Te (s:St):Tre (Ex×St):=
 bg .il (s.tmps 0) fun z3 d2=>
 bg .il (s.tmps 1) fun z6 d5=>
 ay true .n (s.tmps 5) fun d8=>
 .mat (aL (sj d2 d5) d8) fun x=>.alt x (fun a0=>.ret (tL z3 z6 d2 d5 (.inl a0))) (fun b0=>.ret (tL z3 z6 d2 d5 (.inr b0)))
def rO:bA:=⟨([0,1,5],[]),([4],[]),Te⟩
def Rl:List (Nat×bA):=[(4,rO)]
theorem abg:∀(nG X8:Bool)(bU cZ:List Int)(x:Int)(c:St→Option (Ex×St)),den Ib Rl (aR adh 0) (Dk nG X8 bU cZ x) (bR rO.kp rO.kx c)=(sj bU cZ x).run (bS (Dk nG X8 bU cZ) (tL nG X8 bU cZ) c):=fun _ _ _ _ _ _=>by
 kernel_rfl
theorem afU:bP Ib Rl (aR adh 0) rO:=fP fun s e s' h=>by
 generalize hs:restrict rO.kp s=s1 at h
 have h:(Te s1).run some=some (e,s'):=h
 obtain ⟨z3,d2,e1,h_0⟩:=fG h
 obtain ⟨z6,d5,e4,h_1⟩:=fG h_0
 obtain ⟨d8,e7,h_2⟩:=cu h_1
 obtain ⟨y,hy,hz⟩:=iE h_2
 refine ⟨_,_,Dk z3 z6 d2 d5,tL z3 z6 d2 d5,sj d2 d5,d8,y,?_,hy,?_,abg z3 z6 d2 d5⟩
 ·subst hs;exact aM (T:=[(0,(.imm z3 .il d2)),(1,(.imm z6 .il d5)),(5,(.i d8))]) (U:=[]) rfl rfl ⟨e1,e4,e7,trivial⟩ trivial
 ·rcases y with x|x<;>exact Option.some.inj hz
def aqy:FnI:=fnI Tryz.f12 Rl
def Wo (_:Bool) (_:Bool) (_:List Int) (_:List Int):Bool→au:=fun r=>⟨(.imm true .bool r),[],[]⟩
theorem anU:∀(zp0 zp1:Bool)(p0 p1:List Int),bL Ib aqy ⟨[(.imm zp0 .il p0),(.imm zp1 .il p1)],[]⟩=(abf p0 p1).run fun r=>some (Wo zp0 zp1 p0 p1 r):=fun _ _ _ _=>by kernel_rfl
def aqx (av:List AV) (rs:List Root):Tre au:=
 aD av fun a0_ av0=>
 aD av0 fun a1_ av1=>
 aN av1<|
 aN rs<|
 bg .il a0_ fun z2 d1=>
 bg .il a1_ fun z4 d3=>
 .mat (eqS d1 d3) fun r=>.ret (Wo z2 z4 d1 d3 r)
def Ic:Ctr:=dD [] aqx
theorem Ns:Contract Tryz.prog .none 12 Ic:=aB (V:=Ib) aV aI Tryz.func12 (bD (n:=1) fun k hk=>by
 match k,hk with
 |0,_=>exact bF (id:=4) afU) fun _ _ _=>aK fun _ _=>aK fun _ _=>bn<|bn<|bZ fun _ _=>bZ fun _ _=>fun h=>by intros;subst_vars;exact nR (anU _ _ _ _) (aiU _ _) h
def ape (p0:(Int×(Int×Unit))) (p1:(Int×(Int×Unit))):Tre Bool:=
 .cond (!decide (p0.1=p1.1))
  (.ret false)
  (.cond (!decide (p0.2.1=p1.2.1))
   (.ret false)
   (.ret true))
def atl (p0:(Int×(Int×Unit))) (p1:(Int×(Int×Unit))):Option Bool:=(ape p0 p1).run some
def Fg(p0 p1:(Int×(Int×Unit))):Bool:=
 cond (!decide (p0.1=p1.1))
  (false)
  (cond (!decide (p0.2.1=p1.2.1))
   (false)
   (true))
theorem alv(p0 p1:(Int×(Int×Unit))):atl p0 p1=some (Fg p0 p1):=(xL rfl (xL rfl rfl))
def ahx:Env:=⟨tau,[],[]⟩
def atn:FnI:=fnI Tryz.f36 []
def ZL (_:(Int×(Int×Unit))) (_:(Int×(Int×Unit))):Bool→au:=fun r=>⟨(.imm true .bool r),[],[]⟩
theorem aqv:∀(p0 p1:(Int×(Int×Unit))),bL ahx atn ⟨[(.imm true aP p0),(.imm true aP p1)],[]⟩=(ape p0 p1).run fun r=>some (ZL p0 p1 r):=fun _ _=>by kernel_rfl
def atm (av:List AV) (rs:List Root):Tre au:=
 aD av fun a0_ av0=>
 aD av0 fun a1_ av1=>
 aN av1<|
 aN rs<|
 ay true aP a0_ fun d1=>
 ay true aP a1_ fun d2=>
 .ret (ZL d1 d2 (Fg d1 d2))
def ahy:Ctr:=dD [] atm
theorem aqw:Contract Tryz.prog .none 36 ahy:=aB (V:=ahx) aV aI Tryz.func36 bN fun _ _ _=>aK fun _ _=>aK fun _ _=>bn<|bn<|aH fun _=>aH fun _=>fun h=>by intros;subst_vars;exact sW (aqv _ _) (alv _ _) h
def Nr (p0:aF) (p1:aF):Tre Bool:=
 .cond (!(Fg p0.1 p1.1))
  (.ret false)
  (.mat (eqS p0.2.1 p1.2.1) fun r1=>
  .cond (!r1)
   (.ret false)
   (.cond (!decide (p0.2.2.1=p1.2.2.1))
    (.ret false)
    (.ret true)))
def yt (p0:aF) (p1:aF):Option Bool:=(Nr p0 p1).run some
def Tc:Env:=⟨tau,[(36,ahy),(12,Ic)],[]⟩
def aiT:FnI:=fnI Tryz.f13 []
def LU (_:Bool) (_:Bool) (_:aF) (_:aF):Bool→au:=fun r=>⟨(.imm true .bool r),[],[]⟩
theorem afS:∀(zp0 zp1:Bool)(p0 p1:aF),bL Tc aiT ⟨[(.imm zp0 aU p0),(.imm zp1 aU p1)],[]⟩=(Nr p0 p1).run fun r=>some (LU zp0 zp1 p0 p1 r):=fun _ _ _ _=>by kernel_rfl
def aiS (av:List AV) (rs:List Root):Tre au:=
 aD av fun a0_ av0=>
 aD av0 fun a1_ av1=>
 aN av1<|
 aN rs<|
 bg aU a0_ fun z2 d1=>
 bg aU a1_ fun z4 d3=>
 .mat (yt d1 d3) fun r=>.ret (LU z2 z4 d1 d3 r)
def Td:Ctr:=dD [] aiS
theorem afT:Contract Tryz.prog .none 13 Td:=aB (V:=Tc) aV (ak aqw aGh (ak Ns aAA aI)) Tryz.func13 bN fun _ _ _=>aK fun _ _=>aK fun _ _=>bn<|bn<|bZ fun _ _=>bZ fun _ _=>fun h=>by intros;subst_vars;exact bB (afS _ _ _ _) h
def abh (p0:aT) (p1:aT):Tre Bool:=
 .cond (!decide (p0.1=p1.1))
  (.ret false)
  (.mat (eqS p0.2.1 p1.2.1) fun r1=>
  .cond (!r1)
   (.ret false)
   (.ret true))
def Ie (p0:aT) (p1:aT):Option Bool:=(abh p0 p1).run some
def adi:Env:=⟨tau,[(12,Ic)],[]⟩
def aqA:FnI:=fnI Tryz.f23 []
def Wp (_:Bool) (_:Bool) (_:aT) (_:aT):Bool→au:=fun r=>⟨(.imm true .bool r),[],[]⟩
theorem anV:∀(zp0 zp1:Bool)(p0 p1:aT),bL adi aqA ⟨[(.imm zp0 bC p0),(.imm zp1 bC p1)],[]⟩=(abh p0 p1).run fun r=>some (Wp zp0 zp1 p0 p1 r):=fun _ _ _ _=>by kernel_rfl
def aqz (av:List AV) (rs:List Root):Tre au:=
 aD av fun a0_ av0=>
 aD av0 fun a1_ av1=>
 aN av1<|
 aN rs<|
 bg bC a0_ fun z2 d1=>
 bg bC a1_ fun z4 d3=>
 .mat (Ie d1 d3) fun r=>.ret (Wp z2 z4 d1 d3 r)
def adj:Ctr:=dD [] aqz
theorem anW:Contract Tryz.prog .none 23 adj:=aB (V:=adi) aV (ak Ns aAA aI) Tryz.func23 bN fun _ _ _=>aK fun _ _=>aK fun _ _=>bn<|bn<|bZ fun _ _=>bZ fun _ _=>fun h=>by intros;subst_vars;exact bB (anV _ _ _ _) h
def gu:(Int×Int×aF)→Tre ((Int×Int×aF) ⊕ (Int×aF)):=fun s2=>
 .cond (decide (s2.2.1<(s2.2.2.2.1.length:Int)))
  (.ite (0≤s2.2.1∧s2.2.1<(s2.2.2.2.1.length:Int))<|
  .mat (s2.2.2.2.1[s2.2.1.toNat]?) fun _=>
  let v2:=s2.2.2.2.1.set s2.2.1.toNat s2.1
  .ret (.inl (aJ .i64 (s2.1+1),aJ .i64 (s2.2.1+1),(s2.2.2.1,(v2,s2.2.2.2.2)))))
  (.ret (.inr (s2.1,s2.2.2)))
def Bc (p0:Int) (p1:aF):Tre (Int×aF):=
 .mat (aL gu (p0,0,p1)) fun l3=>
 .ret (l3.1,l3.2)
def pK (p0:Int) (p1:aF):Option (Int×aF):=(Bc p0 p1).run some
def pO:Env:=⟨tau,[],[]⟩
def GJ:Code:=(Tryz.f15.body).getD .skip
def zD:(Int×Int×aF)→St:=fun x=>bO [(0,(.ref (0,0) [.snd,.fst])),(1,(.i x.1)),(5,(.i x.2.1))] [((0,0),some ⟨true,aU,.own,x.2.2⟩)]
def xI:(Int×aF)→Ex×St:=fun x=>(.exit 0,bO [(1,(.i x.1))] [((0,0),some ⟨true,aU,.own,x.2⟩)])
def Rt (s:St):Tre (Ex×St):=
 dF (0,0) [.snd,.fst] (s.tmps 0)<|
 ay true .n (s.tmps 1) fun d3=>
 ay true .n (s.tmps 5) fun d5=>
 aZ true aU (s.roots (0,0)) fun m7 d8=>
 asM .own m7<|
 .mat (aL gu (d3,d5,d8)) fun x=>.ret (xI x)
def lZ:bA:=⟨([0,1,5],[(0,0)]),([1],[(0,0)]),Rt⟩
def wX:List (Nat×bA):=[(2,lZ)]
theorem KN:∀(x:(Int×Int×aF))(c:St→Option (Ex×St)),den pO wX (aR GJ 0) (zD x) (bR lZ.kp lZ.kx c)=(gu x).run (bS (zD) (xI) c):=fun _ _=>by
 kernel_rfl
theorem O8:bP pO wX (aR GJ 0) lZ:=bV fun _ _ _=>fu<|aH fun _=>aH fun _=>bT fun _ _=>tM<|fun h _ e6 e4 e2 e1=>bJ KN h (by subst_vars;exact aM rfl rfl ⟨e1,e2,e4,trivial⟩ ⟨e6,trivial⟩)
def YX:FnI:=fnI Tryz.f15 wX
def Cu (_:Int) (_:aF):(Int×aF)→au:=fun r=>⟨(.i r.1),[⟨true,aU,.own,r.2⟩],[]⟩
theorem Wz:∀(p0:Int)(p1:aF),bL pO YX ⟨[(.ref (0,0) [.snd,.fst]),(.i p0)],[⟨true,aU,.own,p1⟩]⟩=(Bc p0 p1).run fun r=>some (Cu p0 p1 r):=fun _ _=>by kernel_rfl
def YW (av:List AV) (rs:List Root):Tre au:=
 aD av fun a0_ av0=>
 aD av0 fun a1_ av1=>
 aN av1<|
 aD rs fun r0_ rs0=>
 aN rs0<|
 dF (0,0) [.snd,.fst] a0_<|
 ay true .n a1_ fun d1=>
 wQ true aU r0_ fun m2 d3=>
 asM .own m2<|
 .mat (pK d1 d3) fun r=>.ret (Cu d1 d3 r)
def GK:Ctr:=dD [0] YW
theorem WA:Contract Tryz.prog .none 15 GK:=aB (V:=pO) aV aI Tryz.func15 (bD (n:=1) fun k hk=>by
 match k,hk with
 |0,_=>exact bF (id:=2) O8) fun _ _ _=>aK fun _ _=>aK fun _ _=>bn<|aK fun _ _=>bn<|fu<|aH fun _=>tRt fun _ _=>tM<|fun h=>by intros;subst_vars;exact bB (Wz _ _) h
def uS (_:(Int×(Int×Unit))) (_:(Int×Unit)) (p2:Int) (p3:aF):Tre (Int×aF):=
 .mat (pK p2 p3) fun r1=>
 .ret (r1.1,r1.2)
def lW (p0:(Int×(Int×Unit))) (p1:(Int×Unit)) (p2:Int) (p3:aF):Option (Int×aF):=(uS p0 p1 p2 p3).run some
-- more
theorem asE{α β γ:Type}(g:Nat→γ→α→γ)(fin:γ→β):∀(l:List α)(i:Nat)(acc:γ),∃a,nH (fun i acc x=>(.inl (g i acc x):γ ⊕ β)) fin i acc l=fin a:=by
 intro l
 induction l with
 |nil=>intro i acc;exact ⟨acc,rfl⟩
 |cons x l ih=>intro i acc;exact ih (i+1) _
theorem aAQ(g:(Int×Int×Unit)×List Int×Int×Unit)(hl:g.2.1.length≤1048576):∃g',lW g.1 g.2.2 1 g=some (1+(g.2.1.length:Int),g'):=by
 obtain ⟨f,xs,k,u⟩:=g
 have:=kN (xs:=xs) (step:=gu) (fun i acc=>(1+(i:Int),(i:Int),(f,acc,k,u))) (fun i acc _=>.inl (acc.set i (1+(i:Int)))) (fun acc=>(1+(xs.length:Int),(f,acc,k,u))) (fun i acc=>acc.length=xs.length) (by
  intro i acc x hx hI
  have hi:i<xs.length:=(List.getElem?_eq_some_iff.1 hx).1
  dsimp only at hl
  refine ⟨?_,fun a ha=>by cases ha;simpa using hI⟩
  unfold gu
  dsimp only
  rw [dW (List.getElem?_eq_getElem (by omega:i<acc.length))]
  rw [Tre.aG,aQ (by omega),dS (by omega) (by omega),Int.toNat_natCast]
  simp only [Int.natCast_add,Int.natCast_one,Int.add_assoc])
  (by
  intro acc hI
  unfold gu
  dsimp only
  rw [←show acc.length=xs.length from hI]
  exact dB) xs 0 xs rfl (Nat.zero_le _) rfl
 obtain ⟨a,ha⟩:=asE (fun i (acc:List Int) (_:Int)=>acc.set i (1+(i:Int))) (fun acc=>((1+(xs.length:Int),(f,acc,k,u)):Int×((Int×Int×Unit)×List Int×Int×Unit))) xs 0 xs
 rw [ha] at this
 refine ⟨(f,a,k,u),?_⟩
 unfold lW uS
 rw [ah (show pK 1 (f,xs,k,u)=some (1+(xs.length:Int),(f,a,k,u)) from by
  unfold pK Bc
  have h1:aL gu (1,0,(f,xs,k,u))=some (1+(xs.length:Int),(f,a,k,u)):=by simpa using this
  rw [ah h1,Tre.aG])]
 rfl
def A8:Env:=⟨tau,[(15,GK)],[]⟩
def Ro:FnI:=fnI Tryz.f14 []
def xE (_:(Int×(Int×Unit))) (_:(Int×Unit)) (_:Int) (_:aF):(Int×aF)→au:=fun r=>⟨(.i r.1),[⟨true,aU,.own,r.2⟩],[]⟩
theorem O4:∀(p0:(Int×(Int×Unit)))(p1:(Int×Unit))(p2:Int)(p3:aF),bL A8 Ro ⟨[(.pair (.imm true aP p0) (.pair (.ref (0,0) [.snd,.fst]) (.imm true (.pair .n .unit) p1))),(.i p2)],[⟨true,aU,.own,p3⟩]⟩=(uS p0 p1 p2 p3).run fun r=>some (xE p0 p1 p2 p3 r):=fun _ _ _ _=>by kernel_rfl
def Rn (av:List AV) (rs:List Root):Tre au:=
 aD av fun a0_ av0=>
 aD av0 fun a1_ av1=>
 aN av1<|
 aD rs fun r0_ rs0=>
 aN rs0<|
 aat a0_ fun a1 a2=>
 ay true aP a1 fun d3=>
 aat a2 fun a4 a5=>
 dF (0,0) [.snd,.fst] a4<|
 ay true (.pair .n .unit) a5 fun d6=>
 ay true .n a1_ fun d7=>
 wQ true aU r0_ fun m8 d9=>
 asM .own m8<|
 .mat (lW d3 d6 d7 d9) fun r=>.ret (xE d3 d6 d7 d9 r)
def A9:Ctr:=dD [0] Rn
theorem O5:Contract Tryz.prog .none 14 A9:=aB (V:=A8) aV (ak WA aAD aI) Tryz.func14 bN fun _ _ _=>aK fun _ _=>aK fun _ _=>bn<|aK fun _ _=>bn<|ayd fun _ _=>aH fun _=>ayd fun _ _=>fu<|aH fun _=>aH fun _=>tRt fun _ _=>tM<|fun h=>by intros;subst_vars;exact bB (O4 _ _ _ _) h
def gq:(Int×Int×(List Int))→Tre ((Int×Int×(List Int)) ⊕ (Int×(List Int))):=fun s2=>
 .cond (decide (s2.2.1<(s2.2.2.length:Int)))
  (.ite (0≤s2.2.1∧s2.2.1<(s2.2.2.length:Int))<|
  .mat (s2.2.2[s2.2.1.toNat]?) fun _=>
  let v2:=s2.2.2.set s2.2.1.toNat s2.1
  .ret (.inl (aJ .i64 (s2.1+1),aJ .i64 (s2.2.1+1),v2)))
  (.ret (.inr (s2.1,s2.2.2)))
def Bb (p0:Int) (p1:List Int):Tre (Int×(List Int)):=
 .mat (aL gq (p0,0,p1)) fun l3=>
 .ret (l3.1,l3.2)
def GD (p0:Int) (p1:List Int):Option (Int×(List Int)):=(Bb p0 p1).run some
def aph(k:Int)(xs:List Int):Option (Int×List Int):=akg (inR k 0 4194304&&decide (xs.length≤1048576)) (k+(xs.length:Int),marks k xs.length)
theorem Rs(p0:Int)(p1:List Int)(y:Int×List Int)(h:aph p0 p1=some y):GD p0 p1=some y:=by
 obtain ⟨hok,rfl⟩:=rW h
 simp only [Bool.and_eq_true,decide_eq_true_eq,gX] at hok
 obtain ⟨hk,hl⟩:=hok
 unfold GD Bb
 have:=kN (xs:=p1) (step:=gq) (fun i acc=>(p0+(i:Int),(i:Int),acc)) (fun i acc _=>.inl (acc.set i (p0+(i:Int)))) (fun acc=>(p0+(p1.length:Int),acc)) (fun i acc=>acc.length=p1.length) (by
  intro i acc x hx hI
  have hi:i<p1.length:=(List.getElem?_eq_some_iff.1 hx).1
  refine ⟨?_,fun a ha=>by cases ha;simpa using hI⟩
  unfold gq
  rw [dW (List.getElem?_eq_getElem (by omega:i<acc.length))]
  dsimp only
  rw [Tre.aG,aQ (by omega),dS (by omega) (by omega),Int.toNat_natCast]
  simp only [Int.natCast_add,Int.natCast_one,Int.add_assoc])
  (by
  intro acc hI
  unfold gq
  rw [←show acc.length=p1.length from hI]
  exact dB) p1 0 p1 rfl (Nat.zero_le _) rfl
 rw [asF _ _ _ _ _ (by simp)] at this
 have h1:aL gq (p0,0,p1)=some (p0+(p1.length:Int),marks p0 p1.length):=by
  simpa [marks] using this
 rw [ah h1]
 rfl
def pJ:Env:=⟨tau,[],[]⟩
def GH:Code:=(Tryz.f15.body).getD .skip
def zC:(Int×Int×(List Int))→St:=fun x=>bO [(0,(.ref (0,0) [])),(1,(.i x.1)),(5,(.i x.2.1))] [((0,0),some ⟨false,.il,.own,x.2.2⟩)]
def xH:(Int×(List Int))→Ex×St:=fun x=>(.exit 0,bO [(1,(.i x.1))] [((0,0),some ⟨false,.il,.own,x.2⟩)])
def Rq (s:St):Tre (Ex×St):=
 dF (0,0) [] (s.tmps 0)<|
 ay true .n (s.tmps 1) fun d3=>
 ay true .n (s.tmps 5) fun d5=>
 aZ false .il (s.roots (0,0)) fun m7 d8=>
 asM .own m7<|
 .mat (aL gq (d3,d5,d8)) fun x=>.ret (xH x)
def lY:bA:=⟨([0,1,5],[(0,0)]),([1],[(0,0)]),Rq⟩
def wW:List (Nat×bA):=[(2,lY)]
theorem KM:∀(x:(Int×Int×(List Int)))(c:St→Option (Ex×St)),den pJ wW (aR GH 0) (zC x) (bR lY.kp lY.kx c)=(gq x).run (bS (zC) (xH) c):=fun _ _=>by
 kernel_rfl
theorem O7:bP pJ wW (aR GH 0) lY:=bV fun _ _ _=>fu<|aH fun _=>aH fun _=>bT fun _ _=>tM<|fun h _ e6 e4 e2 e1=>bJ KM h (by subst_vars;exact aM rfl rfl ⟨e1,e2,e4,trivial⟩ ⟨e6,trivial⟩)
def YV:FnI:=fnI Tryz.f15 wW
def Ct (_:Int) (_:List Int):(Int×(List Int))→au:=fun r=>⟨(.i r.1),[⟨false,.il,.own,r.2⟩],[]⟩
theorem Wx:∀(p0:Int)(p1:List Int),bL pJ YV ⟨[(.ref (0,0) []),(.i p0)],[⟨false,.il,.own,p1⟩]⟩=(Bb p0 p1).run fun r=>some (Ct p0 p1 r):=fun _ _=>by kernel_rfl
def YU (av:List AV) (rs:List Root):Tre au:=
 aD av fun a0_ av0=>
 aD av0 fun a1_ av1=>
 aN av1<|
 aD rs fun r0_ rs0=>
 aN rs0<|
 dF (0,0) [] a0_<|
 ay true .n a1_ fun d1=>
 wQ false .il r0_ fun m2 d3=>
 asM .own m2<|
 .mat (aph d1 d3) fun r=>.ret (Ct d1 d3 r)
def GI:Ctr:=dD [0] YU
theorem Wy:Contract Tryz.prog .none 15 GI:=aB (V:=pJ) aV aI Tryz.func15 (bD (n:=1) fun k hk=>by
 match k,hk with
 |0,_=>exact bF (id:=2) O7) fun _ _ _=>aK fun _ _=>aK fun _ _=>bn<|aK fun _ _=>bn<|fu<|aH fun _=>tRt fun _ _=>tM<|fun h=>by intros;subst_vars;exact nR (Wx _ _) (Rs _ _) h
def fZ:(Int×Int×aT)→Tre ((Int×Int×aT) ⊕ (Int×aT)):=fun s2=>
 .cond (decide (s2.2.1<(s2.2.2.2.1.length:Int)))
  (.ite (0≤s2.2.1∧s2.2.1<(s2.2.2.2.1.length:Int))<|
  .mat (s2.2.2.2.1[s2.2.1.toNat]?) fun _=>
  let v2:=s2.2.2.2.1.set s2.2.1.toNat s2.1
  .ret (.inl (aJ .i64 (s2.1+1),aJ .i64 (s2.2.1+1),(s2.2.2.1,(v2,s2.2.2.2.2)))))
  (.ret (.inr (s2.1,s2.2.2)))
def Ba (p0:Int) (p1:aT):Tre (Int×aT):=
 .mat (aL fZ (p0,0,p1)) fun l3=>
 .ret (l3.1,l3.2)
def pG (p0:Int) (p1:aT):Option (Int×aT):=(Ba p0 p1).run some
def pI:Env:=⟨tau,[],[]⟩
def Gz:Code:=(Tryz.f15.body).getD .skip
def zB:(Int×Int×aT)→St:=fun x=>bO [(0,(.ref (0,0) [.snd,.fst])),(1,(.i x.1)),(5,(.i x.2.1))] [((0,0),some ⟨true,bC,.own,x.2.2⟩)]
def xG:(Int×aT)→Ex×St:=fun x=>(.exit 0,bO [(1,(.i x.1))] [((0,0),some ⟨true,bC,.own,x.2⟩)])
def Rp (s:St):Tre (Ex×St):=
 dF (0,0) [.snd,.fst] (s.tmps 0)<|
 ay true .n (s.tmps 1) fun d3=>
 ay true .n (s.tmps 5) fun d5=>
 aZ true bC (s.roots (0,0)) fun m7 d8=>
 asM .own m7<|
 .mat (aL fZ (d3,d5,d8)) fun x=>.ret (xG x)
def lX:bA:=⟨([0,1,5],[(0,0)]),([1],[(0,0)]),Rp⟩
def wV:List (Nat×bA):=[(2,lX)]
theorem KL:∀(x:(Int×Int×aT))(c:St→Option (Ex×St)),den pI wV (aR Gz 0) (zB x) (bR lX.kp lX.kx c)=(fZ x).run (bS (zB) (xG) c):=fun _ _=>by
 kernel_rfl
theorem O6:bP pI wV (aR Gz 0) lX:=bV fun _ _ _=>fu<|aH fun _=>aH fun _=>bT fun _ _=>tM<|fun h _ e6 e4 e2 e1=>bJ KL h (by subst_vars;exact aM rfl rfl ⟨e1,e2,e4,trivial⟩ ⟨e6,trivial⟩)
def YT:FnI:=fnI Tryz.f15 wV
def Cr (_:Int) (_:aT):(Int×aT)→au:=fun r=>⟨(.i r.1),[⟨true,bC,.own,r.2⟩],[]⟩
theorem Wv:∀(p0:Int)(p1:aT),bL pI YT ⟨[(.ref (0,0) [.snd,.fst]),(.i p0)],[⟨true,bC,.own,p1⟩]⟩=(Ba p0 p1).run fun r=>some (Cr p0 p1 r):=fun _ _=>by kernel_rfl
def YS (av:List AV) (rs:List Root):Tre au:=
 aD av fun a0_ av0=>
 aD av0 fun a1_ av1=>
 aN av1<|
 aD rs fun r0_ rs0=>
 aN rs0<|
 dF (0,0) [.snd,.fst] a0_<|
 ay true .n a1_ fun d1=>
 wQ true bC r0_ fun m2 d3=>
 asM .own m2<|
 .mat (pG d1 d3) fun r=>.ret (Cr d1 d3 r)
def GA:Ctr:=dD [0] YS
theorem Ww:Contract Tryz.prog .none 15 GA:=aB (V:=pI) aV aI Tryz.func15 (bD (n:=1) fun k hk=>by
 match k,hk with
 |0,_=>exact bF (id:=2) O6) fun _ _ _=>aK fun _ _=>aK fun _ _=>bn<|aK fun _ _=>bn<|fu<|aH fun _=>tRt fun _ _=>tM<|fun h=>by intros;subst_vars;exact bB (Wv _ _) h
def Bd (_:Int) (p1:Int) (p2:aT):Tre (Int×aT):=
 .mat (pG p1 p2) fun r1=>
 .ret (r1.1,r1.2)
def pQ (p0:Int) (p1:Int) (p2:aT):Option (Int×aT):=(Bd p0 p1 p2).run some
-- more
theorem aBk(m:Int×List Int×Unit)(p0 k:Int)(hl:m.2.1.length≤1048576)(hk0:0≤k)(hk:k≤8388608):∃m',pQ p0 k m=some (k+(m.2.1.length:Int),m'):=by
 obtain ⟨c,xs,u⟩:=m
 dsimp only at hl
 have:=kN (xs:=xs) (step:=fZ) (fun i acc=>(k+(i:Int),(i:Int),(c,acc,u))) (fun i acc _=>.inl (acc.set i (k+(i:Int)))) (fun acc=>(k+(xs.length:Int),(c,acc,u))) (fun i acc=>acc.length=xs.length) (by
  intro i acc x hx hI
  have hi:i<xs.length:=(List.getElem?_eq_some_iff.1 hx).1
  refine ⟨?_,fun a ha=>by cases ha;simpa using hI⟩
  unfold fZ
  dsimp only
  rw [dW (List.getElem?_eq_getElem (by omega:i<acc.length))]
  rw [Tre.aG,aQ (by omega),dS (by omega) (by omega),Int.toNat_natCast]
  simp only [Int.natCast_add,Int.natCast_one,Int.add_assoc])
  (by
  intro acc hI
  unfold fZ
  dsimp only
  rw [←show acc.length=xs.length from hI]
  exact dB) xs 0 xs rfl (Nat.zero_le _) rfl
 obtain ⟨a,ha⟩:=asE (fun i (acc:List Int) (_:Int)=>acc.set i (k+(i:Int))) (fun acc=>((k+(xs.length:Int),(c,acc,u)):Int×(Int×List Int×Unit))) xs 0 xs
 rw [ha] at this
 refine ⟨(c,a,u),?_⟩
 unfold pQ Bd
 rw [ah (show pG k (c,xs,u)=some (k+(xs.length:Int),(c,a,u)) from by
  unfold pG Ba
  have h1:aL fZ (k,0,(c,xs,u))=some (k+(xs.length:Int),(c,a,u)):=by simpa using this
  rw [ah h1,Tre.aG])]
 rfl
def GL:Env:=⟨tau,[(15,GA)],[]⟩
def Y0:FnI:=fnI Tryz.f24 []
def Cv (_:Int) (_:Int) (_:aT):(Int×aT)→au:=fun r=>⟨(.i r.1),[⟨true,bC,.own,r.2⟩],[]⟩
theorem WB:∀(p0 p1:Int)(p2:aT),bL GL Y0 ⟨[(.pair (.i p0) (.pair (.ref (0,0) [.snd,.fst]) (.imm true .unit ()))),(.i p1)],[⟨true,bC,.own,p2⟩]⟩=(Bd p0 p1 p2).run fun r=>some (Cv p0 p1 p2 r):=fun _ _ _=>by kernel_rfl
def YZ (av:List AV) (rs:List Root):Tre au:=
 aD av fun a0_ av0=>
 aD av0 fun a1_ av1=>
 aN av1<|
 aD rs fun r0_ rs0=>
 aN rs0<|
 aat a0_ fun a1 a2=>
 ay true .n a1 fun d3=>
 aat a2 fun a4 a5=>
 dF (0,0) [.snd,.fst] a4<|
 ay true .unit a5 fun _=>
 ay true .n a1_ fun d7=>
 wQ true bC r0_ fun m8 d9=>
 asM .own m8<|
 .mat (pQ d3 d7 d9) fun r=>.ret (Cv d3 d7 d9 r)
def GN:Ctr:=dD [0] YZ
theorem WC:Contract Tryz.prog .none 24 GN:=aB (V:=GL) aV (ak Ww aAD aI) Tryz.func24 bN fun _ _ _=>aK fun _ _=>aK fun _ _=>bn<|aK fun _ _=>bn<|ayd fun _ _=>aH fun _=>ayd fun _ _=>fu<|aH fun _=>aH fun _=>tRt fun _ _=>tM<|fun h=>by intros;subst_vars;exact bB (WB _ _ _) h
def jC (aS:List Int):(Int×Int)→Tre ((Int×Int) ⊕ ((Int×Int) ⊕ Int)):=fun s2=>
 .cond (decide (s2.2<(aS.length:Int)))
  (.ite (0≤s2.2∧s2.2<(aS.length:Int))<|
  .mat (aS[s2.2.toNat]?) fun x1=>
  .cond (!decide (x1=s2.1))
   (.ret (.inr (.inl (s2.1,-1))))
   (.ret (.inl (aJ .i64 (s2.1+1),aJ .i64 (s2.2+1)))))
  (.ret (.inr (.inr s2.1)))
def Rm (p0:List Int) (p1:Int):Tre Int:=
 .mat (aL (jC p0) (p1,0)) fun l2=>
 .alt l2
  (fun a3=>
   .ret a3.2)
  (fun b4=>
   .ret b4)
def Wq (p0:List Int) (p1:Int):Option Int:=(Rm p0 p1).run some
def akJ(xs:List Int)(k:Int):Option Int:=if (inR k 0 1048576&&decide (xs.length≤1048576))=true∧xs=marks k xs.length then some (k+(xs.length:Int)) else none
theorem adk(p0:List Int)(p1 y:Int)(h:akJ p0 p1=some y):Wq p0 p1=some y:=by
 unfold akJ at h
 split at h
 case isFalse=>cases h
 case isTrue hh=>
 obtain ⟨hok,hm⟩:=hh
 cases h
 simp only [Bool.and_eq_true,decide_eq_true_eq,gX] at hok
 obtain ⟨hk,hl⟩:=hok
 unfold Wq Rm
 have:=aaE (xs:=p0) (step:=jC p0) (γ:=Unit) (fun i _=>(p1+(i:Int),(i:Int))) (fun _ _ _=>.inl ()) (fun _=>.inr (p1+(p0.length:Int))) (by
  intro i acc x hx
  have hi:i<p0.length:=(List.getElem?_eq_some_iff.1 hx).1
  have hxv:x=p1+(i:Int):=by
   rw [hm] at hx
   unfold marks at hx
   simp only [List.getElem?_map,Option.map_eq_some_iff] at hx
   obtain ⟨a,ha,rfl⟩:=hx
   rw [List.getElem?_range' (by simpa using hi)] at ha
   simp at ha
   rw [ha]
  unfold jC
  rw [dW hx,Tre.aA]
  simp only [hxv,decide_true,Bool.not_true,cond_false]
  rw [Tre.aG,aQ (by omega),dS (by omega) (by omega)]
  simp only [Int.natCast_add,Int.natCast_one,Int.add_assoc])
  (by
  intro acc
  unfold jC
  exact dB) ()
 have hf:∀(l:List Int)(i:Nat),nH (β:=(Int×Int) ⊕ Int) (fun (_:Nat) (_:Unit) (_:Int)=>.inl ()) (fun _=>.inr (p1+(p0.length:Int))) i () l=.inr (p1+(p0.length:Int)):=by
  intro l
  induction l with
  |nil=>intro i;rfl
  |cons x l ih=>intro i;exact ih _
 rw [hf] at this
 have h1:aL (jC p0) (p1,0)=some (.inr (p1+(p0.length:Int))):=by simpa using this
 rw [ah h1]
 rfl
def AZ:Env:=⟨tau,[],[]⟩
def Ws:Code:=(Tryz.f16.body).getD .skip
def yV (eF:Bool) (aS:List Int):(Int×Int)→St:=fun x=>bO [(0,(.imm eF .il aS)),(1,(.i x.1)),(5,(.i x.2))] []
def pF (_:Bool) (_:List Int):((Int×Int) ⊕ Int)→Ex×St
 |.inl x=>(.ret,bO [(1,(.i x.1)),(4,(.i x.2))] [])
 |.inr x=>(.exit 0,bO [(1,(.i x)),(4,.dead)] [])
def LV (s:St):Tre (Ex×St):=
 bg .il (s.tmps 0) fun z3 d2=>
 ay true .n (s.tmps 1) fun d5=>
 ay true .n (s.tmps 5) fun d7=>
 .mat (aL (jC d2) (d5,d7)) fun x=>.alt x (fun a0=>.ret (pF z3 d2 (.inl a0))) (fun b0=>.ret (pF z3 d2 (.inr b0)))
def ow:bA:=⟨([0,1,5],[]),([1,4],[]),LV⟩
def JF:List (Nat×bA):=[(2,ow)]
theorem Wu:∀(eF:Bool)(aS:List Int)(x:(Int×Int))(c:St→Option (Ex×St)),den AZ JF (aR Ws 0) (yV eF aS x) (bR ow.kp ow.kx c)=(jC aS x).run (bS (yV eF aS) (pF eF aS) c):=fun _ _ _ _=>by
 kernel_rfl
theorem abj:bP AZ JF (aR Ws 0) ow:=fP fun s e s' h=>by
 generalize hs:restrict ow.kp s=s1 at h
 have h:(LV s1).run some=some (e,s'):=h
 obtain ⟨z3,d2,e1,h_0⟩:=fG h
 obtain ⟨d5,e4,h_1⟩:=cu h_0
 obtain ⟨d7,e6,h_2⟩:=cu h_1
 obtain ⟨y,hy,hz⟩:=iE h_2
 refine ⟨_,_,yV z3 d2,pF z3 d2,jC d2,(d5,d7),y,?_,hy,?_,Wu z3 d2⟩
 ·subst hs;exact aM (T:=[(0,(.imm z3 .il d2)),(1,(.i d5)),(5,(.i d7))]) (U:=[]) rfl rfl ⟨e1,e4,e6,trivial⟩ trivial
 ·rcases y with x|x<;>exact Option.some.inj hz
def aly:FnI:=fnI Tryz.f16 JF
def O1 (_:Bool) (_:List Int) (_:Int):Int→au:=fun r=>⟨(.i r),[],[]⟩
theorem aiV:∀(zp0:Bool)(p0:List Int)(p1:Int),bL AZ aly ⟨[(.imm zp0 .il p0),(.i p1)],[]⟩=(Rm p0 p1).run fun r=>some (O1 zp0 p0 p1 r):=fun _ _ _=>by kernel_rfl
def alx (av:List AV) (rs:List Root):Tre au:=
 aD av fun a0_ av0=>
 aD av0 fun a1_ av1=>
 aN av1<|
 aN rs<|
 bg .il a0_ fun z2 d1=>
 ay true .n a1_ fun d3=>
 .mat (akJ d1 d3) fun r=>.ret (O1 z2 d1 d3 r)
def Wt:Ctr:=dD [] alx
theorem aiW:Contract Tryz.prog .none 16 Wt:=aB (V:=AZ) aV aI Tryz.func16 (bD (n:=1) fun k hk=>by
 match k,hk with
 |0,_=>exact bF (id:=2) abj) fun _ _ _=>aK fun _ _=>aK fun _ _=>bn<|bn<|bZ fun _ _=>aH fun _=>fun h=>by intros;subst_vars;exact nR (aiV _ _ _) (adk _ _) h
end Go.Proofs.YtihiobjhogpmdaaGreat
