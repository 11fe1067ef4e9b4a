/- Part 5 of the proof of FnExactDecodeErased. -/
import Derived.Test.YtihiobjhogpmdaaGreatDe4
set_option maxRecDepth 100000
noncomputable section
namespace Go.Proofs.YtihiobjhogpmdaaGreat
open Go Go.Abs Go.Proofs
def ND (aS:Int) (bM:(Int×(Int×Unit))):(Int×Int)→Tre ((Int×Int) ⊕ Int):=fun s2=>
 .cond (decide (s2.1>0))
  (.mat (dY bM s2.2 aS) fun r1=>
  .ret (.inl (aJ .i64 (s2.1-1),r1)))
  (.ret (.inr s2.2))
def amj (p0:(Int×(Int×Unit))) (p1:Int) (p2:Int):Tre Int:=
 .mat (aL (ND p1 p0) (p2,1)) fun l2=>
 .ret l2
def ad4 (p0:(Int×(Int×Unit))) (p1:Int) (p2:Int):Option Int:=(amj p0 p1 p2).run some
def Il:Env:=⟨tau,[(68,uX)],[]⟩
def ad5:Code:=(Tryz.f135.body).getD .skip
def Pq (aS:Int) (bM:(Int×(Int×Unit))):(Int×Int)→St:=fun x=>bO [(1,(.i aS)),(2,(.i x.1)),(3,(.ptr (5,0) [])),(7,(.i x.2))] [((5,0),some ⟨true,aP,.own,bM⟩)]
def Mi (_:Int) (_:(Int×(Int×Unit))):Int→Ex×St:=fun x=>(.exit 0,bO [(7,(.i x))] [])
def aji (s:St):Tre (Ex×St):=
 ay true .n (s.tmps 1) fun d2=>
 ay true .n (s.tmps 2) fun d4=>
 dR (5,0) [] (s.tmps 3)<|
 ay true .n (s.tmps 7) fun d7=>
 aZ true aP (s.roots (5,0)) fun m9 d10=>
 asM .own m9<|
 .mat (aL (ND d2 d10) (d4,d7)) fun x=>.ret (Mi d2 d10 x)
def yx:bA:=⟨([1,2,3,7],[(5,0)]),([7],[]),aji⟩
def RS:List (Nat×bA):=[(2,yx)]
theorem abD:∀(aS:Int)(bM:(Int×(Int×Unit)))(x:(Int×Int))(c:St→Option (Ex×St)),den Il RS (aR ad5 0) (Pq aS bM x) (bR yx.kp yx.kx c)=(ND aS bM x).run (bS (Pq aS bM) (Mi aS bM) c):=fun _ _ _ _=>by
 kernel_rfl
theorem agy:bP Il RS (aR ad5 0) yx:=bV fun _ _ _=>aH fun _=>aH fun _=>gL<|aH fun _=>bT fun _ _=>tM<|fun h _ e8 e6 e5 e3 e1=>bJ (abD _ _) h (by subst_vars;exact aM rfl rfl ⟨e1,e3,e5,e6,trivial⟩ ⟨e8,trivial⟩)
def aq9:FnI:=fnI Tryz.f135 RS
def Xm (_:(Int×(Int×Unit))) (_:Int) (_:Int):Int→au:=fun r=>⟨(.i r),[],[]⟩
theorem aod:∀(p0:(Int×(Int×Unit)))(p1 p2:Int),bL Il aq9 ⟨[(.imm true aP p0),(.i p1),(.i p2)],[]⟩=(amj p0 p1 p2).run fun r=>some (Xm p0 p1 p2 r):=fun _ _ _=>by kernel_rfl
def aq8 (av:List AV) (rs:List Root):Tre au:=
 aD av fun a0_ av0=>
 aD av0 fun a1_ av1=>
 aD av1 fun a2_ av2=>
 aN av2<|
 aN rs<|
 ay true aP a0_ fun d1=>
 ay true .n a1_ fun d2=>
 ay true .n a2_ fun d3=>
 .mat (ad4 d1 d2 d3) fun r=>.ret (Xm d1 d2 d3 r)
def ad6:Ctr:=dD [] aq8
theorem aoe:Contract Tryz.prog .none 135 ad6:=aB (V:=Il) aV (ak uY akx aI) Tryz.func135 (bD (n:=1) fun k hk=>by
 match k,hk with
 |0,_=>exact bF (id:=2) agy) fun _ _ _=>aK fun _ _=>aK fun _ _=>aK fun _ _=>bn<|bn<|aH fun _=>aH fun _=>aH fun _=>fun h=>by intros;subst_vars;exact bB (aod _ _ _) h
def ad2 (p0:(Int×(Int×Unit))) (p1:Int):Tre Int:=
 .mat (zI p0) fun r1=>
 .mat (ad4 p0 p1 (aJ .i64 (r1-2))) fun r2=>
 .ret r2
def dQ (p0:(Int×(Int×Unit))) (p1:Int):Option Int:=(ad2 p0 p1).run some
-- more
set_option maxRecDepth 100000
theorem aFD:zY dQ sO 1 2=true:=by kernel_rfl
theorem aFE:zY dQ sO 1 3=true:=by kernel_rfl
theorem aFF:zY dQ sO 2 7=true:=by kernel_rfl
theorem aDo:zY dQ sO 3 11=true:=by kernel_rfl
theorem aDp:zY dQ sO 3 13=true:=by kernel_rfl
theorem aDq:zY dQ sO 4 19=true:=by kernel_rfl
theorem aDr:zY dQ sO 4 25=true:=by kernel_rfl
theorem aDs:zY dQ sO 4 31=true:=by kernel_rfl
theorem aDt:zY dQ sO 5 37=true:=by kernel_rfl
theorem aDu:zY dQ sO 5 41=true:=by kernel_rfl
theorem aDv:zY dQ sO 5 47=true:=by kernel_rfl
theorem aDw:zY dQ sO 5 55=true:=by kernel_rfl
theorem aDx:zY dQ sO 5 59=true:=by kernel_rfl
theorem aDy:zY dQ sO 5 61=true:=by kernel_rfl
theorem ax6{f:TF3}(hf:aO f=true){a:Int}(ha:inF f a):dQ f a=some (zV f a):=by
 refine aBz (fun q hq=>?_) hf ha
 simp only [iZ,List.mem_cons,List.not_mem_nil,or_false] at hq
 rcases hq with rfl|rfl|rfl|rfl|rfl|rfl|rfl|rfl|rfl|rfl|rfl|rfl|rfl|rfl
 ·exact aFD
 ·exact aFE
 ·exact aFF
 ·exact aDo
 ·exact aDp
 ·exact aDq
 ·exact aDr
 ·exact aDs
 ·exact aDt
 ·exact aDu
 ·exact aDv
 ·exact aDw
 ·exact aDx
 ·exact aDy
def Xj:Env:=⟨tau,[(87,Mk),(135,ad6)],[]⟩
def ame:FnI:=fnI Tryz.f117 []
def Pn (_:(Int×(Int×Unit))) (_:Int):Int→au:=fun r=>⟨(.i r),[],[]⟩
theorem ajh:∀(p0:(Int×(Int×Unit)))(p1:Int),bL Xj ame ⟨[(.imm true aP p0),(.i p1)],[]⟩=(ad2 p0 p1).run fun r=>some (Pn p0 p1 r):=fun _ _=>by kernel_rfl
def amd (av:List AV) (rs:List Root):Tre au:=
 aD av fun a0_ av0=>
 aD av0 fun a1_ av1=>
 aN av1<|
 aN rs<|
 ay true aP a0_ fun d1=>
 ay true .n a1_ fun d2=>
 .mat (dQ d1 d2) fun r=>.ret (Pn d1 d2 r)
def JO:Ctr:=dD [] amd
theorem Tv:Contract Tryz.prog .none 117 JO:=aB (V:=Xj) aV (ak RV aAG (ak aoe aE1 aI)) Tryz.func117 bN fun _ _ _=>aK fun _ _=>aK fun _ _=>bn<|bn<|aH fun _=>aH fun _=>fun h=>by intros;subst_vars;exact bB (ajh _ _) h
def rA (aX:List Int) (bq:List Int) (bY:Int) (dI:(Int×(Int×Unit))):(Int×(List Int))→Tre ((Int×(List Int)) ⊕ (List Int)):=fun s3=>
 .cond (decide (s3.1<(aX.length:Int)))
  (.ite (0≤s3.1∧s3.1<(aX.length:Int))<|
  .mat (aX[s3.1.toNat]?) fun x1=>
  .ite (0≤s3.1∧s3.1<(bq.length:Int))<|
  .mat (bq[s3.1.toNat]?) fun x2=>
  .mat (dY dI x2 bY) fun r3=>
  .ite ((s3.2.length+1)*8≤bI∧1≤8)<|
  let v4:=s3.2++([iD .i64 x1 r3])
  .ret (.inl (aJ .i64 (s3.1+1),v4)))
  (.ret (.inr s3.2))
def agO (p0:(Int×(Int×Unit))) (p1:List Int) (p2:List Int) (p3:Int):Tre (List Int):=
 .mat (aL (rA p1 p2 p3 p0) (0,[])) fun l5=>
 .ret l5
def FC (p0:(Int×(Int×Unit))) (p1:List Int) (p2:List Int) (p3:Int):Option (List Int):=(agO p0 p1 p2 p3).run some
-- more
theorem aev{f:TF3}(hf:aO f=true){u w:List Int}(hl:u.length=w.length)(hs:u.length≤1000000)(hw:∀y∈w,inF f y){x:Int}(hx:inF f x):FC f u w x=some (ae1 f u w x):=by
 have key:=kN (xs:=u.zip w) (step:=rA u w x f) (fun (i:Nat) (acc:List Int)=>((i:Int),acc)) (fun _ acc p=>.inl (acc++[iD .i64 p.1 (gH f p.2 x)])) id (fun i acc=>acc.length=i) (by
  intro i acc p hp hi
  have hlt:=(List.getElem?_eq_some_iff.1 hp).1
  rw [List.length_zip] at hlt
  obtain ⟨p1,p2⟩:=p
  rw [List.getElem?_zip_eq_some] at hp
  obtain ⟨h1,h2⟩:=hp
  refine ⟨?_,fun a ha=>?_⟩
  ·unfold rA
   dsimp only
   rw [Tre.aA,decide_eq_true (by omega),cond_true,Tre.run_ite,if_pos (by omega),Int.toNat_natCast,ah h1,Tre.run_ite,if_pos (by omega),ah h2,ah (ax8 hf (hw _ (List.mem_of_getElem? h2)) hx),Tre.run_ite,if_pos (by unfold bI;omega),Tre.aG,aQ (by omega)]
  ·cases ha;simp [hi]) (by
  intro acc _
  unfold rA
  dsimp only
  rw [Tre.aA,decide_eq_false (by rw [List.length_zip];omega),cond_false]
  rfl) (u.zip w) 0 [] rfl (Nat.zero_le _) rfl
 rw [afi] at key
 have key:aL (rA u w x f) (0,[])=some (ae1 f u w x):=key
 unfold FC agO
 rw [ah key]
 rfl
def MJ:Env:=⟨tau,[(68,uX)],[(1000000,[((10,0),[],false)])]⟩
def ah2:Code:=(Tryz.f38.body).getD .skip
def TM (dV:Bool) (BR:Bool) (aX:List Int) (bq:List Int) (bY:Int) (dI:(Int×(Int×Unit))):(Int×(List Int))→St:=fun x=>bO [(1,(.imm dV .il aX)),(2,(.imm BR .il bq)),(3,(.i bY)),(4,(.ptr (6,0) [])),(9,(.ref (11,0) [])),(10,(.i x.1))] [((6,0),some ⟨true,aP,.own,dI⟩),((11,0),some ⟨false,.il,.own,x.2⟩)]
def PE (_:Bool) (_:Bool) (_:List Int) (_:List Int) (_:Int) (_:(Int×(Int×Unit))):(List Int)→Ex×St:=fun x=>(.exit 0,bO [(9,(.ref (11,0) []))] [((11,0),some ⟨false,.il,.own,x⟩)])
def amP (s:St):Tre (Ex×St):=
 bg .il (s.tmps 1) fun z3 d2=>
 bg .il (s.tmps 2) fun z6 d5=>
 ay true .n (s.tmps 3) fun d8=>
 dR (6,0) [] (s.tmps 4)<|
 dF (11,0) [] (s.tmps 9)<|
 ay true .n (s.tmps 10) fun d12=>
 aZ true aP (s.roots (6,0)) fun m14 d15=>
 asM .own m14<|
 aZ false .il (s.roots (11,0)) fun m17 d18=>
 asM .own m17<|
 .mat (aL (rA d2 d5 d8 d15) (d12,d18)) fun x=>.ret (PE z3 z6 d2 d5 d8 d15 x)
def BG:bA:=⟨([1,2,3,4,9,10],[(6,0),(11,0)]),([9],[(11,0)]),amP⟩
def XM:List (Nat×bA):=[(3,BG)]
theorem aew:∀(dV BR:Bool)(aX bq:List Int)(bY:Int)(dI:(Int×(Int×Unit)))(x:(Int×(List Int)))(c:St→Option (Ex×St)),den MJ XM (aR ah2 0) (TM dV BR aX bq bY dI x) (bR BG.kp BG.kx c)=(rA aX bq bY dI x).run (bS (TM dV BR aX bq bY dI) (PE dV BR aX bq bY dI) c):=fun _ _ _ _ _ _ _ _=>by
 kernel_rfl
theorem ajw:bP MJ XM (aR ah2 0) BG:=bV fun _ _ _=>bZ fun _ _=>bZ fun _ _=>aH fun _=>gL<|fu<|aH fun _=>bT fun _ _=>tM<|bT fun _ _=>tM<|fun h _ e16 _ e13 e11 e10 e9 e7 e4 e1=>bJ (aew _ _ _ _ _ _) h (by subst_vars;exact aM rfl rfl ⟨e1,e4,e7,e9,e10,e11,trivial⟩ ⟨e13,e16,trivial⟩)
def auH:FnI:=fnI Tryz.f38 XM
def aag (_:Bool) (_:Bool) (_:(Int×(Int×Unit))) (_:List Int) (_:List Int) (_:Int):(List Int)→au:=fun r=>⟨(.imm true .il r),[],[]⟩
theorem ars:∀(zp0 zp1:Bool)(p0:(Int×(Int×Unit)))(p1 p2:List Int)(p3:Int),bL MJ auH ⟨[(.imm true aP p0),(.imm zp0 .il p1),(.imm zp1 .il p2),(.i p3)],[]⟩=(agO p0 p1 p2 p3).run fun r=>some (aag zp0 zp1 p0 p1 p2 p3 r):=fun _ _ _ _ _ _=>by kernel_rfl
def auG (av:List AV) (rs:List Root):Tre au:=
 aD av fun a0_ av0=>
 aD av0 fun a1_ av1=>
 aD av1 fun a2_ av2=>
 aD av2 fun a3_ av3=>
 aN av3<|
 aN rs<|
 ay true aP a0_ fun d1=>
 bg .il a1_ fun z3 d2=>
 bg .il a2_ fun z5 d4=>
 ay true .n a3_ fun d6=>
 .mat (FC d1 d2 d4 d6) fun r=>.ret (aag z3 z5 d1 d2 d4 d6 r)
def ah3:Ctr:=dD [] auG
theorem aru:Contract Tryz.prog .none 38 ah3:=aB (V:=MJ) aV (ak uY akx aI) Tryz.func38 (bD (n:=1) fun k hk=>by
 match k,hk with
 |0,_=>exact bF (id:=3) ajw) fun _ _ _=>aK fun _ _=>aK fun _ _=>aK fun _ _=>aK fun _ _=>bn<|bn<|aH fun _=>bZ fun _ _=>bZ fun _ _=>aH fun _=>fun h=>by intros;subst_vars;exact bB (ars _ _ _ _ _ _) h
def lM (bq:(List (List Int))):(Int×(List (List Int)))→Tre ((Int×(List (List Int))) ⊕ (List (List Int))):=fun s3=>
 .cond (decide (s3.1<(bq.length:Int)))
  (.ite (0≤s3.1∧s3.1<(bq.length:Int))<|
  .mat (bq[s3.1.toNat]?) fun x1=>
  .mat (Mf x1) fun r2=>
  .ite ((s3.2.length+1)*24≤bI∧1≤24)<|
  .ret (.inl (aJ .i64 (s3.1+1),s3.2++([r2]))))
  (.ret (.inr s3.2))
def jW (j4:Int) (xU:(List (List Int))):Int→Tre (Int ⊕ Int):=fun s11=>
 .cond (decide (s11<(xU.length:Int)))
  (.ite (0≤s11∧s11<(xU.length:Int))<|
  .mat (xU[s11.toNat]?) fun x4=>
  .ite (0≤j4∧j4<(x4.length:Int))<|
  .mat (x4[j4.toNat]?) fun x5=>
  .cond (decide (x5=0))
   (.ret (.inl (aJ .i64 (s11+1))))
   (.ret (.inr s11)))
  (.ret (.inr s11))
def jX (vH:Int) (qK:Int) (DV:(Int×(Int×Unit))):(Int×(List (List Int)))→Tre ((Int×(List (List Int))) ⊕ (List (List Int))):=fun s18=>
 .cond (decide (s18.1<(s18.2.length:Int)))
  (.cond (!decide (s18.1=vH))
   (.ite (0≤s18.1∧s18.1<(s18.2.length:Int))<|
   .mat (s18.2[s18.1.toNat]?) fun x15=>
   .ite (0≤qK∧qK<(x15.length:Int))<|
   .mat (x15[qK.toNat]?) fun x16=>
   .cond (!decide (x16=0))
    (.ite (0≤s18.1∧s18.1<(s18.2.length:Int))<|
    .mat (s18.2[s18.1.toNat]?) fun x17=>
    .ite (0≤vH∧vH<(s18.2.length:Int))<|
    .mat (s18.2[vH.toNat]?) fun x18=>
    .ite (0≤s18.1∧s18.1<(s18.2.length:Int))<|
    .mat (s18.2[s18.1.toNat]?) fun x19=>
    .ite (0≤qK∧qK<(x19.length:Int))<|
    .mat (x19[qK.toNat]?) fun x20=>
    .mat (FC DV x17 x18 x20) fun r21=>
    .ite (0≤s18.1∧s18.1<(s18.2.length:Int))<|
    .mat (s18.2[s18.1.toNat]?) fun _=>
    let v23:=s18.2.set s18.1.toNat r21
    .ret (.inl (aJ .i64 (s18.1+1),v23)))
    (.ret (.inl (aJ .i64 (s18.1+1),s18.2))))
   (.ret (.inl (aJ .i64 (s18.1+1),s18.2))))
  (.ret (.inr s18.2))
def jE (dJ:Int) (eZ:(Int×(Int×Unit))):(Int×Int×(List (List Int)))→Tre ((Int×Int×(List (List Int))) ⊕ (Int×(List (List Int)))):=fun s8=>
 .cond (decide (s8.2.1<dJ))
  (.mat (aL (jW s8.2.1 s8.2.2) s8.1) fun l6=>
  .cond (decide (l6=(s8.2.2.length:Int)))
   (.ret (.inl (s8.1,aJ .i64 (s8.2.1+1),s8.2.2)))
   (.ite (0≤l6∧l6<(s8.2.2.length:Int))<|
   .mat (s8.2.2[l6.toNat]?) fun x7=>
   .ite (0≤s8.1∧s8.1<(s8.2.2.length:Int))<|
   .mat (s8.2.2[s8.1.toNat]?) fun x8=>
   .ite (0≤l6∧l6<(s8.2.2.length:Int))<|
   .mat (s8.2.2[l6.toNat]?) fun _=>
   .ite ((.n:K)=.n∧0≤dJ∧dJ=dJ∧dJ*(8:Nat)≤140737488355328∧1≤8)<|
   .ite (0≤s8.2.1∧s8.2.1<(x7.length:Int))<|
   .mat (x7[s8.2.1.toNat]?) fun x10=>
   .mat (dQ eZ x10) fun r11=>
   .mat (FC eZ (List.replicate dJ.toNat (0:Int)) x7 r11) fun r12=>
   .ite (0≤s8.1∧s8.1<((s8.2.2.set l6.toNat x8).length:Int))<|
   .mat ((s8.2.2.set l6.toNat x8)[s8.1.toNat]?) fun _=>
   let v14:=(s8.2.2.set l6.toNat x8).set s8.1.toNat r12
   .mat (aL (jX s8.1 s8.2.1 eZ) (0,v14)) fun l24=>
   .ret (.inl (aJ .i64 (s8.1+1),aJ .i64 (s8.2.1+1),l24))))
  (.ret (.inr (s8.1,s8.2.2)))
def R8 (p0:(Int×(Int×Unit))) (p1:Int) (p2:(List (List Int))):Tre (List (List Int)):=
 .mat (aL (lM p2) (0,[])) fun l3=>
 .mat (aL (jE p1 p0) (0,0,l3)) fun l25=>
 .ite (0≤(0:Int)∧(0:Int)≤l25.1∧l25.1≤(l25.2.length:Int))<|
 .ret ((l25.2.drop 0).take ((l25.1-0).toNat))
def BH (p0:(Int×(Int×Unit))) (p1:Int) (p2:(List (List Int))):Option (List (List Int)):=(R8 p0 p1 p2).run some
-- more
theorem azE{rows:List (List Int)}(hl:rows.length≤1000000)(hr:∀r∈rows,r.length≤1000000):aL (lM rows) (0,[])=some rows:=by
 have key:=kN (xs:=rows) (step:=lM rows) (fun (i:Nat) (acc:List (List Int))=>((i:Int),acc)) (fun _ acc r=>.inl (acc++[id r])) id (fun i acc=>acc.length=i) (by
  intro i acc r h hi
  have hlt:=(List.getElem?_eq_some_iff.1 h).1
  refine ⟨?_,fun a ha=>?_⟩
  ·unfold lM
   dsimp only
   rw [Tre.aA,decide_eq_true (by omega),cond_true,Tre.run_ite,if_pos (by omega),Int.toNat_natCast,ah h,ah (aDe (by have:=hr r (List.mem_of_getElem? h);omega)),Tre.run_ite,if_pos (by unfold bI;omega),Tre.aG,aQ (by omega)]
   rfl
  ·cases ha;simp [hi]) (by
  intro acc _
  unfold lM
  dsimp only
  rw [Tre.aA,decide_eq_false (by omega),cond_false]
  rfl) rows 0 [] rfl (Nat.zero_le _) rfl
 rw [afi,List.map_id] at key
 exact key
theorem azF{c:Nat}{L:List (List Int)}(hc:∀r∈L,c<r.length)(hL:L.length≤1000000):∀(l:List (List Int))(i:Nat),L.drop i=l→i≤L.length →
  aL (jW (c:Int) L) (i:Int)=some (if nI (Dq c) i l<0 then (L.length:Int) else nI (Dq c) i l):=by
 intro l
 induction l with
 |nil=>
  intro i hl hi
  have:i=L.length:=by have:=List.drop_eq_nil_iff.1 hl;omega
  subst this
  refine fE ?_
  unfold jW
  exact dB
 |cons x l ih=>
  intro i hl hi
  have hx:L[i]?=some x:=by
   have:=congrArg (·[0]?) hl
   simpa using this
  have hlt:=(List.getElem?_eq_some_iff.1 hx).1
  have hcx:=hc x (List.mem_of_getElem? hx)
  obtain ⟨y,hy⟩:∃y,x[c]?=some y:=⟨_,List.getElem?_eq_getElem hcx⟩
  have hn:Dq c x = !decide (y=0):=by unfold Dq;rw [hy]
  by_cases h0:y=0
  ·have e:nI (Dq c) i (x::l)=nI (Dq c) (i+1) l:=by simp [nI,hn,h0]
   rw [e,←ih (i+1) (by rw [←List.drop_drop,hl];rfl) (by omega)]
   refine lJ ?_
   unfold jW
   rw [dW hx,Tre.run_ite,if_pos (by omega),Int.toNat_natCast,ah hy,Tre.aA,decide_eq_true h0,cond_true,Tre.aG,aQ (by omega)]
  ·have e:nI (Dq c) i (x::l)=(i:Int):=by simp [nI,hn,h0]
   rw [e,if_neg (by omega)]
   refine fE ?_
   unfold jW
   rw [dW hx,Tre.run_ite,if_pos (by omega),Int.toNat_natCast,ah hy,Tre.aA,decide_eq_false h0,cond_false,Tre.aG]
theorem awM{f:TF3}(hf:aO f=true){n c a:Nat}{own:List Int}{L:List (List Int)}(hc:c<n)(hn:n≤1000000)(h:GR f n L)(hk:L[a]?=some own)(hL:L.length≤1000000) :
  aL (jX (a:Int) (c:Int) f) (0,L)=some (L.mapIdx (oM f c a own)):=by
 obtain ⟨hol,hof⟩:=Ep h hk
 have hak:=(List.getElem?_eq_some_iff.1 hk).1
 have key:=kN (xs:=L) (step:=jX (a:Int) (c:Int) f) (fun (i:Nat) (acc:List (List Int))=>((i:Int),acc)) (fun i acc r=>.inl (acc.set i (oM f c a own i r))) id (fun i acc=>acc.length=L.length∧acc.drop i=L.drop i∧acc[a]?=some own) (by
  intro i acc r hr hi
  have hlt:=(List.getElem?_eq_some_iff.1 hr).1
  obtain ⟨hr1,hr2⟩:=Ep h hr
  have hai:acc[i]?=some r:=by
   have:=congrArg (·[0]?) hi.2.1
   simpa [hr] using this
  obtain ⟨x,hx⟩:∃x,r[c]?=some x:=⟨_,List.getElem?_eq_getElem (by omega)⟩
  have hxf:=hr2 x (List.mem_of_getElem? hx)
  have hset:acc.set i r=acc:=by
   apply List.ext_getElem?
   intro j
   rw [List.getElem?_set]
   split
   ·rename_i h;subst h;simp [show i<acc.length by omega,←hai]
   ·rfl
  refine ⟨?_,fun b hb=>?_⟩
  ·unfold jX
   dsimp only
   rw [Tre.aA,decide_eq_true (by omega),cond_true,Tre.aA]
   by_cases h1:i=a
   ·rw [decide_eq_true (show (i:Int)=(a:Int) by omega),Bool.not_true,cond_false,Tre.aG,aQ (by omega)]
    simp only [oM,hx,h1,decide_true,Bool.true_or,cond_true]
    rw [←h1,hset]
   ·rw [decide_eq_false (show ¬(i:Int)=(a:Int) by omega),Bool.not_false,cond_true,Tre.run_ite,if_pos (by omega),Int.toNat_natCast,ah hai,Tre.run_ite,if_pos (by omega),Int.toNat_natCast,ah hx,Tre.aA]
    by_cases h2:x=0
    ·rw [decide_eq_true h2,Bool.not_true,cond_false,Tre.aG,aQ (by omega)]
     simp only [oM,hx,h2,decide_true,Bool.or_true,cond_true]
     rw [hset]
    ·rw [decide_eq_false h2,Bool.not_false,cond_true,Tre.run_ite,if_pos (by omega),ah hai,Tre.run_ite,if_pos (by omega),Int.toNat_natCast,ah hi.2.2,Tre.run_ite,if_pos (by omega),ah hai,Tre.run_ite,if_pos (by omega),ah hx,ah (aev hf (by omega) (by omega) hof hxf),Tre.run_ite,if_pos (by omega),ah hai,Tre.aG,aQ (by omega)]
     simp only [oM,hx,h1,h2,decide_false,Bool.or_self,cond_false]
     have:ae1 f r own x=(r.zip own).map fun p=>iD .i64 p.1 (gH f x p.2):=by
      unfold ae1
      refine List.map_congr_left fun p hp=>?_
      have h1:=List.of_mem_zip (a:=p.1) (b:=p.2) hp
      rw [(Dp hf (hof _ h1.2) hxf).2]
     rw [this]
  ·cases hb
   refine ⟨by simp [hi.1],?_,?_⟩
   ·rw [List.drop_set_of_lt (by omega),←List.drop_drop,←List.drop_drop,hi.2.1]
   ·by_cases h1:i=a
    ·subst h1
     rw [List.getElem?_set_self (by omega)]
     rw [hr] at hk;cases hk
     simp only [oM,hx,decide_true,Bool.true_or,cond_true]
    ·rw [List.getElem?_set_ne h1];exact hi.2.2) (by
  rintro acc ⟨hl,_⟩
  unfold jX
  dsimp only
  rw [Tre.aA,decide_eq_false (by omega),cond_false]
  rfl) L 0 L rfl (Nat.zero_le _) ⟨rfl,rfl,hk⟩
 rw [akD _ _ _ _ _ (by simp)] at key
 simpa using key
theorem ayi{f:TF3}(hf:aO f=true){x:Int}(hx:inF f x):∀{w:List Int},(∀y∈w,inF f y)→ae1 f (List.replicate w.length 0) w x=w.map fun y=>gH f y x:=by
 intro w
 induction w with
 |nil=>intro _;rfl
 |cons y w ih=>
  intro h
  have:=ih (fun z hz=>h z (List.mem_cons_of_mem _ hz))
  unfold ae1 at this ⊢
  simp only [List.length_cons,List.replicate_succ,List.zip_cons_cons,List.map_cons]
  rw [this,qA hf (Dp hf (h y (List.mem_cons_self ..)) hx).1]
theorem azH{f:TF3}(hf:aO f=true){n c:Nat}(hc:c<n)(hn:n≤1000000)(s:Nat×List (List Int))(h:GR f n s.2)(hL:s.2.length≤1000000)(ha:s.1≤s.2.length) :
  (jE (n:Int) f ((s.1:Int),(c:Int),s.2)).run some=some (.inl (((iY f c s).1:Int),((c+1:Nat):Int),(iY f c s).2)):=by
 obtain ⟨a,L⟩:=s
 dsimp only at h hL ha
 have hfd:=azF (c:=c) (fun r hr=>by rw [(h r hr).1];exact hc) hL (L.drop a) a rfl ha
 unfold jE
 dsimp only
 rw [Tre.aA,decide_eq_true (by omega),cond_true,ah hfd,Tre.aA]
 unfold iY
 dsimp only
 rcases yT (Dq c) (L.drop a) a with ⟨h1,_⟩|⟨k,row,h1,h2,h3⟩
 ·rw [h1,if_pos (by decide),decide_eq_true rfl,show decide ((-1:Int)<0)=true from rfl,cond_true,cond_true,Tre.aG,aQ (by omega)]
 ·have hak:L[a+k]?=some row:=by rw [←h1,List.getElem?_drop]
  have hlt:=(List.getElem?_eq_some_iff.1 hak).1
  obtain ⟨r0,hr0⟩:∃r0,L[a]?=some r0:=⟨_,List.getElem?_eq_getElem (by omega)⟩
  obtain ⟨hrl,hrf⟩:=Ep h hak
  obtain ⟨x,hx,hx0⟩:=aqS h2
  have hxf:=hrf x (List.mem_of_getElem? hx)
  have hxi:=(uP hf hxf).1
  rw [h3,if_neg (by omega),decide_eq_false (by omega),decide_eq_false (by omega),cond_false,cond_false]
  rw [Tre.run_ite,if_pos (by omega),Int.toNat_natCast,ah hak,Tre.run_ite,if_pos (by omega),Int.toNat_natCast,ah hr0,Tre.run_ite,if_pos (by omega),ah hak,Tre.run_ite,if_pos ⟨rfl,by omega,rfl,by omega,by decide⟩,Tre.run_ite,if_pos (by omega),Int.toNat_natCast,ah hx,ah (ax6 hf hxf),Int.toNat_natCast]
  rw [ah (aev hf (by simp [hrl]) (by simp;omega) hrf hxi),←hrl,ayi hf hxi hrf]
  have hg:(L.set (a+k) r0)[a]?=some r0:=by
   rw [List.getElem?_set]
   split
   ·first|rfl|rw [if_pos (by omega)]
   ·exact hr0
  simp only [List.length_set]
  rw [Tre.run_ite,if_pos (by omega),ah hg]
  have hp:UG f c (a+k) a L=(L.set (a+k) r0).set a (row.map fun y=>gH f y (zV f x)):=by
   unfold UG ab3
   rw [hak,hr0]
   simp only [hx]
  have hpg:=ajU (c:=c) (k:=a+k) (a:=a) hf h
  rw [hp] at hpg ⊢
  have hpa:((L.set (a+k) r0).set a (row.map fun y=>gH f y (zV f x)))[a]?=some (row.map fun y=>gH f y (zV f x)):=List.getElem?_set_self (by simp;omega)
  generalize hG:(L.set (a+k) r0).set a (row.map fun y=>gH f y (zV f x))=G at hpg hpa
  rw [ah (awM hf hc hn hpg.1 hpa (by omega)),Tre.aG,aQ (by omega),aQ (by omega)]
  unfold FR
  rw [hpa]
theorem azG{f:TF3}(hf:aO f=true){n:Nat}(hn:n≤1000000):∀(m c:Nat)(s:Nat×List (List Int)),c+m=n→GR f n s.2→s.2.length≤1000000→s.1≤s.2.length→aL (jE (n:Int) f) ((s.1:Int),(c:Int),s.2)=some (((gT f c m s).1:Int),(gT f c m s).2):=by
 intro m
 induction m with
 |zero=>
  intro c s hc h hL ha
  have hc:c=n:=hc
  subst hc
  refine fE ?_
  unfold jE
  exact dB
 |succ m ih=>
  intro c s hc h hL ha
  rw [lJ (azH hf (by omega) hn s h hL ha)]
  have h1:=IK (c:=c) hf h ha
  exact ih (c+1) _ (by omega) h1.1 (by omega) (by omega)
theorem aDl{f:TF3}(hf:aO f=true){n:Nat}(hn:n≤1000000){L:List (List Int)}(h:GR f n L)(hL:L.length≤1000000):BH f (n:Int) L=some (Eu f n L):=by
 have hl:=azG hf hn n 0 (0,L) (by omega) h hL (Nat.zero_le _)
 have hk:=Qo hf n 0 (0,L) h (Nat.zero_le _)
 have hl:aL (jE (n:Int) f) (0,0,L)=_:=hl
 unfold BH R8
 rw [ah (azE hL (fun r hr=>by rw [(h r hr).1];exact hn)),ah hl,Tre.run_ite,if_pos (by have:=hk.2.1;have:=hk.2.2;dsimp only at *;omega),Tre.aG]
 unfold Eu
 simp
def iH:Env:=⟨tau,[(108,ahI),(117,JO),(38,ah3)],[(2,[((9,0),[],true)])]⟩
def kI:Code:=(Tryz.f88.body).getD .skip
def Ka (dV:Bool) (aX:Int) (bq:(List (List Int))) (dG:(Int×(Int×Unit))):(Int×(List (List Int)))→St:=fun x=>bO [(1,(.i aX)),(2,(.imm dV (.sl .il) bq)),(3,(.ptr (5,0) [])),(7,(.ref (9,0) [])),(8,(.i x.1))] [((5,0),some ⟨true,aP,.own,dG⟩),((9,0),some ⟨false,(.sl .il),(.sl (.imm true)),x.2⟩)]
def Hf (_:Bool) (aX:Int) (_:(List (List Int))) (dG:(Int×(Int×Unit))):(List (List Int))→Ex×St:=fun x=>(.exit 0,bO [(1,(.i aX)),(3,(.ptr (5,0) [])),(7,(.ref (9,0) []))] [((5,0),some ⟨true,aP,.own,dG⟩),((9,0),some ⟨false,(.sl .il),(.sl (.imm true)),x⟩)])
def aeA (s:St):Tre (Ex×St):=
 ay true .n (s.tmps 1) fun d2=>
 bg (.sl .il) (s.tmps 2) fun z5 d4=>
 dR (5,0) [] (s.tmps 3)<|
 dF (9,0) [] (s.tmps 7)<|
 ay true .n (s.tmps 8) fun d9=>
 aZ true aP (s.roots (5,0)) fun m11 d12=>
 asM .own m11<|
 aZ false (.sl .il) (s.roots (9,0)) fun m14 d15=>
 asM (.sl (.imm true)) m14<|
 .mat (aL (lM d4) (d9,d15)) fun x=>.ret (Hf z5 d2 d4 d12 x)
def uh:bA:=⟨([1,2,3,7,8],[(5,0),(9,0)]),([1,3,7],[(5,0),(9,0)]),aeA⟩
def G9 (jd:Int) (Qp:Int) (j4:Int) (Qq:(Int×(Int×Unit))) (xU:(List (List Int))):Int→St:=fun x=>bO [(1,(.i jd)),(3,(.ptr (5,0) [])),(7,(.ref (9,0) [])),(9,(.i Qp)),(10,(.i j4)),(11,(.i x))] [((5,0),some ⟨true,aP,.own,Qq⟩),((9,0),some ⟨false,(.sl .il),(.sl (.imm true)),xU⟩)]
def FD (jd:Int) (Qp:Int) (j4:Int) (Qq:(Int×(Int×Unit))) (xU:(List (List Int))):Int→Ex×St:=fun x=>(.exit 4,bO [(1,(.i jd)),(3,(.ptr (5,0) [])),(7,(.ref (9,0) [])),(9,(.i Qp)),(10,(.i j4)),(11,(.i x))] [((5,0),some ⟨true,aP,.own,Qq⟩),((9,0),some ⟨false,(.sl .il),(.sl (.imm true)),xU⟩)])
def abS (s:St):Tre (Ex×St):=
 ay true .n (s.tmps 1) fun d2=>
 dR (5,0) [] (s.tmps 3)<|
 dF (9,0) [] (s.tmps 7)<|
 ay true .n (s.tmps 9) fun d6=>
 ay true .n (s.tmps 10) fun d8=>
 ay true .n (s.tmps 11) fun d10=>
 aZ true aP (s.roots (5,0)) fun m12 d13=>
 asM .own m12<|
 aZ false (.sl .il) (s.roots (9,0)) fun m15 d16=>
 asM (.sl (.imm true)) m15<|
 .mat (aL (jW d8 d16) d10) fun x=>.ret (FD d2 d6 d8 d13 d16 x)
def rC:bA:=⟨([1,3,7,9,10,11],[(5,0),(9,0)]),([1,3,7,9,10,11],[(5,0),(9,0)]),abS⟩
def He (QD:Int) (vH:Int) (qK:Int) (DV:(Int×(Int×Unit))):(Int×(List (List Int)))→St:=fun x=>bO [(1,(.i QD)),(3,(.ptr (5,0) [])),(7,(.ref (9,0) [])),(9,(.i vH)),(10,(.i qK)),(13,(.i x.1))] [((5,0),some ⟨true,aP,.own,DV⟩),((9,0),some ⟨false,(.sl .il),(.sl (.imm true)),x.2⟩)]
def FE (QD:Int) (vH:Int) (qK:Int) (DV:(Int×(Int×Unit))):(List (List Int))→Ex×St:=fun x=>(.exit 6,bO [(1,(.i QD)),(3,(.ptr (5,0) [])),(7,(.ref (9,0) [])),(9,(.i vH)),(10,(.i qK))] [((5,0),some ⟨true,aP,.own,DV⟩),((9,0),some ⟨false,(.sl .il),(.sl (.imm true)),x⟩)])
def abT (s:St):Tre (Ex×St):=
 ay true .n (s.tmps 1) fun d2=>
 dR (5,0) [] (s.tmps 3)<|
 dF (9,0) [] (s.tmps 7)<|
 ay true .n (s.tmps 9) fun d6=>
 ay true .n (s.tmps 10) fun d8=>
 ay true .n (s.tmps 13) fun d10=>
 aZ true aP (s.roots (5,0)) fun m12 d13=>
 asM .own m12<|
 aZ false (.sl .il) (s.roots (9,0)) fun m15 d16=>
 asM (.sl (.imm true)) m15<|
 .mat (aL (jX d6 d8 d13) (d10,d16)) fun x=>.ret (FE d2 d6 d8 d13 x)
def rD:bA:=⟨([1,3,7,9,10,13],[(5,0),(9,0)]),([1,3,7,9,10],[(5,0),(9,0)]),abT⟩
def Kc (dJ:Int) (eZ:(Int×(Int×Unit))):(Int×Int×(List (List Int)))→St:=fun x=>bO [(1,(.i dJ)),(3,(.ptr (5,0) [])),(7,(.ref (9,0) [])),(9,(.i x.1)),(10,(.i x.2.1))] [((5,0),some ⟨true,aP,.own,eZ⟩),((9,0),some ⟨false,(.sl .il),(.sl (.imm true)),x.2.2⟩)]
def Hg (_:Int) (_:(Int×(Int×Unit))):(Int×(List (List Int)))→Ex×St:=fun x=>(.exit 2,bO [(7,(.ref (9,0) [])),(9,(.i x.1))] [((9,0),some ⟨false,(.sl .il),(.sl (.imm true)),x.2⟩)])
def aeB (s:St):Tre (Ex×St):=
 ay true .n (s.tmps 1) fun d2=>
 dR (5,0) [] (s.tmps 3)<|
 dF (9,0) [] (s.tmps 7)<|
 ay true .n (s.tmps 9) fun d6=>
 ay true .n (s.tmps 10) fun d8=>
 aZ true aP (s.roots (5,0)) fun m10 d11=>
 asM .own m10<|
 aZ false (.sl .il) (s.roots (9,0)) fun m13 d14=>
 asM (.sl (.imm true)) m13<|
 .mat (aL (jE d2 d11) (d6,d8,d14)) fun x=>.ret (Hg d2 d11 x)
def uj:bA:=⟨([1,3,7,9,10],[(5,0),(9,0)]),([7,9],[(9,0)]),aeB⟩
def jo:List (Nat×bA):=[(3,uh),(11,rC),(18,rD),(8,uj)]
theorem XR:∀(dV:Bool)(aX:Int)(bq:(List (List Int)))(dG:(Int×(Int×Unit)))(x:(Int×(List (List Int))))(c:St→Option (Ex×St)),den iH jo (aR kI 0) (Ka dV aX bq dG x) (bR uh.kp uh.kx c)=(lM bq x).run (bS (Ka dV aX bq dG) (Hf dV aX bq dG) c):=fun _ _ _ _ _ _=>by
 kernel_rfl
theorem abU:bP iH jo (aR kI 0) uh:=bV fun _ _ _=>aH fun _=>bZ fun _ _=>gL<|fu<|aH fun _=>bT fun _ _=>tM<|bT fun _ _=>tM<|fun h _ e13 _ e10 e8 e7 e6 e3 e1=>bJ (XR _ _ _ _) h (by subst_vars;exact aM rfl rfl ⟨e1,e3,e6,e7,e8,trivial⟩ ⟨e10,e13,trivial⟩)
theorem UM:∀(jd Qp j4:Int)(Qq:(Int×(Int×Unit)))(xU:(List (List Int)))(x:Int)(c:St→Option (Ex×St)),den iH jo (aR kI 2) (G9 jd Qp j4 Qq xU x) (bR rC.kp rC.kx c)=(jW j4 xU x).run (bS (G9 jd Qp j4 Qq xU) (FD jd Qp j4 Qq xU) c):=fun _ _ _ _ _ _ _=>by
 kernel_rfl
theorem Ze:bP iH jo (aR kI 2) rC:=bV fun _ _ _=>aH fun _=>gL<|fu<|aH fun _=>aH fun _=>aH fun _=>bT fun _ _=>tM<|bT fun _ _=>tM<|fun h _ e14 _ e11 e9 e7 e5 e4 e3 e1=>bJ (UM _ _ _ _ _) h (by subst_vars;exact aM rfl rfl ⟨e1,e3,e4,e5,e7,e9,trivial⟩ ⟨e11,e14,trivial⟩)
theorem UN:∀(QD vH qK:Int)(DV:(Int×(Int×Unit)))(x:(Int×(List (List Int))))(c:St→Option (Ex×St)),den iH jo (aR kI 3) (He QD vH qK DV x) (bR rD.kp rD.kx c)=(jX vH qK DV x).run (bS (He QD vH qK DV) (FE QD vH qK DV) c):=fun _ _ _ _ _ _=>by
 kernel_rfl
theorem Zf:bP iH jo (aR kI 3) rD:=bV fun _ _ _=>aH fun _=>gL<|fu<|aH fun _=>aH fun _=>aH fun _=>bT fun _ _=>tM<|bT fun _ _=>tM<|fun h _ e14 _ e11 e9 e7 e5 e4 e3 e1=>bJ (UN _ _ _ _) h (by subst_vars;exact aM rfl rfl ⟨e1,e3,e4,e5,e7,e9,trivial⟩ ⟨e11,e14,trivial⟩)
theorem XT:∀(dJ:Int)(eZ:(Int×(Int×Unit)))(x:(Int×Int×(List (List Int))))(c:St→Option (Ex×St)),den iH jo (aR kI 1) (Kc dJ eZ x) (bR uj.kp uj.kx c)=(jE dJ eZ x).run (bS (Kc dJ eZ) (Hg dJ eZ) c):=fun _ _ _ _=>by
 kernel_rfl
theorem abV:bP iH jo (aR kI 1) uj:=bV fun _ _ _=>aH fun _=>gL<|fu<|aH fun _=>aH fun _=>bT fun _ _=>tM<|bT fun _ _=>tM<|fun h _ e12 _ e9 e7 e5 e4 e3 e1=>bJ (XT _ _) h (by subst_vars;exact aM rfl rfl ⟨e1,e3,e4,e5,e7,trivial⟩ ⟨e9,e12,trivial⟩)
def amU:FnI:=fnI Tryz.f88 jo
def PG (_:Bool) (_:(Int×(Int×Unit))) (_:Int) (_:(List (List Int))):(List (List Int))→au:=fun r=>⟨(.ref (1,0) []),[],[⟨false,(.sl .il),(.sl (.imm true)),r⟩]⟩
theorem ajx:∀(zp0:Bool)(p0:(Int×(Int×Unit)))(p1:Int)(p2:(List (List Int))),bL iH amU ⟨[(.imm true aP p0),(.i p1),(.imm zp0 (.sl .il) p2)],[]⟩=(R8 p0 p1 p2).run fun r=>some (PG zp0 p0 p1 p2 r):=fun _ _ _ _=>by kernel_rfl
def amT (av:List AV) (rs:List Root):Tre au:=
 aD av fun a0_ av0=>
 aD av0 fun a1_ av1=>
 aD av1 fun a2_ av2=>
 aN av2<|
 aN rs<|
 ay true aP a0_ fun d1=>
 ay true .n a1_ fun d2=>
 bg (.sl .il) a2_ fun z4 d3=>
 .mat (BH d1 d2 d3) fun r=>.ret (PG z4 d1 d2 d3 r)
def XQ:Ctr:=dD [] amT
theorem ajy:Contract Tryz.prog .none 88 XQ:=aB (V:=iH) aV (ak aq5 afg (ak Tv aAz (ak aru aDW aI))) Tryz.func88 (bD (n:=4) fun k hk=>by
 match k,hk with
 |0,_=>exact bF (id:=3) abU
 |1,_=>exact bF (id:=8) abV
 |2,_=>exact bF (id:=11) Ze
 |3,_=>exact bF (id:=18) Zf) fun _ _ _=>aK fun _ _=>aK fun _ _=>aK fun _ _=>bn<|bn<|aH fun _=>aH fun _=>bZ fun _ _=>fun h=>by intros;subst_vars;exact bB (ajx _ _ _ _) h
def zH (aS:List Int) (bK:Int):Int→Tre (Int ⊕ (Bool ⊕ Unit)):=fun s2=>
 .cond (decide (s2<(aS.length:Int)))
  (.ite (0≤s2∧s2<(aS.length:Int))<|
  .mat (aS[s2.toNat]?) fun x1=>
  .cond (decide (x1=bK))
   (.ret (.inr (.inl true)))
   (.ret (.inl (aJ .i64 (s2+1)))))
  (.ret (.inr (.inr ())))
def al4 (p0:List Int) (p1:Int):Tre Bool:=
 .mat (aL (zH p0 p1) 0) fun l2=>
 .alt l2
  (fun a3=>
   .ret a3)
  (fun _=>
   .ret false)
def RN (p0:List Int) (p1:Int):Option Bool:=(al4 p0 p1).run some
def RO:Env:=⟨tau,[],[]⟩
def al5:Code:=(Tryz.f89.body).getD .skip
def JK (eF:Bool) (aS:List Int) (bK:Int):Int→St:=fun x=>bO [(0,(.imm eF .il aS)),(1,(.i bK)),(5,(.i x))] []
def yw (_:Bool) (_:List Int) (_:Int):(Bool ⊕ Unit)→Ex×St
 |.inl x=>(.ret,bO [(4,(.imm true .bool x))] [])
 |.inr _=>(.exit 0,bO [(4,.dead)] [])
def ZW (s:St):Tre (Ex×St):=
 bg .il (s.tmps 0) fun z3 d2=>
 ay true .n (s.tmps 1) fun d5=>
 ay true .n (s.tmps 5) fun d7=>
 .mat (aL (zH d2 d5) d7) fun x=>.alt x (fun a0=>.ret (yw z3 d2 d5 (.inl a0))) (fun b0=>.ret (yw z3 d2 d5 (.inr b0)))
def xM:bA:=⟨([0,1,5],[]),([4],[]),ZW⟩
def abz:List (Nat×bA):=[(2,xM)]
theorem ags:∀(eF:Bool)(aS:List Int)(bK x:Int)(c:St→Option (Ex×St)),den RO abz (aR al5 0) (JK eF aS bK x) (bR xM.kp xM.kx c)=(zH aS bK x).run (bS (JK eF aS bK) (yw eF aS bK) c):=fun _ _ _ _ _=>by
 kernel_rfl
theorem al7:bP RO abz (aR al5 0) xM:=fP fun s e s' h=>by
 generalize hs:restrict xM.kp s=s1 at h
 have h:(ZW s1).run some=some (e,s'):=h
 obtain ⟨z3,d2,e1,h_0⟩:=fG h
 obtain ⟨d5,e4,h_1⟩:=cu h_0
 obtain ⟨d7,e6,h_2⟩:=cu h_1
 obtain ⟨y,hy,hz⟩:=iE h_2
 refine ⟨_,_,JK z3 d2 d5,yw z3 d2 d5,zH d2 d5,d7,y,?_,hy,?_,ags z3 d2 d5⟩
 ·subst hs;exact aM (T:=[(0,(.imm z3 .il d2)),(1,(.i d5)),(5,(.i d7))]) (U:=[]) rfl rfl ⟨e1,e4,e6,trivial⟩ trivial
 ·rcases y with x|x<;>exact Option.some.inj hz
def awr:FnI:=fnI Tryz.f89 abz
def adX (_:Bool) (_:List Int) (_:Int):Bool→au:=fun r=>⟨(.imm true .bool r),[],[]⟩
theorem aua:∀(zp0:Bool)(p0:List Int)(p1:Int),bL RO awr ⟨[(.imm zp0 .il p0),(.i p1)],[]⟩=(al4 p0 p1).run fun r=>some (adX zp0 p0 p1 r):=fun _ _ _=>by kernel_rfl
def awq (av:List AV) (rs:List Root):Tre au:=
 aD av fun a0_ av0=>
 aD av0 fun a1_ av1=>
 aN av1<|
 aN rs<|
 bg .il a0_ fun z2 d1=>
 ay true .n a1_ fun d3=>
 .mat (RN d1 d3) fun r=>.ret (adX z2 d1 d3 r)
def al6:Ctr:=dD [] awq
theorem aub:Contract Tryz.prog .none 89 al6:=aB (V:=RO) aV aI Tryz.func89 (bD (n:=1) fun k hk=>by
 match k,hk with
 |0,_=>exact bF (id:=2) al7) fun _ _ _=>aK fun _ _=>aK fun _ _=>bn<|bn<|bZ fun _ _=>aH fun _=>fun h=>by intros;subst_vars;exact bB (aua _ _ _) h
def sK (p0:List Int) (p1:Int):Tre Bool:=
 .ite (0≤p1∧p1<(p0.length:Int))<|
 .mat (p0[p1.toNat]?) fun x1=>
 .ret (!decide (x1=0))
def kS (p0:List Int) (p1:Int):Option Bool:=(sK p0 p1).run some
-- more
theorem aFz{r:List Int}{c:Nat}(h:c<r.length):kS r (c:Int)=some (Dq c r):=by
 unfold kS sK
 have hx:=List.getElem?_eq_getElem h
 rw [Tre.run_ite,if_pos ⟨by omega,by omega⟩,Int.toNat_natCast,ah hx,Tre.aG]
 unfold Dq
 rw [hx]
def za:Env:=⟨tau,[],[]⟩
def Om:FnI:=fnI Tryz.f123 []
def wE (_:Bool) (_:List Int) (p1:Int):Bool→au:=fun r=>⟨(.imm true .bool r),[⟨true,.n,.own,p1⟩],[]⟩
theorem MZ:∀(zp0:Bool)(p0:List Int)(p1:Int),bL za Om ⟨[(.imm zp0 .il p0),(.ptr (0,0) [])],[⟨true,.n,.own,p1⟩]⟩=(sK p0 p1).run fun r=>some (wE zp0 p0 p1 r):=fun _ _ _=>by kernel_rfl
def Ol (av:List AV) (rs:List Root):Tre au:=
 aD av fun a0_ av0=>
 aD av0 fun a1_ av1=>
 aN av1<|
 aD rs fun r0_ rs0=>
 aN rs0<|
 bg .il a0_ fun z2 d1=>
 dR (0,0) [] a1_<|
 wQ true .n r0_ fun m3 d4=>
 asM .own m3<|
 .mat (kS d1 d4) fun r=>.ret (wE z2 d1 d4 r)
def ze:Ctr:=dD [] Ol
theorem M4:Contract Tryz.prog .none 123 ze:=aB (V:=za) aV aI Tryz.func123 bN fun _ _ _=>aK fun _ _=>aK fun _ _=>bn<|aK fun _ _=>bn<|bZ fun _ _=>gL<|tRt fun _ _=>tM<|fun h=>by intros;subst_vars;exact bB (MZ _ _ _) h
def af8 (aS:(List (List Int))) (bK:Int) (bM:Int):Int→Tre (Int ⊕ (Int ⊕ Unit)):=fun s2=>
 .cond (decide (s2<bK))
  (.ite (0≤s2∧s2<(aS.length:Int))<|
  .mat (aS[s2.toNat]?) fun x1=>
  .mat (kS x1 bM) fun r2=>
  .cond r2
   (.ret (.inr (.inl s2)))
   (.ret (.inl (aJ .i64 (s2+1)))))
  (.ret (.inr (.inr ())))
def nm4 (p0:(List (List Int))) (p1:Int):Tre Int:=
 .mat (aL (af8 p0 (p0.length:Int) p1) 0) fun l3=>
 .alt l3
  (fun a4=>
   .ret a4)
  (fun _=>
   .ret (-1))
def axK (p0:(List (List Int))) (p1:Int):Option Int:=(nm4 p0 p1).run some
-- more
theorem aDh{xs:List (List Int)}{c:Nat}(hc:∀r∈xs,c<r.length)(hl:xs.length≤1048576):axK xs (c:Int)=some (nI (Dq c) 0 xs):=by
 unfold axK nm4
 rw [Tre.jl,vF (xs:=xs) (fun i x=>cond (Dq c x) (some (.inl (i:Int))) none) (.inr ())]
 ·rw [Option.bind_some,←NZ (p:=fun x=>Dq c x)]
  generalize Gq _ _ _ _=r
  cases r<;>rfl
 ·intro i x hx
  have hi:i<xs.length:=(List.getElem?_eq_some_iff.1 hx).1
  unfold af8
  rw [dW hx,ah (aFz (hc x (List.mem_of_getElem? hx))),Tre.aA]
  cases Dq c x
  ·simp only [cond_false,Tre.aG,aQ (show i<4611686018427387904 by omega)]
  ·rfl
 ·unfold af8
  exact dB
def axL:Env:=⟨tau,[(123,ze)],[]⟩
def aEg:Code:=(Tryz.f122.body).getD .skip
def af9 (eF:Bool) (aS:(List (List Int))) (bK:Int) (bM:Int):Int→St:=fun x=>bO [(0,(.imm eF (.sl .il) aS)),(1,(.fn 123 [(0,0)])),(7,(.i bK)),(8,(.i x))] [((0,0),some ⟨true,.n,.own,bM⟩)]
def RB (_:Bool) (_:(List (List Int))) (_:Int) (bM:Int):(Int ⊕ Unit)→Ex×St
 |.inl x=>(.ret,bO [(4,(.i x))] [((0,0),some ⟨true,.n,.own,bM⟩)])
 |.inr _=>(.exit 0,bO [(4,.dead)] [((0,0),some ⟨true,.n,.own,bM⟩)])
def atL (s:St):Tre (Ex×St):=
 bg (.sl .il) (s.tmps 0) fun z3 d2=>
 Ua 123 [(0,0)] (s.tmps 1)<|
 ay true .n (s.tmps 7) fun d6=>
 ay true .n (s.tmps 8) fun d8=>
 aZ true .n (s.roots (0,0)) fun m10 d11=>
 asM .own m10<|
 .mat (aL (af8 d2 d6 d11) d8) fun x=>.alt x (fun a0=>.ret (RB z3 d2 d6 d11 (.inl a0))) (fun b0=>.ret (RB z3 d2 d6 d11 (.inr b0)))
def WM:bA:=⟨([0,1,7,8],[(0,0)]),([4],[(0,0)]),atL⟩
def aBo:List (Nat×bA):=[(2,WM)]
theorem atM:∀(eF:Bool)(aS:(List (List Int)))(bK bM x:Int)(c:St→Option (Ex×St)),den axL aBo (aR aEg 0) (af9 eF aS bK bM x) (bR WM.kp WM.kx c)=(af8 aS bK bM x).run (bS (af9 eF aS bK bM) (RB eF aS bK bM) c):=fun _ _ _ _ _ _=>by
 kernel_rfl
theorem aze:bP axL aBo (aR aEg 0) WM:=fP fun s e s' h=>by
 generalize hs:restrict WM.kp s=s1 at h
 have h:(atL s1).run some=some (e,s'):=h
 obtain ⟨z3,d2,e1,h_0⟩:=fG h
 obtain ⟨e4,h_1⟩:=CJ h_0
 obtain ⟨d6,e5,h_2⟩:=cu h_1
 obtain ⟨d8,e7,h_3⟩:=cu h_2
 obtain ⟨m10,d11,e9,h_4⟩:=gQ h_3
 obtain ⟨rfl,h_5⟩:=uI h_4
 obtain ⟨y,hy,hz⟩:=iE h_5
 refine ⟨_,_,af9 z3 d2 d6 d11,RB z3 d2 d6 d11,af8 d2 d6 d11,d8,y,?_,hy,?_,atM z3 d2 d6 d11⟩
 ·subst hs;exact aM (T:=[(0,(.imm z3 (.sl .il) d2)),(1,(.fn 123 [(0,0)])),(7,(.i d6)),(8,(.i d8))]) (U:=[((0,0),some ⟨true,.n,.own,d11⟩)]) rfl rfl ⟨e1,e4,e5,e7,trivial⟩ ⟨e9,trivial⟩
 ·rcases y with x|x<;>exact Option.some.inj hz
def aG5:FnI:=fnI Tryz.f122 aBo
def axM (_:Bool) (_:(List (List Int))) (p1:Int):Int→au:=fun r=>⟨(.i r),[⟨true,.n,.own,p1⟩],[]⟩
theorem aFo:∀(zp0:Bool)(p0:(List (List Int)))(p1:Int),bL axL aG5 ⟨[(.imm zp0 (.sl .il) p0),(.fn 123 [(0,0)])],[⟨true,.n,.own,p1⟩]⟩=(nm4 p0 p1).run fun r=>some (axM zp0 p0 p1 r):=fun _ _ _=>by kernel_rfl
def aG4 (av:List AV) (rs:List Root):Tre au:=
 aD av fun a0_ av0=>
 aD av0 fun a1_ av1=>
 aN av1<|
 aD rs fun r0_ rs0=>
 aN rs0<|
 bg (.sl .il) a0_ fun z2 d1=>
 Ua 123 [(0,0)] a1_<|
 wQ true .n r0_ fun m3 d4=>
 asM .own m3<|
 .mat (axK d1 d4) fun r=>.ret (axM z2 d1 d4 r)
def aEh:Ctr:=dD [] aG4
theorem aFp:Contract Tryz.prog .none 122 aEh:=aB (V:=axL) aV (ak M4 aER aI) Tryz.func122 (bD (n:=1) fun k hk=>by
 match k,hk with
 |0,_=>exact bF (id:=2) aze) fun _ _ _=>aK fun _ _=>aK fun _ _=>bn<|aK fun _ _=>bn<|bZ fun _ _=>tFn<|tRt fun _ _=>tM<|fun h=>by intros;subst_vars;exact bB (aFo _ _ _) h
def MW (p0:(Int×(Int×Unit))):Tre Int:=
 .ite (0≤p0.1)<|
 .ret (F7 .i64 1 p0.1)
def rM (p0:(Int×(Int×Unit))):Option Int:=(MW p0).run some
def Sz:Env:=⟨tau,[],[]⟩
def ais:FnI:=fnI Tryz.f95 []
def Lh (_:(Int×(Int×Unit))):Int→au:=fun r=>⟨(.i r),[],[]⟩
theorem afn:∀(p0:(Int×(Int×Unit))),bL Sz ais ⟨[(.imm true aP p0)],[]⟩=(MW p0).run fun r=>some (Lh p0 r):=fun _=>by kernel_rfl
def air (av:List AV) (rs:List Root):Tre au:=
 aD av fun a0_ av0=>
 aN av0<|
 aN rs<|
 ay true aP a0_ fun d1=>
 .mat (rM d1) fun r=>.ret (Lh d1 r)
def FV:Ctr:=dD [] air
theorem Ob:Contract Tryz.prog .none 95 FV:=aB (V:=Sz) aV aI Tryz.func95 bN fun _ _ _=>aK fun _ _=>bn<|bn<|aH fun _=>fun h=>by intros;subst_vars;exact bB (afn _) h
def CW (bM:(Int×(Int×Unit))):(Int×Int×Int)→Tre ((Int×Int×Int) ⊕ Int):=fun s2=>
 .cond (decide (s2.2.1>0))
  (.cond (decide (Rj .i64 s2.2.1 1=1))
   (.mat (cK bM s2.2.2 s2.1) fun r1=>
   .mat (cK bM s2.1 s2.1) fun r2=>
   .ret (.inl (r2,OU .i64 s2.2.1 1,r1)))
   (.mat (cK bM s2.1 s2.1) fun r3=>
   .ret (.inl (r3,OU .i64 s2.2.1 1,s2.2.2))))
  (.ret (.inr s2.2.2))
def Zx (p0:(Int×(Int×Unit))) (p1:Int) (p2:Int):Tre Int:=
 .mat (aL (CW p0) (p1,p2,1)) fun l4=>
 .ret l4
def SE (p0:(Int×(Int×Unit))) (p1:Int) (p2:Int):Option Int:=(Zx p0 p1 p2).run some
def xX:Env:=⟨tau,[(75,oN)],[]⟩
def SF:Code:=(Tryz.f113.body).getD .skip
def Gt (bM:(Int×(Int×Unit))):(Int×Int×Int)→St:=fun x=>bO [(1,(.i x.1)),(2,(.i x.2.1)),(3,(.ptr (5,0) [])),(7,(.i x.2.2))] [((5,0),some ⟨true,aP,.own,bM⟩)]
def EC (_:(Int×(Int×Unit))):Int→Ex×St:=fun x=>(.exit 0,bO [(7,(.i x))] [])
def aaP (s:St):Tre (Ex×St):=
 ay true .n (s.tmps 1) fun d2=>
 ay true .n (s.tmps 2) fun d4=>
 dR (5,0) [] (s.tmps 3)<|
 ay true .n (s.tmps 7) fun d7=>
 aZ true aP (s.roots (5,0)) fun m9 d10=>
 asM .own m9<|
 .mat (aL (CW d10) (d2,d4,d7)) fun x=>.ret (EC d10 x)
def qN:bA:=⟨([1,2,3,7],[(5,0)]),([7],[]),aaP⟩
def FW:List (Nat×bA):=[(2,qN)]
theorem Ug:∀(bM:(Int×(Int×Unit)))(x:(Int×Int×Int))(c:St→Option (Ex×St)),den xX FW (aR SF 0) (Gt bM x) (bR qN.kp qN.kx c)=(CW bM x).run (bS (Gt bM) (EC bM) c):=fun _ _ _=>by
 kernel_rfl
theorem YB:bP xX FW (aR SF 0) qN:=bV fun _ _ _=>aH fun _=>aH fun _=>gL<|aH fun _=>bT fun _ _=>tM<|fun h _ e8 e6 e5 e3 e1=>bJ (Ug _) h (by subst_vars;exact aM rfl rfl ⟨e1,e3,e5,e6,trivial⟩ ⟨e8,trivial⟩)
def aiu:FnI:=fnI Tryz.f113 FW
def Lm (_:(Int×(Int×Unit))) (_:Int) (_:Int):Int→au:=fun r=>⟨(.i r),[],[]⟩
theorem aft:∀(p0:(Int×(Int×Unit)))(p1 p2:Int),bL xX aiu ⟨[(.imm true aP p0),(.i p1),(.i p2)],[]⟩=(Zx p0 p1 p2).run fun r=>some (Lm p0 p1 p2 r):=fun _ _ _=>by kernel_rfl
def ait (av:List AV) (rs:List Root):Tre au:=
 aD av fun a0_ av0=>
 aD av0 fun a1_ av1=>
 aD av1 fun a2_ av2=>
 aN av2<|
 aN rs<|
 ay true aP a0_ fun d1=>
 ay true .n a1_ fun d2=>
 ay true .n a2_ fun d3=>
 .mat (SE d1 d2 d3) fun r=>.ret (Lm d1 d2 d3 r)
def SG:Ctr:=dD [] ait
theorem afu:Contract Tryz.prog .none 113 SG:=aB (V:=xX) aV (ak p8 aoU aI) Tryz.func113 (bD (n:=1) fun k hk=>by
 match k,hk with
 |0,_=>exact bF (id:=2) YB) fun _ _ _=>aK fun _ _=>aK fun _ _=>aK fun _ _=>bn<|bn<|aH fun _=>aH fun _=>aH fun _=>fun h=>by intros;subst_vars;exact bB (aft _ _ _) h
def SB (p0:(Int×(Int×Unit))) (p1:Int):Tre Int:=
 .mat (rM p0) fun r1=>
 .mat (SE p0 p1 (aJ .i64 (r1-2))) fun r2=>
 .ret r2
def dn (p0:(Int×(Int×Unit))) (p1:Int):Option Int:=(SB p0 p1).run some
-- more
set_option maxRecDepth 100000
theorem aE8:zY dn sO 1 2=true:=by kernel_rfl
theorem aE9:zY dn sO 1 3=true:=by kernel_rfl
theorem aFa:zY dn sO 2 7=true:=by kernel_rfl
theorem aCJ:zY dn sO 3 11=true:=by kernel_rfl
theorem aCK:zY dn sO 3 13=true:=by kernel_rfl
theorem aCL:zY dn sO 4 19=true:=by kernel_rfl
theorem aCM:zY dn sO 4 25=true:=by kernel_rfl
theorem aCN:zY dn sO 4 31=true:=by kernel_rfl
theorem aCO:zY dn sO 5 37=true:=by kernel_rfl
theorem aCP:zY dn sO 5 41=true:=by kernel_rfl
theorem aCQ:zY dn sO 5 47=true:=by kernel_rfl
theorem aCR:zY dn sO 5 55=true:=by kernel_rfl
theorem aCS:zY dn sO 5 59=true:=by kernel_rfl
theorem aCT:zY dn sO 5 61=true:=by kernel_rfl
theorem axn{f:TF3}(hf:aO f=true){a:Int}(ha:inF f a):dn f a=some (zV f a):=by
 refine aBz (fun q hq=>?_) hf ha
 simp only [iZ,List.mem_cons,List.not_mem_nil,or_false] at hq
 rcases hq with rfl|rfl|rfl|rfl|rfl|rfl|rfl|rfl|rfl|rfl|rfl|rfl|rfl|rfl
 ·exact aE8
 ·exact aE9
 ·exact aFa
 ·exact aCJ
 ·exact aCK
 ·exact aCL
 ·exact aCM
 ·exact aCN
 ·exact aCO
 ·exact aCP
 ·exact aCQ
 ·exact aCR
 ·exact aCS
 ·exact aCT
def Li:Env:=⟨tau,[(95,FV),(113,SG)],[]⟩
def acE:FnI:=fnI Tryz.f76 []
def Gs (_:(Int×(Int×Unit))) (_:Int):Int→au:=fun r=>⟨(.i r),[],[]⟩
theorem aaM:∀(p0:(Int×(Int×Unit)))(p1:Int),bL Li acE ⟨[(.imm true aP p0),(.i p1)],[]⟩=(SB p0 p1).run fun r=>some (Gs p0 p1 r):=fun _ _=>by kernel_rfl
def acD (av:List AV) (rs:List Root):Tre au:=
 aD av fun a0_ av0=>
 aD av0 fun a1_ av1=>
 aN av1<|
 aN rs<|
 ay true aP a0_ fun d1=>
 ay true .n a1_ fun d2=>
 .mat (dn d1 d2) fun r=>.ret (Gs d1 d2 r)
def Ai:Ctr:=dD [] acD
theorem Ja:Contract Tryz.prog .none 76 Ai:=aB (V:=Li) aV (ak Ob aD5 (ak afu aEK aI)) Tryz.func76 bN fun _ _ _=>aK fun _ _=>aK fun _ _=>bn<|bn<|aH fun _=>aH fun _=>fun h=>by intros;subst_vars;exact bB (aaM _ _) h
def jg (bY:(List (List Int))) (dG:Int):(Int×(List (List Int)))→Tre ((Int×(List (List Int))) ⊕ (List (List Int))):=fun s3=>
 .cond (decide (s3.1<dG))
  (.ite (0≤s3.1∧s3.1<(bY.length:Int))<|
  .mat (bY[s3.1.toNat]?) fun x1=>
  .mat (fQ x1) fun r2=>
  .ite ((s3.2.length+1)*24≤bI∧1≤24)<|
  .ret (.inl (aJ .i64 (s3.1+1),s3.2++([r2]))))
  (.ret (.inr s3.2))
def iK (tq:Nat) (K9:Int) (La:Int) (DL:(Int×(Int×Unit))):(Int×(List (List Int)))→Tre ((Int×(List (List Int))) ⊕ (List (List Int))):=fun s15=>
 .cond (decide (s15.1<La))
  (.mat (s15.2[tq]?) fun x15=>
  .ite (0≤s15.1∧s15.1<(x15.length:Int))<|
  .mat (s15.2[tq]?) fun x16=>
  .mat (x16[s15.1.toNat]?) fun x17=>
  .mat (cK DL x17 K9) fun r18=>
  .mat (s15.2[tq]?) fun x19=>
  .ite (0≤s15.1∧s15.1<(x19.length:Int))<|
  .mat (s15.2[tq]?) fun x20=>
  .mat (x20[s15.1.toNat]?) fun _=>
  let v22:=x20.set s15.1.toNat r18
  .ret (.inl (aJ .i64 (s15.1+1),s15.2.set tq v22)))
  (.ret (.inr s15.2))
def iL (Ae:Nat) (xV:Nat) (Ld:Int) (Le:Int) (xu:(Int×(Int×Unit))):(Int×(List (List Int)))→Tre ((Int×(List (List Int))) ⊕ (List (List Int))):=fun s25=>
 .cond (decide (s25.1<Le))
  (.mat (s25.2[xV]?) fun x29=>
  .ite (0≤s25.1∧s25.1<(x29.length:Int))<|
  .mat (s25.2[xV]?) fun x30=>
  .mat (x30[s25.1.toNat]?) fun x31=>
  .mat (s25.2[Ae]?) fun x32=>
  .ite (0≤s25.1∧s25.1<(x32.length:Int))<|
  .mat (s25.2[Ae]?) fun x33=>
  .mat (x33[s25.1.toNat]?) fun x34=>
  .mat (cK xu Ld x34) fun r35=>
  .mat (s25.2[xV]?) fun x36=>
  .ite (0≤s25.1∧s25.1<(x36.length:Int))<|
  .mat (s25.2[xV]?) fun x37=>
  .mat (x37[s25.1.toNat]?) fun _=>
  let v39:=x37.set s25.1.toNat (iD .i64 x31 r35)
  .ret (.inl (aJ .i64 (s25.1+1),s25.2.set xV v39)))
  (.ret (.inr s25.2))
def fT (DW:Int) (Lb:Nat) (Lc:Int) (DX:(Int×(Int×Unit))) (DY:Int):(Int×(List (List Int)))→Tre ((Int×(List (List Int))) ⊕ (List (List Int))):=fun s20=>
 .cond (decide (s20.1<Lc))
  (.ite (0≤s20.1∧s20.1<(s20.2.length:Int))<|
  .mat (s20.2[s20.1.toNat]?) fun _=>
  .mat (s20.2[s20.1.toNat]?) fun x25=>
  .ite (0≤DY∧DY<(x25.length:Int))<|
  .mat (s20.2[s20.1.toNat]?) fun x26=>
  .mat (x26[DY.toNat]?) fun x27=>
  .cond (!decide (s20.1=DW))
   (.cond (!decide (x27=0))
    (.mat (s20.2[s20.1.toNat]?) fun x28=>
    .mat (aL (iL Lb s20.1.toNat x27 (x28.length:Int) DX) (0,s20.2)) fun l40=>
    .ret (.inl (aJ .i64 (s20.1+1),l40)))
    (.ret (.inl (aJ .i64 (s20.1+1),s20.2))))
   (.ret (.inl (aJ .i64 (s20.1+1),s20.2))))
  (.ret (.inr s20.2))
def gV (dU:Int) (eZ:(Int×(Int×Unit))):(Int×Int×(List (List Int)))→Tre ((Int×Int×(List (List Int))) ⊕ (Int×(List (List Int)))):=fun s8=>
 .cond (decide (s8.2.1<dU))
  (.ite (0≤s8.1∧s8.1≤(s8.2.2.length:Int)∧(s8.2.2.length:Int)≤(s8.2.2.length:Int))<|
  .mat (axK ((s8.2.2.drop s8.1.toNat).take (((s8.2.2.length:Int)-s8.1).toNat)) s8.2.1) fun r4=>
  .cond (decide (r4<0))
   (.ret (.inl (s8.1,aJ .i64 (s8.2.1+1),s8.2.2)))
   (.ite (0≤aJ .i64 (s8.1+r4)∧aJ .i64 (s8.1+r4)<(s8.2.2.length:Int))<|
   .mat (s8.2.2[(aJ .i64 (s8.1+r4)).toNat]?) fun _=>
   .ite (0≤s8.1∧s8.1<(s8.2.2.length:Int))<|
   .mat (s8.2.2[s8.1.toNat]?) fun _=>
   .ite (0≤s8.1∧s8.1<(s8.2.2.length:Int))<|
   .ite (0≤aJ .i64 (s8.1+r4)∧aJ .i64 (s8.1+r4)<(s8.2.2.length:Int))<|
   .ite (Int.ofNat s8.1.toNat=Int.ofNat s8.1.toNat∧Int.ofNat ((aJ .i64 (s8.1+r4)).toNat)=Int.ofNat ((aJ .i64 (s8.1+r4)).toNat))<|
   let v7:=FQ ((aJ .i64 (s8.1+r4)).toNat) s8.1.toNat s8.2.2
   .ite (0≤s8.1∧s8.1<(v7.length:Int))<|
   .mat (v7[s8.1.toNat]?) fun _=>
   .ite (0≤s8.1∧s8.1<(v7.length:Int))<|
   .mat (v7[s8.1.toNat]?) fun _=>
   .mat (v7[s8.1.toNat]?) fun x10=>
   .ite (0≤s8.2.1∧s8.2.1<(x10.length:Int))<|
   .mat (v7[s8.1.toNat]?) fun x11=>
   .mat (x11[s8.2.1.toNat]?) fun x12=>
   .mat (dn eZ x12) fun r13=>
   .mat (v7[s8.1.toNat]?) fun x14=>
   .mat (aL (iK s8.1.toNat r13 (x14.length:Int) eZ) (0,v7)) fun l23=>
   .mat (aL (fT s8.1 s8.1.toNat (l23.length:Int) eZ s8.2.1) (0,l23)) fun l41=>
   .ret (.inl (aJ .i64 (s8.1+1),aJ .i64 (s8.2.1+1),l41))))
  (.ret (.inr (s8.1,s8.2.2)))
def Jd (p0:(Int×(Int×Unit))) (p1:Int) (p2:(List (List Int))):Tre (List (List Int)):=
 .mat (aL (jg p2 (p2.length:Int)) (0,[])) fun l3=>
 .mat (aL (gV p1 p0) (0,0,l3)) fun l42=>
 .ite (0≤(0:Int)∧(0:Int)≤l42.1∧l42.1≤(l42.2.length:Int))<|
 .ret ((l42.2.drop 0).take ((l42.1-0).toNat))
def p9 (p0:(Int×(Int×Unit))) (p1:Int) (p2:(List (List Int))):Option (List (List Int)):=(Jd p0 p1 p2).run some
-- more
theorem akE{α β γ:Type}(g:α→γ)(fin:List γ→β):∀(l:List α)(i:Nat)(acc:List γ),acc.length=i+l.length→nH (fun i acc x=>(.inl (acc.set i (g x)):List γ ⊕ β)) fin i acc l=fin (acc.take i++l.map g):=by
 intro l
 induction l with
 |nil=>intro i acc h;simp only [nH,List.map_nil,List.append_nil];rw [List.take_of_length_le (by simp at h;omega)]
 |cons x l ih=>
  intro i acc h
  simp only [List.length_cons] at h
  simp only [nH]
  rw [ih (i+1) _ (by simp;omega),List.take_add_one]
  simp [show i<acc.length by omega,List.take_set_of_le (Nat.le_refl i)]
theorem azl{f:TF3}(hf:aO f=true){L:List (List Int)}{k:Nat}{row:List Int}(hk:L[k]?=some row)(hn:row.length≤1000000)(hr:∀y∈row,inF f y){x:Int}(hx:inF f x) :
  aL (iK k x (row.length:Int) f) (0,L)=some (L.set k (row.map fun y=>gH f y x)):=by
 have hkl:=(List.getElem?_eq_some_iff.1 hk).1
 have key:=kN (xs:=row) (step:=iK k x (row.length:Int) f) (fun (i:Nat) (acc:List Int)=>((i:Int),L.set k acc)) (fun i acc y=>.inl (acc.set i (gH f y x))) (fun acc=>L.set k acc) (fun i acc=>acc.length=row.length∧acc.drop i=row.drop i) (by
  intro i acc y hy hi
  have hlt:=(List.getElem?_eq_some_iff.1 hy).1
  have hg:(L.set k acc)[k]?=some acc:=by rw [List.getElem?_set_self hkl]
  have hai:acc[i]?=some y:=by
   have:=congrArg (·[0]?) hi.2
   simpa [hy] using this
  refine ⟨?_,fun a ha=>?_⟩
  ·unfold iK
   dsimp only
   rw [Tre.aA,decide_eq_true (by omega),cond_true,ah hg,Tre.run_ite,if_pos (by omega),ah hg,Int.toNat_natCast,ah hai,ah (aqm hf (hr _ (List.mem_of_getElem? hy)) hx),ah hg,Tre.run_ite,if_pos (by omega),ah hg,ah hai,Tre.aG,aQ (by omega),List.set_set]
  ·cases ha
   refine ⟨by simp [hi.1],?_⟩
   rw [List.drop_set_of_lt (by omega),←List.drop_drop,←List.drop_drop,hi.2]) (by
  intro acc _
  unfold iK
  dsimp only
  rw [Tre.aA,decide_eq_false (by omega),cond_false]
  rfl) row 0 row rfl (Nat.zero_le _) ⟨rfl,rfl⟩
 rw [akE _ _ _ _ _ (by simp)] at key
 have h0:L.set k row=L:=by
  apply List.ext_getElem?
  intro j
  rw [List.getElem?_set]
  split
  ·rename_i h;subst h;exact hk.symm
  ·rfl
 rw [h0] at key
 simpa using key
theorem azk{f:TF3}(hf:aO f=true){L:List (List Int)}{k i2:Nat}(hne:k≠i2){own r:List Int}(hk:L[k]?=some own)(h2:L[i2]?=some r)(hl:r.length=own.length)(hn:r.length≤1000000)(hr:∀y∈own,inF f y){x:Int}(hx:inF f x) :
  aL (iL k i2 x (r.length:Int) f) (0,L)=some (L.set i2 ((r.zip own).map fun p=>iD .i64 p.1 (gH f x p.2))):=by
 have hkl:=(List.getElem?_eq_some_iff.1 h2).1
 have key:=kN (xs:=r.zip own) (step:=iL k i2 x (r.length:Int) f) (fun (i:Nat) (acc:List Int)=>((i:Int),L.set i2 acc)) (fun i acc p=>.inl (acc.set i (iD .i64 p.1 (gH f x p.2)))) (fun acc=>L.set i2 acc) (fun i acc=>acc.length=r.length∧acc.drop i=r.drop i) (by
  intro i acc p hp hi
  have hlt:=(List.getElem?_eq_some_iff.1 hp).1
  rw [List.length_zip] at hlt
  obtain ⟨p1,p2⟩:=p
  rw [List.getElem?_zip_eq_some] at hp
  obtain ⟨hp1,hp2⟩:=hp
  have hg:(L.set i2 acc)[i2]?=some acc:=by rw [List.getElem?_set_self hkl]
  have hgk:(L.set i2 acc)[k]?=some own:=by rw [List.getElem?_set_ne (Ne.symm hne)];exact hk
  have hai:acc[i]?=some p1:=by
   have:=congrArg (·[0]?) hi.2
   simpa [hp1] using this
  refine ⟨?_,fun a ha=>?_⟩
  ·unfold iL
   dsimp only
   rw [Tre.aA,decide_eq_true (by omega),cond_true,ah hg,Tre.run_ite,if_pos (by omega),ah hg,Int.toNat_natCast,ah hai,ah hgk,Tre.run_ite,if_pos (by omega),ah hgk,ah hp2,ah (aqm hf hx (hr _ (List.mem_of_getElem? hp2))),ah hg,Tre.run_ite,if_pos (by omega),ah hg,ah hai,Tre.aG,aQ (by omega),List.set_set]
  ·cases ha
   refine ⟨by simp [hi.1],?_⟩
   rw [List.drop_set_of_lt (by omega),←List.drop_drop,←List.drop_drop,hi.2]) (by
  intro acc _
  unfold iL
  dsimp only
  rw [Tre.aA,decide_eq_false (by rw [List.length_zip];omega),cond_false]
  rfl) (r.zip own) 0 r rfl (Nat.zero_le _) ⟨rfl,rfl⟩
 rw [akE _ _ _ _ _ (by simp [hl])] at key
 have h0:L.set i2 r=L:=by
  apply List.ext_getElem?
  intro j
  rw [List.getElem?_set]
  split
  ·rename_i h;subst h;simp [hkl,←h2]
  ·rfl
 rw [h0] at key
 simpa using key
theorem aDf{f:TF3}(hf:aO f=true){L:List (List Int)}{k c:Nat}{own:List Int}(hk:L[k]?=some own)(hL:L.length≤1000000)(hn:own.length≤1000000)(hc:c<own.length)(hl:∀r∈L,r.length=own.length∧∀y∈r,inF f y) :
  aL (fT (k:Int) k (L.length:Int) f (c:Int)) (0,L)=some (L.mapIdx (oM f c k own)):=by
 have hown:=hl own (List.mem_of_getElem? hk)
 have key:=kN (xs:=L) (step:=fT (k:Int) k (L.length:Int) f (c:Int)) (fun (i:Nat) (acc:List (List Int))=>((i:Int),acc)) (fun i acc r=>.inl (acc.set i (oM f c k own i r))) id (fun i acc=>acc.length=L.length∧acc.drop i=L.drop i∧acc[k]?=some own) (by
  intro i acc r hr hi
  have hlt:=(List.getElem?_eq_some_iff.1 hr).1
  obtain ⟨hr1,hr2⟩:=hl r (List.mem_of_getElem? hr)
  have hai:acc[i]?=some r:=by
   have:=congrArg (·[0]?) hi.2.1
   simpa [hr] using this
  obtain ⟨x,hx⟩:∃x,r[c]?=some x:=⟨_,List.getElem?_eq_getElem (by omega)⟩
  have hset:acc.set i r=acc:=by
   apply List.ext_getElem?
   intro j
   rw [List.getElem?_set]
   split
   ·rename_i h;subst h;simp [show i<acc.length by omega,←hai]
   ·rfl
  refine ⟨?_,fun a ha=>?_⟩
  ·unfold fT
   dsimp only
   rw [Tre.aA,decide_eq_true (by omega),cond_true,Tre.run_ite,if_pos (by omega),Int.toNat_natCast,ah hai,ah hai,Tre.run_ite,if_pos (by omega),ah hai,Int.toNat_natCast,ah hx,Tre.aA]
   by_cases h1:i=k
   ·rw [decide_eq_true (show (i:Int)=(k:Int) by omega),Bool.not_true,cond_false,Tre.aG,aQ (by omega)]
    simp only [oM,hx,h1,decide_true,Bool.true_or,cond_true]
    rw [←h1,hset]
   ·rw [decide_eq_false (show ¬(i:Int)=(k:Int) by omega),Bool.not_false,cond_true,Tre.aA]
    by_cases h2:x=0
    ·rw [decide_eq_true h2,Bool.not_true,cond_false,Tre.aG,aQ (by omega)]
     simp only [oM,hx,h2,decide_true,Bool.or_true,cond_true]
     rw [hset]
    ·rw [decide_eq_false h2,Bool.not_false,cond_true,ah hai,ah (azk hf (fun h=>h1 h.symm) hi.2.2 hai hr1 (by omega) hown.2 (hr2 _ (List.mem_of_getElem? hx))),Tre.aG,aQ (by omega)]
     simp only [oM,hx,h1,h2,decide_false,Bool.or_self,cond_false]
  ·cases ha
   refine ⟨by simp [hi.1],?_,?_⟩
   ·rw [List.drop_set_of_lt (by omega),←List.drop_drop,←List.drop_drop,hi.2.1]
   ·by_cases h1:i=k
    ·subst h1
     rw [List.getElem?_set_self (by omega)]
     rw [hr] at hk;cases hk
     simp only [oM,hx,decide_true,Bool.true_or,cond_true]
    ·rw [List.getElem?_set_ne h1];exact hi.2.2) (by
  intro acc _
  unfold fT
  dsimp only
  rw [Tre.aA,decide_eq_false (by omega),cond_false]
  rfl) L 0 L rfl (Nat.zero_le _) ⟨rfl,rfl,hk⟩
 rw [akD _ _ _ _ _ (by simp)] at key
 simpa using key
theorem aBG{rows:List (List Int)}(hl:rows.length≤1000000)(hr:∀r∈rows,r.length≤1000000):aL (jg rows (rows.length:Int)) (0,[])=some rows:=by
 have key:=kN (xs:=rows) (step:=jg rows (rows.length:Int)) (fun (i:Nat) (acc:List (List Int))=>((i:Int),acc)) (fun _ acc r=>.inl (acc++[id r])) id (fun i acc=>acc.length=i) (by
  intro i acc r h hi
  have hlt:=(List.getElem?_eq_some_iff.1 h).1
  refine ⟨?_,fun a ha=>?_⟩
  ·unfold jg
   dsimp only
   rw [Tre.aA,decide_eq_true (by omega),cond_true,Tre.run_ite,if_pos (by omega),Int.toNat_natCast,ah h,ah (show fQ r=some r from Dl (by have:=hr r (List.mem_of_getElem? h);omega)),Tre.run_ite,if_pos (by unfold bI;omega),Tre.aG,aQ (by omega)]
   rfl
  ·cases ha;simp [hi]) (by
  intro acc _
  unfold jg
  dsimp only
  rw [Tre.aA,decide_eq_false (by omega),cond_false]
  rfl) rows 0 [] rfl (Nat.zero_le _) rfl
 rw [afi,List.map_id] at key
 exact key
theorem aBJ{f:TF3}(hf:aO f=true){n c:Nat}(hc:c<n)(hn:n≤1000000)(s:Nat×List (List Int))(h:GR f n s.2)(hL:s.2.length≤1000000)(ha:s.1≤s.2.length) :
  (gV (n:Int) f ((s.1:Int),(c:Int),s.2)).run some=some (.inl (((iY f c s).1:Int),((c+1:Nat):Int),(iY f c s).2)):=by
 obtain ⟨a,L⟩:=s
 dsimp only at h hL ha
 unfold gV
 dsimp only
 have htk:(L.drop a).take (((L.length:Int)-(a:Int)).toNat)=L.drop a:=List.take_of_length_le (by rw [List.length_drop];omega)
 rw [Tre.aA,decide_eq_true (by omega),cond_true,Tre.run_ite,if_pos (by omega),Int.toNat_natCast,htk,ah (aDh (fun r hr=>by rw [(h r (List.mem_of_mem_drop hr)).1];exact hc) (by rw [List.length_drop];omega)),Tre.aA]
 unfold iY
 dsimp only
 rcases yT (Dq c) (L.drop a) 0 with ⟨h1,_⟩|⟨k,row,h1,h2,h3⟩
 ·have h4:=as8 (Dq c) (L.drop a) a 0
  rw [h1,if_pos (by decide)] at h4
  simp only [Nat.add_zero] at h4
  rw [h1,h4]
  simp only [show decide ((-1:Int)<0)=true from rfl,cond_true]
  rw [Tre.aG,aQ (by omega)]
 ·have h4:=as8 (Dq c) (L.drop a) a 0
  rw [h3,if_neg (by omega)] at h4
  simp only [Nat.add_zero,Nat.zero_add] at h4
  have h4:nI (Dq c) a (L.drop a)=((a+k:Nat):Int):=by rw [h4];omega
  have hak:L[a+k]?=some row:=by rw [←h1,List.getElem?_drop]
  have hlt:=(List.getElem?_eq_some_iff.1 hak).1
  obtain ⟨r0,hr0⟩:∃r0,L[a]?=some r0:=⟨_,List.getElem?_eq_getElem (by omega)⟩
  obtain ⟨hrl,hrf⟩:=Ep h hak
  obtain ⟨x,hx,hx0⟩:=aqS h2
  have hxf:=hrf x (List.mem_of_getElem? hx)
  have hsw:FQ (a+k) a L=(L.set (a+k) r0).set a row:=by unfold FQ;rw [hak,hr0]
  have hva:((L.set (a+k) r0).set a row)[a]?=some row:=List.getElem?_set_self (by simp;omega)
  rw [h3,h4]
  simp only [Nat.zero_add]
  have hw:aJ .i64 ((a:Int)+(k:Int))=((a+k:Nat):Int):=by rw [dS (by omega) (by omega)];omega
  rw [hw,Int.toNat_natCast,hsw,decide_eq_false (by omega),decide_eq_false (by omega),cond_false,cond_false]
  rw [Tre.run_ite,if_pos (by omega),ah hak,Tre.run_ite,if_pos (by omega),ah hr0,Tre.run_ite,if_pos (by omega),Tre.run_ite,if_pos (by omega),Tre.run_ite,if_pos (by simp)]
  simp only [List.length_set]
  rw [Tre.run_ite,if_pos (by omega),ah hva,Tre.run_ite,if_pos (by omega),ah hva,ah hva,Tre.run_ite,if_pos (by omega),ah hva,Int.toNat_natCast,ah hx,ah (axn hf hxf),ah hva]
  rw [ah (azl hf hva (by omega) hrf (uP hf hxf).1),List.set_set]
  have hp:UG f c (a+k) a L=(L.set (a+k) r0).set a (row.map fun y=>gH f y (zV f x)):=by
   unfold UG ab3
   rw [hak,hr0]
   simp only [hx]
  have hpg:=ajU (c:=c) (k:=a+k) (a:=a) hf h
  rw [hp] at hpg ⊢
  have hpa:((L.set (a+k) r0).set a (row.map fun y=>gH f y (zV f x)))[a]?=some (row.map fun y=>gH f y (zV f x)):=List.getElem?_set_self (by simp;omega)
  generalize hG:(L.set (a+k) r0).set a (row.map fun y=>gH f y (zV f x))=G at hpg hpa
  have hown:=Ep hpg.1 hpa
  have hcl:aL (fT (a:Int) a (G.length:Int) f (c:Int)) (0,G)=some (G.mapIdx (oM f c a (row.map fun y=>gH f y (zV f x)))):=
   aDf hf hpa (by omega) (by omega) (by omega) (fun r hr=>by rw [hown.1];exact hpg.1 r hr)
  rw [ah hcl,Tre.aG,aQ (by omega),aQ (by omega)]
  unfold FR
  rw [hpa]
theorem aBH{f:TF3}(hf:aO f=true){n:Nat}(hn:n≤1000000):∀(m c:Nat)(s:Nat×List (List Int)),c+m=n→GR f n s.2→s.2.length≤1000000→s.1≤s.2.length→aL (gV (n:Int) f) ((s.1:Int),(c:Int),s.2)=some (((gT f c m s).1:Int),(gT f c m s).2):=by
 intro m
 induction m with
 |zero=>
  intro c s hc h hL ha
  have hc:c=n:=hc
  subst hc
  refine fE ?_
  unfold gV
  exact dB
 |succ m ih=>
  intro c s hc h hL ha
  rw [lJ (aBJ hf (by omega) hn s h hL ha)]
  have h1:=IK (c:=c) hf h ha
  exact ih (c+1) _ (by omega) h1.1 (by omega) (by omega)
theorem axt{f:TF3}(hf:aO f=true){n:Nat}(hn:n≤1000000){L:List (List Int)}(h:GR f n L)(hL:L.length≤1000000):p9 f (n:Int) L=some (Eu f n L):=by
 have hl:=aBH hf hn n 0 (0,L) (by omega) h hL (Nat.zero_le _)
 have hk:=Qo hf n 0 (0,L) h (Nat.zero_le _)
 have hl:aL (gV (n:Int) f) (0,0,L)=_:=hl
 unfold p9 Jd
 rw [ah (aBG hL (fun r hr=>by rw [(h r hr).1];exact hn)),ah hl,Tre.run_ite,if_pos (by have:=hk.2.1;have:=hk.2.2;dsimp only at *;omega),Tre.aG]
 unfold Eu
 simp
def eP:Env:=⟨tau,[(65,kJ),(122,aEh),(76,Ai),(75,oN)],[]⟩
def fJ:Code:=(Tryz.f96.body).getD .skip
def ED (dV:Bool) (aX:Int) (bq:Int) (bY:(List (List Int))) (dG:Int) (fA:(Int×(Int×Unit))):(Int×(List (List Int)))→St:=fun x=>bO [(1,(.i aX)),(3,(.ptr (5,0) [])),(7,(.ref (9,0) [])),(8,(.i bq)),(21,(.imm dV (.sl .il) bY)),(22,(.i dG)),(23,(.i x.1))] [((5,0),some ⟨true,aP,.own,fA⟩),((9,0),some ⟨false,(.sl .il),.own,x.2⟩)]
def Cj (_:Bool) (aX:Int) (bq:Int) (_:(List (List Int))) (_:Int) (fA:(Int×(Int×Unit))):(List (List Int))→Ex×St:=fun x=>(.exit 0,bO [(1,(.i aX)),(3,(.ptr (5,0) [])),(7,(.ref (9,0) [])),(8,(.i bq))] [((5,0),some ⟨true,aP,.own,fA⟩),((9,0),some ⟨false,(.sl .il),.own,x⟩)])
def YC (s:St):Tre (Ex×St):=
 ay true .n (s.tmps 1) fun d2=>
 dR (5,0) [] (s.tmps 3)<|
 dF (9,0) [] (s.tmps 7)<|
 ay true .n (s.tmps 8) fun d6=>
 bg (.sl .il) (s.tmps 21) fun z9 d8=>
 ay true .n (s.tmps 22) fun d11=>
 ay true .n (s.tmps 23) fun d13=>
 aZ true aP (s.roots (5,0)) fun m15 d16=>
 asM .own m15<|
 aZ false (.sl .il) (s.roots (9,0)) fun m18 d19=>
 asM .own m18<|
 .mat (aL (jg d8 d11) (d13,d19)) fun x=>.ret (Cj z9 d2 d6 d8 d11 d16 x)
def o9:bA:=⟨([1,3,7,8,21,22,23],[(5,0),(9,0)]),([1,3,7,8],[(5,0),(9,0)]),YC⟩
def Cg (Qx:Int) (tq:Nat) (K9:Int) (Qy:Int) (Qz:Int) (La:Int) (DL:(Int×(Int×Unit))) (QA:Int):(Int×(List (List Int)))→St:=fun x=>bO [(3,(.ptr (5,0) [])),(7,(.ref (9,0) [])),(8,(.i Qx)),(11,(.ptr (13,0) [])),(13,(.ref (9,0) [.idx tq])),(14,(.i K9)),(33,(.i Qy)),(34,(.i Qz)),(76,(.i La)),(77,(.i x.1))] [((5,0),some ⟨true,aP,.own,DL⟩),((9,0),some ⟨false,(.sl .il),.own,x.2⟩),((13,0),some ⟨true,.n,.own,QA⟩)]
def Aj (Qx:Int) (tq:Nat) (_:Int) (Qy:Int) (Qz:Int) (_:Int) (DL:(Int×(Int×Unit))) (QA:Int):(List (List Int))→Ex×St:=fun x=>(.exit 4,bO [(3,(.ptr (5,0) [])),(7,(.ref (9,0) [])),(8,(.i Qx)),(11,(.ptr (13,0) [])),(13,(.ref (9,0) [.idx tq])),(33,(.i Qy)),(34,(.i Qz))] [((5,0),some ⟨true,aP,.own,DL⟩),((9,0),some ⟨false,(.sl .il),.own,x⟩),((13,0),some ⟨true,.n,.own,QA⟩)])
def Vv (s:St):Tre (Ex×St):=
 dR (5,0) [] (s.tmps 3)<|
 dF (9,0) [] (s.tmps 7)<|
 ay true .n (s.tmps 8) fun d4=>
 dR (13,0) [] (s.tmps 11)<|
 aau (9,0) [.idx 0] (s.tmps 13) fun i7=>
 ay true .n (s.tmps 14) fun d9=>
 ay true .n (s.tmps 33) fun d11=>
 ay true .n (s.tmps 34) fun d13=>
 ay true .n (s.tmps 76) fun d15=>
 ay true .n (s.tmps 77) fun d17=>
 aZ true aP (s.roots (5,0)) fun m19 d20=>
 asM .own m19<|
 aZ false (.sl .il) (s.roots (9,0)) fun m22 d23=>
 asM .own m22<|
 aZ true .n (s.roots (13,0)) fun m25 d26=>
 asM .own m25<|
 .mat (aL (iK i7 d9 d15 d20) (d17,d23)) fun x=>.ret (Aj d4 i7 d9 d11 d13 d15 d20 d26 x)
def nX:bA:=⟨([3,7,8,11,13,14,33,34,76,77],[(5,0),(9,0),(13,0)]),([3,7,8,11,13,33,34],[(5,0),(9,0),(13,0)]),Vv⟩
def Ci (QI:Int) (Ae:Nat) (xV:Nat) (Ld:Int) (QJ:Int) (QK:Int) (QL:Int) (QM:Int) (Le:Int) (xu:(Int×(Int×Unit))) (IU:Int):(Int×(List (List Int)))→St:=fun x=>bO [(3,(.ptr (5,0) [])),(7,(.ref (9,0) [])),(8,(.i QI)),(11,(.ptr (13,0) [])),(13,(.ref (9,0) [.idx Ae])),(17,(.ref (9,0) [.idx xV])),(18,(.i Ld)),(33,(.i QJ)),(34,(.i QK)),(91,(.ref (9,0) [])),(92,(.i QL)),(93,(.i QM)),(110,(.i Le)),(111,(.i x.1))] [((5,0),some ⟨true,aP,.own,xu⟩),((9,0),some ⟨false,(.sl .il),.own,x.2⟩),((13,0),some ⟨true,.n,.own,IU⟩)]
def Al (QI:Int) (Ae:Nat) (_:Nat) (_:Int) (QJ:Int) (QK:Int) (QL:Int) (QM:Int) (_:Int) (xu:(Int×(Int×Unit))) (IU:Int):(List (List Int))→Ex×St:=fun x=>(.exit 8,bO [(3,(.ptr (5,0) [])),(7,(.ref (9,0) [])),(8,(.i QI)),(11,(.ptr (13,0) [])),(13,(.ref (9,0) [.idx Ae])),(33,(.i QJ)),(34,(.i QK)),(91,(.ref (9,0) [])),(92,(.i QL)),(93,(.i QM))] [((5,0),some ⟨true,aP,.own,xu⟩),((9,0),some ⟨false,(.sl .il),.own,x⟩),((13,0),some ⟨true,.n,.own,IU⟩)])
def Vx (s:St):Tre (Ex×St):=
 dR (5,0) [] (s.tmps 3)<|
 dF (9,0) [] (s.tmps 7)<|
 ay true .n (s.tmps 8) fun d4=>
 dR (13,0) [] (s.tmps 11)<|
 aau (9,0) [.idx 0] (s.tmps 13) fun i7=>
 aau (9,0) [.idx 0] (s.tmps 17) fun i9=>
 ay true .n (s.tmps 18) fun d11=>
 ay true .n (s.tmps 33) fun d13=>
 ay true .n (s.tmps 34) fun d15=>
 dF (9,0) [] (s.tmps 91)<|
 ay true .n (s.tmps 92) fun d18=>
 ay true .n (s.tmps 93) fun d20=>
 ay true .n (s.tmps 110) fun d22=>
 ay true .n (s.tmps 111) fun d24=>
 aZ true aP (s.roots (5,0)) fun m26 d27=>
 asM .own m26<|
 aZ false (.sl .il) (s.roots (9,0)) fun m29 d30=>
 asM .own m29<|
 aZ true .n (s.roots (13,0)) fun m32 d33=>
 asM .own m32<|
 .mat (aL (iL i7 i9 d11 d22 d27) (d24,d30)) fun x=>.ret (Al d4 i7 i9 d11 d13 d15 d18 d20 d22 d27 d33 x)
def nZ:bA:=⟨([3,7,8,11,13,17,18,33,34,91,92,93,110,111],[(5,0),(9,0),(13,0)]),([3,7,8,11,13,33,34,91,92,93],[(5,0),(9,0),(13,0)]),Vx⟩
def Ch (DW:Int) (Lb:Nat) (QE:Int) (QF:Int) (Lc:Int) (DX:(Int×(Int×Unit))) (DY:Int):(Int×(List (List Int)))→St:=fun x=>bO [(3,(.ptr (5,0) [])),(7,(.ref (9,0) [])),(8,(.i DW)),(11,(.ptr (13,0) [])),(13,(.ref (9,0) [.idx Lb])),(33,(.i QE)),(34,(.i QF)),(91,(.ref (9,0) [])),(92,(.i Lc)),(93,(.i x.1))] [((5,0),some ⟨true,aP,.own,DX⟩),((9,0),some ⟨false,(.sl .il),.own,x.2⟩),((13,0),some ⟨true,.n,.own,DY⟩)]
def Ak (DW:Int) (_:Nat) (QE:Int) (QF:Int) (_:Int) (DX:(Int×(Int×Unit))) (_:Int):(List (List Int))→Ex×St:=fun x=>(.exit 6,bO [(3,(.ptr (5,0) [])),(7,(.ref (9,0) [])),(8,(.i DW)),(33,(.i QE)),(34,(.i QF))] [((5,0),some ⟨true,aP,.own,DX⟩),((9,0),some ⟨false,(.sl .il),.own,x⟩)])
def Vw (s:St):Tre (Ex×St):=
 dR (5,0) [] (s.tmps 3)<|
 dF (9,0) [] (s.tmps 7)<|
 ay true .n (s.tmps 8) fun d4=>
 dR (13,0) [] (s.tmps 11)<|
 aau (9,0) [.idx 0] (s.tmps 13) fun i7=>
 ay true .n (s.tmps 33) fun d9=>
 ay true .n (s.tmps 34) fun d11=>
 dF (9,0) [] (s.tmps 91)<|
 ay true .n (s.tmps 92) fun d14=>
 ay true .n (s.tmps 93) fun d16=>
 aZ true aP (s.roots (5,0)) fun m18 d19=>
 asM .own m18<|
 aZ false (.sl .il) (s.roots (9,0)) fun m21 d22=>
 asM .own m21<|
 aZ true .n (s.roots (13,0)) fun m24 d25=>
 asM .own m24<|
 .mat (aL (fT d4 i7 d14 d19 d25) (d16,d22)) fun x=>.ret (Ak d4 i7 d9 d11 d14 d19 d25 x)
def nY:bA:=⟨([3,7,8,11,13,33,34,91,92,93],[(5,0),(9,0),(13,0)]),([3,7,8,33,34],[(5,0),(9,0)]),Vw⟩
def EF (dU:Int) (eZ:(Int×(Int×Unit))):(Int×Int×(List (List Int)))→St:=fun x=>bO [(3,(.ptr (5,0) [])),(7,(.ref (9,0) [])),(8,(.i x.1)),(33,(.i dU)),(34,(.i x.2.1))] [((5,0),some ⟨true,aP,.own,eZ⟩),((9,0),some ⟨false,(.sl .il),.own,x.2.2⟩)]
def Ck (_:Int) (_:(Int×(Int×Unit))):(Int×(List (List Int)))→Ex×St:=fun x=>(.exit 2,bO [(7,(.ref (9,0) [])),(8,(.i x.1))] [((9,0),some ⟨false,(.sl .il),.own,x.2⟩)])
def YD (s:St):Tre (Ex×St):=
 dR (5,0) [] (s.tmps 3)<|
 dF (9,0) [] (s.tmps 7)<|
 ay true .n (s.tmps 8) fun d4=>
 ay true .n (s.tmps 33) fun d6=>
 ay true .n (s.tmps 34) fun d8=>
 aZ true aP (s.roots (5,0)) fun m10 d11=>
 asM .own m10<|
 aZ false (.sl .il) (s.roots (9,0)) fun m13 d14=>
 asM .own m13<|
 .mat (aL (gV d6 d11) (d4,d8,d14)) fun x=>.ret (Ck d6 d11 x)
def pq:bA:=⟨([3,7,8,33,34],[(5,0),(9,0)]),([7,8],[(9,0)]),YD⟩
def fB:List (Nat×bA):=[(3,o9),(15,nX),(25,nZ),(20,nY),(8,pq)]
theorem QW:∀(dV:Bool)(aX bq:Int)(bY:(List (List Int)))(dG:Int)(fA:(Int×(Int×Unit)))(x:(Int×(List (List Int))))(c:St→Option (Ex×St)),den eP fB (aR fJ 0) (ED dV aX bq bY dG fA x) (bR o9.kp o9.kx c)=(jg bY dG x).run (bS (ED dV aX bq bY dG fA) (Cj dV aX bq bY dG fA) c):=fun _ _ _ _ _ _ _ _=>by
 kernel_rfl
theorem Vy:bP eP fB (aR fJ 0) o9:=bV fun _ _ _=>aH fun _=>gL<|fu<|aH fun _=>bZ fun _ _=>aH fun _=>aH fun _=>bT fun _ _=>tM<|bT fun _ _=>tM<|fun h _ e17 _ e14 e12 e10 e7 e5 e4 e3 e1=>bJ (QW _ _ _ _ _ _) h (by subst_vars;exact aM rfl rfl ⟨e1,e3,e4,e5,e7,e10,e12,trivial⟩ ⟨e14,e17,trivial⟩)
theorem Oh:∀(Qx:Int)(tq:Nat)(K9 Qy Qz La:Int)(DL:(Int×(Int×Unit)))(QA:Int)(x:(Int×(List (List Int))))(c:St→Option (Ex×St)),den eP fB (aR fJ 2) (Cg Qx tq K9 Qy Qz La DL QA x) (bR nX.kp nX.kx c)=(iK tq K9 La DL x).run (bS (Cg Qx tq K9 Qy Qz La DL QA) (Aj Qx tq K9 Qy Qz La DL QA) c):=fun _ _ _ _ _ _ _ _ _ _=>by
 kernel_rfl
theorem Uh:bP eP fB (aR fJ 2) nX:=bV fun _ _ _=>gL<|fu<|aH fun _=>gL<|aye fun _=>aH fun _=>aH fun _=>aH fun _=>aH fun _=>aH fun _=>bT fun _ _=>tM<|bT fun _ _=>tM<|bT fun _ _=>tM<|fun h _ e24 _ e21 _ e18 e16 e14 e12 e10 e8 e6 e5 e3 e2 e1=>bJ (Oh _ _ _ _ _ _ _ _) h (by subst_vars;exact aM rfl rfl ⟨e1,e2,e3,e5,e6,e8,e10,e12,e14,e16,trivial⟩ ⟨e18,e21,e24,trivial⟩)
theorem Oj:∀(QI:Int)(Ae xV:Nat)(Ld QJ QK QL QM Le:Int)(xu:(Int×(Int×Unit)))(IU:Int)(x:(Int×(List (List Int))))(c:St→Option (Ex×St)),den eP fB (aR fJ 4) (Ci QI Ae xV Ld QJ QK QL QM Le xu IU x) (bR nZ.kp nZ.kx c)=(iL Ae xV Ld Le xu x).run (bS (Ci QI Ae xV Ld QJ QK QL QM Le xu IU) (Al QI Ae xV Ld QJ QK QL QM Le xu IU) c):=fun _ _ _ _ _ _ _ _ _ _ _ _ _=>by
 kernel_rfl
theorem Uj:bP eP fB (aR fJ 4) nZ:=bV fun _ _ _=>gL<|fu<|aH fun _=>gL<|aye fun _=>aye fun _=>aH fun _=>aH fun _=>aH fun _=>fu<|aH fun _=>aH fun _=>aH fun _=>aH fun _=>bT fun _ _=>tM<|bT fun _ _=>tM<|bT fun _ _=>tM<|fun h _ e31 _ e28 _ e25 e23 e21 e19 e17 e16 e14 e12 e10 e8 e6 e5 e3 e2 e1=>bJ (Oj _ _ _ _ _ _ _ _ _ _ _) h (by subst_vars;exact aM rfl rfl ⟨e1,e2,e3,e5,e6,e8,e10,e12,e14,e16,e17,e19,e21,e23,trivial⟩ ⟨e25,e28,e31,trivial⟩)
theorem Oi:∀(DW:Int)(Lb:Nat)(QE QF Lc:Int)(DX:(Int×(Int×Unit)))(DY:Int)(x:(Int×(List (List Int))))(c:St→Option (Ex×St)),den eP fB (aR fJ 3) (Ch DW Lb QE QF Lc DX DY x) (bR nY.kp nY.kx c)=(fT DW Lb Lc DX DY x).run (bS (Ch DW Lb QE QF Lc DX DY) (Ak DW Lb QE QF Lc DX DY) c):=fun _ _ _ _ _ _ _ _ _=>by
 kernel_rfl
theorem Ui:bP eP fB (aR fJ 3) nY:=bV fun _ _ _=>gL<|fu<|aH fun _=>gL<|aye fun _=>aH fun _=>aH fun _=>fu<|aH fun _=>aH fun _=>bT fun _ _=>tM<|bT fun _ _=>tM<|bT fun _ _=>tM<|fun h _ e23 _ e20 _ e17 e15 e13 e12 e10 e8 e6 e5 e3 e2 e1=>bJ (Oi _ _ _ _ _ _ _) h (by subst_vars;exact aM rfl rfl ⟨e1,e2,e3,e5,e6,e8,e10,e12,e13,e15,trivial⟩ ⟨e17,e20,e23,trivial⟩)
theorem QX:∀(dU:Int)(eZ:(Int×(Int×Unit)))(x:(Int×Int×(List (List Int))))(c:St→Option (Ex×St)),den eP fB (aR fJ 1) (EF dU eZ x) (bR pq.kp pq.kx c)=(gV dU eZ x).run (bS (EF dU eZ) (Ck dU eZ) c):=fun _ _ _ _=>by
 kernel_rfl
theorem Vz:bP eP fB (aR fJ 1) pq:=bV fun _ _ _=>gL<|fu<|aH fun _=>aH fun _=>aH fun _=>bT fun _ _=>tM<|bT fun _ _=>tM<|fun h _ e12 _ e9 e7 e5 e3 e2 e1=>bJ (QX _ _) h (by subst_vars;exact aM rfl rfl ⟨e1,e2,e3,e5,e7,trivial⟩ ⟨e9,e12,trivial⟩)
def afw:FnI:=fnI Tryz.f96 fB
def Je (_:Bool) (_:(Int×(Int×Unit))) (_:Int) (_:(List (List Int))):(List (List Int))→au:=fun r=>⟨(.ref (1,0) []),[],[⟨false,(.sl .il),.own,r⟩]⟩
theorem acJ:∀(zp0:Bool)(p0:(Int×(Int×Unit)))(p1:Int)(p2:(List (List Int))),bL eP afw ⟨[(.imm true aP p0),(.i p1),(.imm zp0 (.sl .il) p2)],[]⟩=(Jd p0 p1 p2).run fun r=>some (Je zp0 p0 p1 p2 r):=fun _ _ _ _=>by kernel_rfl
def afv (av:List AV) (rs:List Root):Tre au:=
 aD av fun a0_ av0=>
 aD av0 fun a1_ av1=>
 aD av1 fun a2_ av2=>
 aN av2<|
 aN rs<|
 ay true aP a0_ fun d1=>
 ay true .n a1_ fun d2=>
 bg (.sl .il) a2_ fun z4 d3=>
 .mat (p9 d1 d2 d3) fun r=>.ret (Je z4 d1 d2 d3 r)
def CX:Ctr:=dD [] afv
theorem Lp:Contract Tryz.prog .none 96 CX:=aB (V:=eP) aV (ak nD axf (ak aFp aAB (ak Ja aD1 (ak p8 aoU aI)))) Tryz.func96 (bD (n:=5) fun k hk=>by
 match k,hk with
 |0,_=>exact bF (id:=3) Vy
 |1,_=>exact bF (id:=8) Vz
 |2,_=>exact bF (id:=15) Uh
 |3,_=>exact bF (id:=20) Ui
 |4,_=>exact bF (id:=25) Uj) fun _ _ _=>aK fun _ _=>aK fun _ _=>aK fun _ _=>bn<|bn<|aH fun _=>aH fun _=>bZ fun _ _=>fun h=>by intros;subst_vars;exact bB (acJ _ _ _ _) h
def ZF (p0:(List (List Int))):Tre Int:=
 .ret (p0.length:Int)
def aiN (p0:(List (List Int))):Option Int:=(ZF p0).run some
theorem abe(p0:(List (List Int))):aiN p0=some (p0.length:Int):=rfl
def S9:Env:=⟨tau,[],[]⟩
def aiP:FnI:=fnI Tryz.f97 []
def LM (_:Bool) (_:(List (List Int))):Int→au:=fun r=>⟨(.i r),[],[]⟩
theorem afP:∀(zp0:Bool)(p0:(List (List Int))),bL S9 aiP ⟨[(.imm zp0 (.sl .il) p0)],[]⟩=(ZF p0).run fun r=>some (LM zp0 p0 r):=fun _ _=>by kernel_rfl
def aiO (av:List AV) (rs:List Root):Tre au:=
 aD av fun a0_ av0=>
 aN av0<|
 aN rs<|
 bg (.sl .il) a0_ fun z2 d1=>
 .ret (LM z2 d1 (d1.length:Int))
def Ta:Ctr:=dD [] aiO
theorem afQ:Contract Tryz.prog .none 97 Ta:=aB (V:=S9) aV aI Tryz.func97 bN fun _ _ _=>aK fun _ _=>bn<|bn<|bZ fun _ _=>fun h=>by intros;subst_vars;exact sW (afP _ _) (abe _) h
def Ju (p0:Int):Tre Bool:=
 .ret (!decide (p0=0))
def VU (p0:Int):Option Bool:=(Ju p0).run some
theorem OE(p0:Int):VU p0=some (!decide (p0=0)):=rfl
def EW:Env:=⟨tau,[],[]⟩
def VX:FnI:=fnI Tryz.f137 []
def AL (_:Int):Bool→au:=fun r=>⟨(.imm true .bool r),[],[]⟩
theorem UC:∀(p0:Int),bL EW VX ⟨[(.i p0)],[]⟩=(Ju p0).run fun r=>some (AL p0 r):=fun _=>by kernel_rfl
def VW (av:List AV) (rs:List Root):Tre au:=
 aD av fun a0_ av0=>
 aN av0<|
 aN rs<|
 ay true .n a0_ fun d1=>
 .ret (AL d1 (!decide (d1=0)))
def EX:Ctr:=dD [] VW
theorem UD:Contract Tryz.prog .none 137 EX:=aB (V:=EW) aV aI Tryz.func137 bN fun _ _ _=>aK fun _ _=>bn<|bn<|aH fun _=>fun h=>by intros;subst_vars;exact sW (UC _) (OE _) h
def abr (aS:List Int) (bK:Int):Int→Tre (Int ⊕ (Int ⊕ Unit)):=fun s2=>
 .cond (decide (s2<bK))
  (.ite (0≤s2∧s2<(aS.length:Int))<|
  .mat (aS[s2.toNat]?) fun x1=>
  .cond (!decide (x1=0))
   (.ret (.inr (.inl s2)))
   (.ret (.inl (aJ .i64 (s2+1)))))
  (.ret (.inr (.inr ())))
def nm2 (p0:List Int):Tre Int:=
 .mat (aL (abr p0 (p0.length:Int)) 0) fun l2=>
 .alt l2
  (fun a3=>
   .ret a3)
  (fun _=>
   .ret (-1))
def axE (p0:List Int):Option Int:=(nm2 p0).run some
def axF:Env:=⟨tau,[(137,EX)],[]⟩
def aEc:Code:=(Tryz.f99.body).getD .skip
def af6 (eF:Bool) (aS:List Int) (bK:Int):Int→St:=fun x=>bO [(0,(.imm eF .il aS)),(1,(.fn 137 [])),(7,(.i bK)),(8,(.i x))] []
def Rz (_:Bool) (_:List Int) (_:Int):(Int ⊕ Unit)→Ex×St
 |.inl x=>(.ret,bO [(4,(.i x))] [])
 |.inr _=>(.exit 0,bO [(4,.dead)] [])
def atH (s:St):Tre (Ex×St):=
 bg .il (s.tmps 0) fun z3 d2=>
 Ua 137 [] (s.tmps 1)<|
 ay true .n (s.tmps 7) fun d6=>
 ay true .n (s.tmps 8) fun d8=>
 .mat (aL (abr d2 d6) d8) fun x=>.alt x (fun a0=>.ret (Rz z3 d2 d6 (.inl a0))) (fun b0=>.ret (Rz z3 d2 d6 (.inr b0)))
def WJ:bA:=⟨([0,1,7,8],[]),([4],[]),atH⟩
def aBm:List (Nat×bA):=[(2,WJ)]
theorem atI:∀(eF:Bool)(aS:List Int)(bK x:Int)(c:St→Option (Ex×St)),den axF aBm (aR aEc 0) (af6 eF aS bK x) (bR WJ.kp WJ.kx c)=(abr aS bK x).run (bS (af6 eF aS bK) (Rz eF aS bK) c):=fun _ _ _ _ _=>by
 kernel_rfl
theorem azc:bP axF aBm (aR aEc 0) WJ:=fP fun s e s' h=>by
 generalize hs:restrict WJ.kp s=s1 at h
 have h:(atH s1).run some=some (e,s'):=h
 obtain ⟨z3,d2,e1,h_0⟩:=fG h
 obtain ⟨e4,h_1⟩:=CJ h_0
 obtain ⟨d6,e5,h_2⟩:=cu h_1
 obtain ⟨d8,e7,h_3⟩:=cu h_2
 obtain ⟨y,hy,hz⟩:=iE h_3
 refine ⟨_,_,af6 z3 d2 d6,Rz z3 d2 d6,abr d2 d6,d8,y,?_,hy,?_,atI z3 d2 d6⟩
 ·subst hs;exact aM (T:=[(0,(.imm z3 .il d2)),(1,(.fn 137 [])),(7,(.i d6)),(8,(.i d8))]) (U:=[]) rfl rfl ⟨e1,e4,e5,e7,trivial⟩ trivial
 ·rcases y with x|x<;>exact Option.some.inj hz
def aG1:FnI:=fnI Tryz.f99 aBm
def axG (_:Bool) (_:List Int):Int→au:=fun r=>⟨(.i r),[],[]⟩
theorem aFj:∀(zp0:Bool)(p0:List Int),bL axF aG1 ⟨[(.imm zp0 .il p0),(.fn 137 [])],[]⟩=(nm2 p0).run fun r=>some (axG zp0 p0 r):=fun _ _=>by kernel_rfl
def aG0 (av:List AV) (rs:List Root):Tre au:=
 aD av fun a0_ av0=>
 aD av0 fun a1_ av1=>
 aN av1<|
 aN rs<|
 bg .il a0_ fun z2 d1=>
 Ua 137 [] a1_<|
 .mat (axE d1) fun r=>.ret (axG z2 d1 r)
def aEd:Ctr:=dD [] aG0
theorem aFk:Contract Tryz.prog .none 99 aEd:=aB (V:=axF) aV (ak UD aE3 aI) Tryz.func99 (bD (n:=1) fun k hk=>by
 match k,hk with
 |0,_=>exact bF (id:=2) azc) fun _ _ _=>aK fun _ _=>aK fun _ _=>bn<|bn<|bZ fun _ _=>tFn<|fun h=>by intros;subst_vars;exact bB (aFj _ _) h
def jw (aX:(List (List Int))) (bq:Int):(Int×(List Int))→Tre ((Int×(List Int)) ⊕ (List Int)):=fun s3=>
 .cond (decide (s3.1<bq))
  (.ite (0≤s3.1∧s3.1<(aX.length:Int))<|
  .mat (aX[s3.1.toNat]?) fun x1=>
  .mat (axE x1) fun r2=>
  .ite ((s3.2.length+1)*8≤bI∧1≤8)<|
  .ret (.inl (aJ .i64 (s3.1+1),s3.2++([r2]))))
  (.ret (.inr s3.2))
def C9 (p0:eO):Tre (List Int):=
 .mat (aL (jw p0.2.2.1 (p0.2.2.1.length:Int)) (0,[])) fun l3=>
 .ret l3
def qU (p0:eO):Option (List Int):=(C9 p0).run some
def qV:Env:=⟨tau,[(99,aEd)],[]⟩
def Js:Code:=(Tryz.f124.body).getD .skip
def AJ (dV:Bool) (aX:(List (List Int))) (bq:Int):(Int×(List Int))→St:=fun x=>bO [(3,(.ref (5,0) [])),(8,(.imm dV (.sl .il) aX)),(9,(.i bq)),(10,(.i x.1))] [((5,0),some ⟨false,.il,.own,x.2⟩)]
def zu (_:Bool) (_:(List (List Int))) (_:Int):(List Int)→Ex×St:=fun x=>(.exit 0,bO [(3,(.ref (5,0) []))] [((5,0),some ⟨false,.il,.own,x⟩)])
def UA (s:St):Tre (Ex×St):=
 dF (5,0) [] (s.tmps 3)<|
 bg (.sl .il) (s.tmps 8) fun z4 d3=>
 ay true .n (s.tmps 9) fun d6=>
 ay true .n (s.tmps 10) fun d8=>
 aZ false .il (s.roots (5,0)) fun m10 d11=>
 asM .own m10<|
 .mat (aL (jw d3 d6) (d8,d11)) fun x=>.ret (zu z4 d3 d6 x)
def ny:bA:=⟨([3,8,9,10],[(5,0)]),([3],[(5,0)]),UA⟩
def yQ:List (Nat×bA):=[(3,ny)]
theorem Nh:∀(dV:Bool)(aX:(List (List Int)))(bq:Int)(x:(Int×(List Int)))(c:St→Option (Ex×St)),den qV yQ (aR Js 0) (AJ dV aX bq x) (bR ny.kp ny.kx c)=(jw aX bq x).run (bS (AJ dV aX bq) (zu dV aX bq) c):=fun _ _ _ _ _=>by
 kernel_rfl
theorem Q9:bP qV yQ (aR Js 0) ny:=bV fun _ _ _=>fu<|bZ fun _ _=>aH fun _=>aH fun _=>bT fun _ _=>tM<|fun h _ e9 e7 e5 e2 e1=>bJ (Nh _ _ _) h (by subst_vars;exact aM rfl rfl ⟨e1,e2,e5,e7,trivial⟩ ⟨e9,trivial⟩)
def aa0:FnI:=fnI Tryz.f124 yQ
def EU (_:Bool) (_:eO):(List Int)→au:=fun r=>⟨(.ref (1,0) []),[],[⟨false,.il,.own,r⟩]⟩
theorem YL:∀(zp0:Bool)(p0:eO),bL qV aa0 ⟨[(.imm zp0 gG p0)],[]⟩=(C9 p0).run fun r=>some (EU zp0 p0 r):=fun _ _=>by kernel_rfl
def aaZ (av:List AV) (rs:List Root):Tre au:=
 aD av fun a0_ av0=>
 aN av0<|
 aN rs<|
 bg gG a0_ fun z2 d1=>
 .mat (qU d1) fun r=>.ret (EU z2 d1 r)
def Jt:Ctr:=dD [] aaZ
theorem YM:Contract Tryz.prog .none 124 Jt:=aB (V:=qV) aV (ak aFk axg aI) Tryz.func124 (bD (n:=1) fun k hk=>by
 match k,hk with
 |0,_=>exact bF (id:=3) Q9) fun _ _ _=>aK fun _ _=>bn<|bn<|bZ fun _ _=>fun h=>by intros;subst_vars;exact bB (YL _ _) h
def jB (aS:List Int) (bK:Int) (dA:Int):Int→Tre (Int ⊕ (Int ⊕ Unit)):=fun s2=>
 .cond (decide (s2<dA))
  (.ite (0≤s2∧s2<(aS.length:Int))<|
  .mat (aS[s2.toNat]?) fun x1=>
  .cond (decide (bK=x1))
   (.ret (.inr (.inl s2)))
   (.ret (.inl (aJ .i64 (s2+1)))))
  (.ret (.inr (.inr ())))
def slices_Index_int (p0:List Int) (p1:Int):Tre Int:=
 .mat (aL (jB p0 p1 (p0.length:Int)) 0) fun l2=>
 .alt l2
  (fun a3=>
   .ret a3)
  (fun _=>
   .ret (-1))
def rF (p0:List Int) (p1:Int):Option Int:=(slices_Index_int p0 p1).run some
def rG:Env:=⟨tau,[],[]⟩
def Ky:Code:=(Tryz.f138.body).getD .skip
def rH (eF:Bool) (aS:List Int) (bK:Int) (dA:Int):Int→St:=fun x=>bO [(0,(.imm eF .il aS)),(1,(.i bK)),(7,(.i dA)),(8,(.i x))] []
def lu (_:Bool) (_:List Int) (_:Int) (_:Int):(Int ⊕ Unit)→Ex×St
 |.inl x=>(.ret,bO [(4,(.i x))] [])
 |.inr _=>(.exit 0,bO [(4,.dead)] [])
def CF (s:St):Tre (Ex×St):=
 bg .il (s.tmps 0) fun z3 d2=>
 ay true .n (s.tmps 1) fun d5=>
 ay true .n (s.tmps 7) fun d7=>
 ay true .n (s.tmps 8) fun d9=>
 .mat (aL (jB d2 d5 d7) d9) fun x=>.alt x (fun a0=>.ret (lu z3 d2 d5 d7 (.inl a0))) (fun b0=>.ret (lu z3 d2 d5 d7 (.inr b0)))
def jK:bA:=⟨([0,1,7,8],[]),([4],[]),CF⟩
def y5:List (Nat×bA):=[(2,jK)]
theorem NQ:∀(eF:Bool)(aS:List Int)(bK dA x:Int)(c:St→Option (Ex×St)),den rG y5 (aR Ky 0) (rH eF aS bK dA x) (bR jK.kp jK.kx c)=(jB aS bK dA x).run (bS (rH eF aS bK dA) (lu eF aS bK dA) c):=fun _ _ _ _ _ _=>by
 kernel_rfl
theorem Sn:bP rG y5 (aR Ky 0) jK:=fP fun s e s' h=>by
 generalize hs:restrict jK.kp s=s1 at h
 have h:(CF s1).run some=some (e,s'):=h
 obtain ⟨z3,d2,e1,h_0⟩:=fG h
 obtain ⟨d5,e4,h_1⟩:=cu h_0
 obtain ⟨d7,e6,h_2⟩:=cu h_1
 obtain ⟨d9,e8,h_3⟩:=cu h_2
 obtain ⟨y,hy,hz⟩:=iE h_3
 refine ⟨_,_,rH z3 d2 d5 d7,lu z3 d2 d5 d7,jB d2 d5 d7,d9,y,?_,hy,?_,NQ z3 d2 d5 d7⟩
 ·subst hs;exact aM (T:=[(0,(.imm z3 .il d2)),(1,(.i d5)),(7,(.i d7)),(8,(.i d9))]) (U:=[]) rfl rfl ⟨e1,e4,e6,e8,trivial⟩ trivial
 ·rcases y with x|x<;>exact Option.some.inj hz
def ab6:FnI:=fnI Tryz.f138 y5
def FP (_:Bool) (_:List Int) (_:Int):Int→au:=fun r=>⟨(.i r),[],[]⟩
theorem Zm:∀(zp0:Bool)(p0:List Int)(p1:Int),bL rG ab6 ⟨[(.imm zp0 .il p0),(.i p1)],[]⟩=(slices_Index_int p0 p1).run fun r=>some (FP zp0 p0 p1 r):=fun _ _ _=>by kernel_rfl
def ab5 (av:List AV) (rs:List Root):Tre au:=
 aD av fun a0_ av0=>
 aD av0 fun a1_ av1=>
 aN av1<|
 aN rs<|
 bg .il a0_ fun z2 d1=>
 ay true .n a1_ fun d3=>
 .mat (rF d1 d3) fun r=>.ret (FP z2 d1 d3 r)
def Kz:Ctr:=dD [] ab5
theorem Zn:Contract Tryz.prog .none 138 Kz:=aB (V:=rG) aV aI Tryz.func138 (bD (n:=1) fun k hk=>by
 match k,hk with
 |0,_=>exact bF (id:=2) Sn) fun _ _ _=>aK fun _ _=>aK fun _ _=>bn<|bn<|bZ fun _ _=>aH fun _=>fun h=>by intros;subst_vars;exact bB (Zm _ _ _) h
def slices_Contains_int (p0:List Int) (p1:Int):Tre Bool:=
 .mat (rF p0 p1) fun r1=>
 .ret (decide (r1 ≥ 0))
def nE (p0:List Int) (p1:Int):Option Bool:=(slices_Contains_int p0 p1).run some
def Cz:Env:=⟨tau,[(138,Kz)],[]⟩
def UZ:FnI:=fnI Tryz.f125 []
def zS (_:Bool) (_:List Int) (_:Int):Bool→au:=fun r=>⟨(.imm true .bool r),[],[]⟩
theorem Sl:∀(zp0:Bool)(p0:List Int)(p1:Int),bL Cz UZ ⟨[(.imm zp0 .il p0),(.i p1)],[]⟩=(slices_Contains_int p0 p1).run fun r=>some (zS zp0 p0 p1 r):=fun _ _ _=>by kernel_rfl
def UY (av:List AV) (rs:List Root):Tre au:=
 aD av fun a0_ av0=>
 aD av0 fun a1_ av1=>
 aN av1<|
 aN rs<|
 bg .il a0_ fun z2 d1=>
 ay true .n a1_ fun d3=>
 .mat (nE d1 d3) fun r=>.ret (zS z2 d1 d3 r)
def CB:Ctr:=dD [] UY
theorem Sm:Contract Tryz.prog .none 125 CB:=aB (V:=Cz) aV (ak Zn aE4 aI) Tryz.func125 bN fun _ _ _=>aK fun _ _=>aK fun _ _=>bn<|bn<|bZ fun _ _=>aH fun _=>fun h=>by intros;subst_vars;exact bB (Sl _ _ _) h
def jv (qM:Int) (wS:Int) (IZ:eO) (I4:List Int):(Int×(List Int))→Tre ((Int×(List Int)) ⊕ (List Int)):=fun s9=>
 .cond (decide (s9.1<wS))
  (.ite (0≤s9.1∧s9.1<(I4.length:Int))<|
  .mat (I4[s9.1.toNat]?) fun x5=>
  .ite (0≤s9.1∧s9.1<(IZ.2.2.1.length:Int))<|
  .mat (IZ.2.2.1[s9.1.toNat]?) fun x6=>
  .ite (0≤qM∧qM<(x6.length:Int))<|
  .mat (x6[qM.toNat]?) fun x7=>
  .ite (0≤x5∧x5<(s9.2.length:Int))<|
  .mat (s9.2[x5.toNat]?) fun _=>
  .ret (.inl (aJ .i64 (s9.1+1),s9.2.set x5.toNat x7)))
  (.ret (.inr s9.2))
def jr (aX:Int) (bY:eO) (dI:List Int):(Int×(List (List Int)))→Tre ((Int×(List (List Int))) ⊕ (List (List Int))):=fun s3=>
 .cond (decide (s3.1<aX))
  (.mat (nE dI s3.1) fun r2=>
  .cond r2
   (.ret (.inl (aJ .i64 (s3.1+1),s3.2)))
   (.ite ((.n:K)=.n∧0≤bY.2.1∧bY.2.1=bY.2.1∧bY.2.1*(8:Nat)≤140737488355328∧1≤8)<|
   .ite (0≤s3.1∧s3.1<((List.replicate bY.2.1.toNat (0:Int)).length:Int))<|
   .mat ((List.replicate bY.2.1.toNat (0:Int))[s3.1.toNat]?) fun _=>
   let v4:=(List.replicate bY.2.1.toNat (0:Int)).set s3.1.toNat 1
   .mat (aL (jv s3.1 (dI.length:Int) bY dI) (0,v4)) fun l9=>
   .ite ((s3.2.length+1)*24≤bI∧1≤24)<|
   .ret (.inl (aJ .i64 (s3.1+1),s3.2++([l9])))))
  (.ret (.inr s3.2))
def C8 (p0:eO):Tre eO:=
 .mat (qU p0) fun r1=>
 .mat (aL (jr p0.2.1 p0 r1) (0,[])) fun l10=>
 .mat (p9 p0.1 p0.2.1 l10) fun r11=>
 .ret (p0.1,(p0.2.1,(r11,())))
def qQ (p0:eO):Option eO:=(C8 p0).run some
def jT:Env:=⟨tau,[(124,Jt),(125,CB),(96,CX)],[(1000000,[((4,0),[.snd,.snd,.fst],false)])]⟩
def qR:Code:=(Tryz.f98.body).getD .skip
def AB (aw1:Bool) (qM:Int) (wR:Int) (aaH:Int) (wS:Int) (IZ:eO) (aaI:eO) (I4:List Int) (aaJ:(List (List Int))):(Int×(List Int))→St:=fun x=>bO [(1,(.ptr (3,0) [])),(2,(.ptr (4,0) [])),(3,(.ref (5,0) [])),(4,(.ref (6,0) [])),(5,(.i qM)),(6,(.ref (8,0) [])),(13,(.i wR)),(14,(.i aaH)),(26,(.ref (5,0) [])),(27,(.i wS)),(28,(.i x.1))] [((3,0),some ⟨true,gG,(.imm aw1),IZ⟩),((4,0),some ⟨true,gG,.own,aaI⟩),((5,0),some ⟨false,.il,.own,I4⟩),((6,0),some ⟨false,(.sl .il),.own,aaJ⟩),((8,0),some ⟨false,.il,.own,x.2⟩)]
def zq (aw1:Bool) (_:Int) (wR:Int) (aaH:Int) (_:Int) (IZ:eO) (aaI:eO) (I4:List Int) (aaJ:(List (List Int))):(List Int)→Ex×St:=fun x=>(.exit 2,bO [(1,(.ptr (3,0) [])),(2,(.ptr (4,0) [])),(3,(.ref (5,0) [])),(4,(.ref (6,0) [])),(6,(.ref (8,0) [])),(13,(.i wR)),(14,(.i aaH))] [((3,0),some ⟨true,gG,(.imm aw1),IZ⟩),((4,0),some ⟨true,gG,.own,aaI⟩),((5,0),some ⟨false,.il,.own,I4⟩),((6,0),some ⟨false,(.sl .il),.own,aaJ⟩),((8,0),some ⟨false,.il,.own,x⟩)])
def Uz (s:St):Tre (Ex×St):=
 dR (3,0) [] (s.tmps 1)<|
 dR (4,0) [] (s.tmps 2)<|
 dF (5,0) [] (s.tmps 3)<|
 dF (6,0) [] (s.tmps 4)<|
 ay true .n (s.tmps 5) fun d6=>
 dF (8,0) [] (s.tmps 6)<|
 ay true .n (s.tmps 13) fun d9=>
 ay true .n (s.tmps 14) fun d11=>
 dF (5,0) [] (s.tmps 26)<|
 ay true .n (s.tmps 27) fun d14=>
 ay true .n (s.tmps 28) fun d16=>
 aZ true gG (s.roots (3,0)) fun m18 d19=>
 kr m18 fun z20=>
 aZ true gG (s.roots (4,0)) fun m22 d23=>
 asM .own m22<|
 aZ false .il (s.roots (5,0)) fun m25 d26=>
 asM .own m25<|
 aZ false (.sl .il) (s.roots (6,0)) fun m28 d29=>
 asM .own m28<|
 aZ false .il (s.roots (8,0)) fun m31 d32=>
 asM .own m31<|
 .mat (aL (jv d6 d14 d19 d26) (d16,d32)) fun x=>.ret (zq z20 d6 d9 d11 d14 d19 d23 d26 d29 x)
def nu:bA:=⟨([1,2,3,4,5,6,13,14,26,27,28],[(3,0),(4,0),(5,0),(6,0),(8,0)]),([1,2,3,4,6,13,14],[(3,0),(4,0),(5,0),(6,0),(8,0)]),Uz⟩
def AA (dV:Bool) (aX:Int) (bY:eO) (dG:eO) (dI:List Int):(Int×(List (List Int)))→St:=fun x=>bO [(1,(.ptr (3,0) [])),(2,(.ptr (4,0) [])),(3,(.ref (5,0) [])),(4,(.ref (6,0) [])),(13,(.i aX)),(14,(.i x.1))] [((3,0),some ⟨true,gG,(.imm dV),bY⟩),((4,0),some ⟨true,gG,.own,dG⟩),((5,0),some ⟨false,.il,.own,dI⟩),((6,0),some ⟨false,(.sl .il),.own,x.2⟩)]
def zo (dV:Bool) (_:Int) (bY:eO) (dG:eO) (_:List Int):(List (List Int))→Ex×St:=fun x=>(.exit 0,bO [(1,(.ptr (3,0) [])),(2,(.ptr (4,0) [])),(4,(.ref (6,0) []))] [((3,0),some ⟨true,gG,(.imm dV),bY⟩),((4,0),some ⟨true,gG,.own,dG⟩),((6,0),some ⟨false,(.sl .il),.own,x⟩)])
def Uy (s:St):Tre (Ex×St):=
 dR (3,0) [] (s.tmps 1)<|
 dR (4,0) [] (s.tmps 2)<|
 dF (5,0) [] (s.tmps 3)<|
 dF (6,0) [] (s.tmps 4)<|
 ay true .n (s.tmps 13) fun d6=>
 ay true .n (s.tmps 14) fun d8=>
 aZ true gG (s.roots (3,0)) fun m10 d11=>
 kr m10 fun z12=>
 aZ true gG (s.roots (4,0)) fun m14 d15=>
 asM .own m14<|
 aZ false .il (s.roots (5,0)) fun m17 d18=>
 asM .own m17<|
 aZ false (.sl .il) (s.roots (6,0)) fun m20 d21=>
 asM .own m20<|
 .mat (aL (jr d6 d11 d18) (d8,d21)) fun x=>.ret (zo z12 d6 d11 d15 d18 x)
def nk:bA:=⟨([1,2,3,4,13,14],[(3,0),(4,0),(5,0),(6,0)]),([1,2,4],[(3,0),(4,0),(6,0)]),Uy⟩
def mQ:List (Nat×bA):=[(9,nu),(3,nk)]
theorem Ng:∀(aw1:Bool)(qM wR aaH wS:Int)(IZ aaI:eO)(I4:List Int)(aaJ:(List (List Int)))(x:(Int×(List Int)))(c:St→Option (Ex×St)),den jT mQ (aR qR 1) (AB aw1 qM wR aaH wS IZ aaI I4 aaJ x) (bR nu.kp nu.kx c)=(jv qM wS IZ I4 x).run (bS (AB aw1 qM wR aaH wS IZ aaI I4 aaJ) (zq aw1 qM wR aaH wS IZ aaI I4 aaJ) c):=fun _ _ _ _ _ _ _ _ _ _ _=>by
 kernel_rfl
theorem Q8:bP jT mQ (aR qR 1) nu:=bV fun _ _ _=>gL<|gL<|fu<|fu<|aH fun _=>fu<|aH fun _=>aH fun _=>fu<|aH fun _=>aH fun _=>bT fun _ _=>zU fun _=>bT fun _ _=>tM<|bT fun _ _=>tM<|bT fun _ _=>tM<|bT fun _ _=>tM<|fun h _ e30 _ e27 _ e24 _ e21 _ e17 e15 e13 e12 e10 e8 e7 e5 e4 e3 e2 e1=>bJ (Ng _ _ _ _ _ _ _ _ _) h (by subst_vars;exact aM rfl rfl ⟨e1,e2,e3,e4,e5,e7,e8,e10,e12,e13,e15,trivial⟩ ⟨e17,e21,e24,e27,e30,trivial⟩)
theorem Nf:∀(dV:Bool)(aX:Int)(bY dG:eO)(dI:List Int)(x:(Int×(List (List Int))))(c:St→Option (Ex×St)),den jT mQ (aR qR 0) (AA dV aX bY dG dI x) (bR nk.kp nk.kx c)=(jr aX bY dI x).run (bS (AA dV aX bY dG dI) (zo dV aX bY dG dI) c):=fun _ _ _ _ _ _ _=>by
 kernel_rfl
theorem Q7:bP jT mQ (aR qR 0) nk:=bV fun _ _ _=>gL<|gL<|fu<|fu<|aH fun _=>aH fun _=>bT fun _ _=>zU fun _=>bT fun _ _=>tM<|bT fun _ _=>tM<|bT fun _ _=>tM<|fun h _ e19 _ e16 _ e13 _ e9 e7 e5 e4 e3 e2 e1=>bJ (Nf _ _ _ _ _) h (by subst_vars;exact aM rfl rfl ⟨e1,e2,e3,e4,e5,e7,trivial⟩ ⟨e9,e13,e16,e19,trivial⟩)
def aaY:FnI:=fnI Tryz.f98 mQ
def ET (_:Bool) (_:eO):eO→au:=fun r=>⟨(.imm true gG r),[],[]⟩
theorem YJ:∀(zp0:Bool)(p0:eO),bL jT aaY ⟨[(.imm zp0 gG p0)],[]⟩=(C8 p0).run fun r=>some (ET zp0 p0 r):=fun _ _=>by kernel_rfl
def aaX (av:List AV) (rs:List Root):Tre au:=
 aD av fun a0_ av0=>
 aN av0<|
 aN rs<|
 bg gG a0_ fun z2 d1=>
 .mat (qQ d1) fun r=>.ret (ET z2 d1 r)
def Jr:Ctr:=dD [] aaX
theorem YK:Contract Tryz.prog .none 98 Jr:=aB (V:=jT) aV (ak YM aES (ak Sm aET (ak Lp aD6 aI))) Tryz.func98 (bD (n:=2) fun k hk=>by
 match k,hk with
 |0,_=>exact bF (id:=3) Q7
 |1,_=>exact bF (id:=9) Q8) fun _ _ _=>aK fun _ _=>bn<|bn<|bZ fun _ _=>fun h=>by intros;subst_vars;exact bB (YJ _ _) h
def xW (p0:(Int×(Int×Unit))) (p1:Int) (p2:(List (List Int))):Tre (Unit ⊕ (List Int)):=
 .mat (p9 p0 p1 p2) fun r1=>
 .cond (decide ((r1.length:Int)=p1))
  (.ret (.inl ()))
  (.mat (qQ (p0,(p1,(r1,())))) fun r2=>
  .ite ((0:Int)≤0∧(0:Int)<(r2.2.2.1.length:Int))<|
  .mat (r2.2.2.1[0]?) fun x3=>
  .ret (.inr x3))
def kR (p0:(Int×(Int×Unit))) (p1:Int) (p2:(List (List Int))):Option (Unit ⊕ (List Int)):=(xW p0 p1 p2).run some
-- more
theorem aBd{r:List Int}{q:Nat}(hq:r[q]?=some 1)(hz:∀e,e<q→r[e]?=some 0)(hl:r.length≤1000000):axE r=some (q:Int):=by
 have hql:=(List.getElem?_eq_some_iff.1 hq).1
 unfold axE nm2
 rw [ah (show aL (abr r (r.length:Int)) 0=some (.inl (q:Int)) from ?_)]
 ·rfl
 refine cO (fun i=>(i:Int)) q _ (fun i hi=>?_) ?_
 ·unfold abr
  rw [dW (hz i hi),Tre.aA,decide_eq_true rfl,Bool.not_true,cond_false,Tre.aG,aQ (by omega)]
 ·unfold abr
  rw [dW hq,Tre.aA,decide_eq_false (by decide),Bool.not_false,cond_true,Tre.aG]
theorem ay8{f:TF3}{n a:Nat}{G:List (List Int)}{p:List Nat}(h:yI f n n a G p)(hn:n≤1000)(f0:TF3)(n0:Int):qU (f0,n0,G.take a,())=some (aW p):=by
 have hal:=h.al
 have han:=h.ac
 have hpl:=h.pl
 have hlen:(G.take a).length=a:=by rw [List.length_take];omega
 unfold qU C9
 dsimp only
 rw [ah (show aL (jw (G.take a) ((G.take a).length:Int)) (0,[])=some (aW p) from ?_),Tre.aG]
 refine cO (fun i=>((i:Int),aW (p.take i))) a _ (fun i hi=>?_) ?_
 ·obtain ⟨r,hr,hrok,_⟩:=h.row hi
  obtain ⟨q,hq,hqn⟩:=h.piv hi
  obtain ⟨l1,l2⟩:=h.aqN hi hr hq
  unfold jw
  dsimp only
  rw [dW hr,ah (aBd l1 l2 (by rw [hrok.1];omega)),Tre.run_ite,if_pos (by rw [aY,List.length_take];unfold bI;omega),Tre.aG,aQ (by omega)]
  rw [List.take_add_one,hq]
  unfold aW
  rw [List.map_append]
  rfl
 ·unfold jw
  dsimp only
  rw [hlen,dB,Tre.aG,List.take_of_length_le (by omega)]
theorem aqu{p:List Nat}(hp:p.length≤1000)(c:Nat):nE (aW p) (c:Int)=some (decide (c∈p)):=by
 have h1:rF (aW p) (c:Int)=some (nI (fun x=>decide ((c:Int)=x)) 0 (aW p)):=by
  unfold rF slices_Index_int
  rw [Tre.jl,vF (xs:=aW p) (fun i x=>cond (decide ((c:Int)=x)) (some (.inl (i:Int))) none) (.inr ())]
  ·rw [Option.bind_some,←NZ (p:=fun x=>decide ((c:Int)=x))]
   generalize Gq _ _ _ _=r
   cases r<;>rfl
  ·intro i x hx
   have hi:i<(aW p).length:=(List.getElem?_eq_some_iff.1 hx).1
   rw [aY] at hi
   unfold jB
   rw [dW hx,Tre.aA]
   cases decide ((c:Int)=x)
   ·simp only [cond_false,Tre.aG,aQ (show i<4611686018427387904 by omega)]
   ·rfl
  ·unfold jB
   exact dB
 unfold nE slices_Contains_int
 rw [ah h1]
 have h2:decide (nI (fun x=>decide ((c:Int)=x)) 0 (aW p) ≥ 0)=decide (c∈p):=by
  rcases yT (fun x=>decide ((c:Int)=x)) (aW p) 0 with ⟨e,hno⟩|⟨k,x,hk,hx,e⟩
  ·rw [e,decide_eq_false (by omega)]
   refine (decide_eq_false fun hc=>?_).symm
   have:=hno (c:Int) (List.mem_map.2 ⟨c,hc,rfl⟩)
   simp at this
  ·rw [e,decide_eq_true (by omega)]
   refine (decide_eq_true ?_).symm
   have hx:=of_decide_eq_true hx
   subst hx
   obtain ⟨y,hy,hyc⟩:=List.mem_map.1 (List.mem_of_getElem? hk)
   have:y=c:=by omega
   exact this ▸ hy
 rw [Tre.aG,h2]
def Sy(n:Nat)(p:List Nat)(E:List (List Int))(m:Nat):List (List Int):=((List.range m).filter fun c=>!decide (c∈p)).map fun c=>Tm n c p E
theorem aoZ(n:Nat)(p:List Nat)(E:List (List Int))(m:Nat):(Sy n p E m).length≤m:=by
 unfold Sy
 rw [List.length_map]
 have:=List.length_filter_le (fun c=>!decide (c∈p)) (List.range m)
 rw [List.length_range] at this
 exact this
theorem aBa{f:TF3}(hf:aO f=true){n a:Nat}{G:List (List Int)}{p:List Nat}(h:yI f n n a G p)(hn:n≤1000):qQ (f,(n:Int),G.take a,())=some (f,(n:Int),Eu f n (Sy n p (G.take a) n),()):=by
 have hal:=h.al
 have han:=h.ac
 have hpl:=h.pl
 have hlen:(G.take a).length=a:=by rw [List.length_take];omega
 have hrow:∀c,c<n→aL (jv (c:Int) ((aW p).length:Int) (f,(n:Int),G.take a,()) (aW p)) (0,(List.replicate n (0:Int)).set c 1)=some (Tm n c p (G.take a)):=by
  intro c hc
  refine cO (fun i=>((i:Int),jk c (BQ n c) ((p.zip (G.take a)).take i))) a _ (fun i hi=>?_) ?_
  ·obtain ⟨r,hr,hrok,_⟩:=h.row hi
   obtain ⟨q,hq,hqn⟩:=h.piv hi
   have hok:okV f n (jk c (BQ n c) ((p.zip (G.take a)).take i)):=JH _ (Qb hf n c) fun x hx=>by
    have:=List.of_mem_zip (a:=x.1) (b:=x.2) (List.mem_of_mem_take hx)
    exact h.gr _ (List.mem_of_mem_take this.2)
   have hrc:=List.getElem?_eq_getElem (show c<r.length by rw [hrok.1];exact hc)
   have hoq:=List.getElem?_eq_getElem (show q<(jk c (BQ n c) ((p.zip (G.take a)).take i)).length by rw [hok.1];exact hqn)
   have hrl:c<r.length:=by rw [hrok.1];exact hc
   have hol:q<(jk c (BQ n c) ((p.zip (G.take a)).take i)).length:=by rw [hok.1];exact hqn
   unfold jv
   dsimp only
   rw [dW (dX hq),dM hr,dM hrc,dM hoq,Tre.aG,aQ (by omega),Int.toNat_natCast,alO hq hr,sZ hrc]
  ·unfold jv
   dsimp only
   rw [aY,hpl,dB,Tre.aG,List.take_of_length_le (by rw [List.length_zip];omega)]
   rfl
 have hrows:aL (jr (n:Int) (f,(n:Int),G.take a,()) (aW p)) (0,[])=some (Sy n p (G.take a) n):=by
  refine cO (fun c=>((c:Int),Sy n p (G.take a) c)) n _ (fun c hc=>?_) ?_
  ·have hfl:=aoZ n p (G.take a) c
   have hsu:Sy n p (G.take a) (c+1)=if c∈p then Sy n p (G.take a) c else Sy n p (G.take a) c++[Tm n c p (G.take a)]:=by
    unfold Sy
    rw [List.range_succ,List.filter_append,List.map_append]
    by_cases hcp:c∈p
    ·rw [if_pos hcp,List.filter_cons,if_neg (by simp [hcp])];simp
    ·rw [if_neg hcp,List.filter_cons,if_pos (by simp [hcp])];rfl
   unfold jr
   dsimp only
   rw [Tre.aA,decide_eq_true (by omega),cond_true,ah (aqu (by omega) c),Tre.aA]
   by_cases hcp:c∈p
   ·rw [decide_eq_true hcp,cond_true,Tre.aG,aQ (by omega),hsu,if_pos hcp]
   ·rw [decide_eq_false hcp,cond_false,Tre.run_ite,if_pos ⟨rfl,by omega,rfl,by omega,by omega⟩,Int.toNat_natCast]
    rw [dM (show (List.replicate n (0:Int))[c]?=some 0 by rw [List.getElem?_replicate,if_pos hc])]
    rw [Int.toNat_natCast,ah (hrow c hc),Tre.run_ite,if_pos (by unfold bI;omega),Tre.aG,aQ (by omega),hsu,if_neg hcp]
  ·unfold jr
   dsimp only
   rw [dB,Tre.aG]
 have hgr:GR f n (Sy n p (G.take a) n):=by
  intro r hr
  obtain ⟨c,_,rfl⟩:=List.mem_map.1 hr
  exact alN hf h c
 unfold qQ C8
 dsimp only
 rw [ah (ay8 h hn _ _),ah hrows,ah (axt hf (by omega) hgr (by have:=aoZ n p (G.take a) n;omega)),Tre.aG]
theorem av8{f:TF3}(hf:aO f=true){n:Nat}(hn:n≤1000){L:List (List Int)}(h:GR f n L)(hL:L.length≤1000) :
  ((Eu f n L).length=n∧kR f (n:Int) L=some (.inl ()))∨((Eu f n L).length≠n∧∃x,kR f (n:Int) L=some (.inr x)∧apH f n L x):=by
 have hr:=axt hf (show n≤1000000 by omega) h (by omega)
 by_cases hl:(Eu f n L).length=n
 ·refine .inl ⟨hl,?_⟩
  unfold kR xW
  rw [ah hr,Tre.aA,decide_eq_true (by omega)]
  rfl
 ·refine .inr ⟨hl,?_⟩
  obtain ⟨p,hI,hlen⟩:=yI.all hf (Nat.le_refl n) h
  have hel:=akv hf (m:=n) h
  have hE:Eu f n L=(gT f 0 n (0,L)).2.take (gT f 0 n (0,L)).1:=rfl
  generalize hs:gT f 0 n (0,L)=s at hI hlen hel hE
  obtain ⟨a,G⟩:=s
  dsimp only at hI hlen hel hE
  have hal:=hI.al
  have hac:=hI.ac
  obtain ⟨c,hc,hcp⟩:=asG (n:=n) hI.pinc (by rw [hI.pl];omega)
  have hgr:GR f n (Sy n p (G.take a) n):=by
   intro r hr
   obtain ⟨c,_,rfl⟩:=List.mem_map.1 hr
   exact alN hf hI c
  obtain ⟨x,hx,hk⟩:=aDa hf (E:=G.take a) (D:=Sy n p (G.take a) n) (fun r hr=>hI.gr r (List.mem_of_mem_take hr)) hgr (fun r hr y hy=>by
   obtain ⟨c',hc',rfl⟩:=List.mem_map.1 hy
   obtain ⟨h1,h2⟩:=List.mem_filter.1 hc'
   exact apl hf hI (List.mem_range.1 h1) (by simpa using h2) r hr) hc (d:=Tm n c p (G.take a)) (List.mem_map.2 ⟨c,List.mem_filter.2 ⟨List.mem_range.2 hc,by simp [hcp]⟩,rfl⟩) (atU hI hc hcp)
  refine ⟨x,?_,apH.aBx hf h (hE ▸ hk)⟩
  have hxl:=(List.getElem?_eq_some_iff.1 hx).1
  unfold kR xW
  rw [ah hr,Tre.aA,decide_eq_false (by omega),cond_false,hE,ah (aBa hf hI hn)]
  dsimp only
  rw [Tre.run_ite,if_pos ⟨by omega,by omega⟩,ah hx,Tre.aG]
def Lj:Env:=⟨tau,[(96,CX),(97,Ta),(98,Jr)],[(1000001,[])]⟩
def acI:FnI:=fnI Tryz.f63 []
def wU (_:Bool) (_:(Int×(Int×Unit))) (_:Int) (_:(List (List Int))):(Unit ⊕ (List Int))→au
 |.inl _=>⟨.nil,[],[]⟩
 |.inr r=>⟨(.imm true .il r),[],[]⟩
theorem aaN:∀(zp0:Bool)(p0:(Int×(Int×Unit)))(p1:Int)(p2:(List (List Int))),bL Lj acI ⟨[(.imm true aP p0),(.i p1),(.imm zp0 (.sl .il) p2)],[]⟩=(xW p0 p1 p2).run fun r=>some (wU zp0 p0 p1 p2 r):=fun _ _ _ _=>by kernel_rfl
def acH (av:List AV) (rs:List Root):Tre au:=
 aD av fun a0_ av0=>
 aD av0 fun a1_ av1=>
 aD av1 fun a2_ av2=>
 aN av2<|
 aN rs<|
 ay true aP a0_ fun d1=>
 ay true .n a1_ fun d2=>
 bg (.sl .il) a2_ fun z4 d3=>
 .mat (kR d1 d2 d3) fun r=>.alt r (fun a0=>.ret (wU z4 d1 d2 d3 (.inl a0))) (fun b0=>.ret (wU z4 d1 d2 d3 (.inr b0)))
def Ll:Ctr:=dD [] acH
theorem aaO:Contract Tryz.prog .none 63 Ll:=aB (V:=Lj) aV (ak Lp aD6 (ak afQ aGP (ak YK aGQ aI))) Tryz.func63 bN fun _ _ _=>aK fun _ _=>aK fun _ _=>aK fun _ _=>bn<|bn<|aH fun _=>aH fun _=>bZ fun _ _=>fun h=>by intros;subst_vars;exact akB (aaN _ _ _ _) h (by rintro (x|x)<;>rfl)
def wz (gN:Int) (pX:(List (List Int))):Int→Tre (Int ⊕ Int):=fun s7=>
 .ite (0≤gN∧gN<(pX.length:Int))<|
 .mat (pX[gN.toNat]?) fun x2=>
 .ite (0≤s7∧s7<(x2.length:Int))<|
 .mat (x2[s7.toNat]?) fun x3=>
 .cond (decide (x3=0))
  (.ret (.inl (aJ .i64 (s7+1))))
  (.ret (.inr s7))
def wu (iC:(List (List Int))):(Int×(List Int))→Tre ((Int×(List Int)) ⊕ (List Int)):=fun s4=>
 .cond (decide (s4.1<(iC.length:Int)))
  (.mat (aL (wz s4.1 iC) 0) fun l4=>
  .ite ((s4.2.length+1)*8≤bI∧1≤8)<|
  .ret (.inl (aJ .i64 (s4.1+1),s4.2++([l4]))))
  (.ret (.inr s4.2))
def sG (DT:Int) (DU:(List (List Int))) (HV:List Int):(Int×(List Int))→Tre ((Int×(List Int)) ⊕ (List Int)):=fun s17=>
 .cond (decide (s17.1<(DU.length:Int)))
  (.ite (0≤s17.1∧s17.1<(HV.length:Int))<|
  .mat (HV[s17.1.toNat]?) fun x9=>
  .ite (0≤s17.1∧s17.1<(DU.length:Int))<|
  .mat (DU[s17.1.toNat]?) fun x10=>
  .ite (0≤DT∧DT<(x10.length:Int))<|
  .mat (x10[DT.toNat]?) fun x11=>
  .ite (0≤x9∧x9<(s17.2.length:Int))<|
  .mat (s17.2[x9.toNat]?) fun _=>
  .ret (.inl (aJ .i64 (s17.1+1),s17.2.set x9.toNat x11)))
  (.ret (.inr s17.2))
def iW (jd:Int) (j4:(List (List Int))) (Hy:List Int):Int→Tre (Int ⊕ ((Bool×(List Int)) ⊕ Unit)):=fun s11=>
 .cond (decide (s11<jd))
  (.mat (RN Hy s11) fun r6=>
  .cond r6
   (.ret (.inl (aJ .i64 (s11+1))))
   (.ite ((.n:K)=.n∧0≤jd∧jd=jd∧jd*(8:Nat)≤140737488355328∧1≤8)<|
   .ite (0≤s11∧s11<((List.replicate jd.toNat (0:Int)).length:Int))<|
   .mat ((List.replicate jd.toNat (0:Int))[s11.toNat]?) fun _=>
   let v8:=(List.replicate jd.toNat (0:Int)).set s11.toNat 1
   .mat (aL (sG s11 j4 Hy) (0,v8)) fun l13=>
   .ret (.inr (.inl (true,l13)))))
  (.ret (.inr (.inr ())))
def Yu (p0:(Int×(Int×Unit))) (p1:Int) (p2:(List (List Int))):Tre (Bool×(List Int)):=
 .mat (BH p0 p1 p2) fun r1=>
 .mat (aL (wu r1) (0,[])) fun l5=>
 .mat (aL (iW p1 r1 l5) 0) fun l14=>
 .alt l14
  (fun a15=>
   .ret (a15.1,a15.2))
  (fun _=>
   .ret (false,[]))
def zQ (p0:(Int×(Int×Unit))) (p1:Int) (p2:(List (List Int))):Option (Bool×(List Int)):=(Yu p0 p1 p2).run some
-- more
theorem axz{p:List Nat}(hp:p.length≤1000)(c:Nat):RN (aW p) (c:Int)=some (decide (c∈p)):=by
 have h2:(aW p).all (fun x=>!decide (x=(c:Int))) = !decide (c∈p):=by
  by_cases h:c∈p
  ·rw [decide_eq_true h]
   refine List.all_eq_false.2 ⟨(c:Int),List.mem_map.2 ⟨c,h,rfl⟩,?_⟩
   simp
  ·rw [decide_eq_false h]
   refine List.all_eq_true.2 fun x hx=>?_
   obtain ⟨y,hy,rfl⟩:=List.mem_map.1 hx
   have:(y:Int)≠(c:Int):=fun e=>h ((show y=c by omega) ▸ hy)
   simpa using this
 unfold RN al4
 rw [Tre.jl,aoE (xs:=aW p) (fun x=>!decide (x=(c:Int))) (.inl true) (.inr ()),h2]
 ·cases decide (c∈p)<;>rfl
 ·intro i x hx
  have hi:i<(aW p).length:=(List.getElem?_eq_some_iff.1 hx).1
  rw [aY] at hi
  unfold zH
  rw [dW hx,Tre.aA]
  cases decide (x=(c:Int))
  ·simp only [Bool.not_false,cond_false,cond_true,Tre.aG,aQ (show i<4611686018427387904 by omega)]
  ·rfl
 ·unfold zH
  exact dB
theorem apk{f:TF3}{n a:Nat}{G:List (List Int)}{p:List Nat}(h:yI f n n a G p)(hn:n≤1000):aL (wu (G.take a)) (0,[])=some (aW p):=by
 have hal:=h.al
 have han:=h.ac
 have hpl:=h.pl
 have hlen:(G.take a).length=a:=by rw [List.length_take];omega
 refine cO (fun i=>((i:Int),aW (p.take i))) a _ (fun i hi=>?_) ?_
 ·obtain ⟨r,hr,hrok,_⟩:=h.row hi
  obtain ⟨q,hq,hqn⟩:=h.piv hi
  obtain ⟨l1,l2⟩:=h.aqN hi hr hq
  have hin:aL (wz (i:Int) (G.take a)) 0=some (q:Int):=by
   refine cO (fun e=>(e:Int)) q _ (fun e he=>?_) ?_
   ·unfold wz
    rw [dM hr,dM (l2 e he),Tre.aA,decide_eq_true rfl,cond_true,Tre.aG,aQ (by omega)]
   ·unfold wz
    rw [dM hr,dM l1,Tre.aA,decide_eq_false (by decide),cond_false,Tre.aG]
  unfold wu
  dsimp only
  rw [Tre.aA,decide_eq_true (by omega),cond_true,ah hin,Tre.run_ite,if_pos (by rw [aY,List.length_take];unfold bI;omega),Tre.aG,aQ (by omega)]
  rw [List.take_add_one,hq]
  unfold aW
  rw [List.map_append]
  rfl
 ·unfold wu
  dsimp only
  rw [hlen,dB,Tre.aG,List.take_of_length_le (by omega)]
theorem aDc{f:TF3}(hf:aO f=true){n a:Nat}{G:List (List Int)}{p:List Nat}(h:yI f n n a G p)(hn:n≤1000){c:Nat}(hc:c<n):aL (sG (c:Int) (G.take a) (aW p)) (0,(List.replicate n (0:Int)).set c 1)=some (Tm n c p (G.take a)):=by
 have hal:=h.al
 have han:=h.ac
 have hpl:=h.pl
 have hlen:(G.take a).length=a:=by rw [List.length_take];omega
 refine cO (fun i=>((i:Int),jk c (BQ n c) ((p.zip (G.take a)).take i))) a _ (fun i hi=>?_) ?_
 ·obtain ⟨r,hr,hrok,_⟩:=h.row hi
  obtain ⟨q,hq,hqn⟩:=h.piv hi
  have hok:okV f n (jk c (BQ n c) ((p.zip (G.take a)).take i)):=JH _ (Qb hf n c) fun x hx=>by
   have:=List.of_mem_zip (a:=x.1) (b:=x.2) (List.mem_of_mem_take hx)
   exact h.gr _ (List.mem_of_mem_take this.2)
  have hrc:=List.getElem?_eq_getElem (show c<r.length by rw [hrok.1];exact hc)
  have hoq:=List.getElem?_eq_getElem (show q<(jk c (BQ n c) ((p.zip (G.take a)).take i)).length by rw [hok.1];exact hqn)
  unfold sG
  dsimp only
  rw [Tre.aA,decide_eq_true (by omega),cond_true,dM (dX hq),dM hr,dM hrc,dM hoq,Tre.aG,aQ (by omega),Int.toNat_natCast,alO hq hr,sZ hrc]
 ·unfold sG
  dsimp only
  rw [hlen,dB,Tre.aG,List.take_of_length_le (by rw [List.length_zip];omega)]
  rfl
theorem aB0{f:TF3}(hf:aO f=true){n:Nat}(hn:n≤1000){L:List (List Int)}(h:GR f n L)(hL:L.length≤1000) :
  ((Eu f n L).length=n∧zQ f (n:Int) L=some (false,[]))∨((Eu f n L).length≠n∧∃x,zQ f (n:Int) L=some (true,x)∧apH f n L x):=by
 have hr:=aDl hf (show n≤1000000 by omega) h (by omega)
 obtain ⟨p,hI,hlen⟩:=yI.all hf (Nat.le_refl n) h
 have hel:=akv hf (m:=n) h
 have hE:Eu f n L=(gT f 0 n (0,L)).2.take (gT f 0 n (0,L)).1:=rfl
 generalize hs:gT f 0 n (0,L)=s at hI hlen hel hE
 obtain ⟨a,G⟩:=s
 dsimp only at hI hlen hel hE
 have hal:=hI.al
 have hac:=hI.ac
 have hpl:=hI.pl
 have hstep:∀c,c<n→c∈p→(iW (n:Int) (G.take a) (aW p) (c:Int)).run some=some (.inl ((c+1:Nat):Int)):=by
  intro c hc hcp
  unfold iW
  rw [Tre.aA,decide_eq_true (by omega),cond_true,ah (axz (by omega) c),Tre.aA,decide_eq_true hcp,cond_true,Tre.aG,aQ (by omega)]
 by_cases hl:(Eu f n L).length=n
 ·refine .inl ⟨hl,?_⟩
  have hp:=hI.full (by omega)
  have hloop:aL (iW (n:Int) (G.take a) (aW p)) 0=some (.inr ()):=by
   refine cO (fun c=>(c:Int)) n _ (fun c hc=>hstep c hc (by rw [hp];exact List.mem_range.2 hc)) ?_
   unfold iW
   rw [dB,Tre.aG]
  unfold zQ Yu
  rw [ah hr,hE,ah (apk hI hn),ah hloop]
  rfl
 ·refine .inr ⟨hl,?_⟩
  have hex:∃c,c<n∧c ∉ p:=asG hI.pinc (by rw [hI.pl];omega)
  obtain ⟨c,⟨hc,hcp⟩,hmin⟩:∃c,(c<n∧c ∉ p)∧∀e,e<c→¬(e<n∧e ∉ p):=by
   obtain ⟨c0,hc0⟩:=hex
   induction c0 using Nat.strongRecOn with
   |ind c0 ih=>
    by_cases hx:∃e,e<c0∧(e<n∧e ∉ p)
    ·obtain ⟨e,h1,h2⟩:=hx
     exact ih e h1 h2
    ·exact ⟨c0,hc0,fun e he h2=>hx ⟨e,he,h2⟩⟩
  refine ⟨Tm n c p (G.take a),?_,apH.aBx hf h ⟨alN hf hI c,⟨c,by rw [atU hI hc hcp];decide⟩,by rw [hE];exact apl hf hI hc hcp⟩⟩
  have hloop:aL (iW (n:Int) (G.take a) (aW p)) 0=some (.inl (true,Tm n c p (G.take a))):=by
   refine cO (fun c=>(c:Int)) c _ (fun e he=>hstep e (by omega) (Classical.byContradiction fun hh=>hmin e he ⟨by omega,hh⟩)) ?_
   unfold iW
   rw [Tre.aA,decide_eq_true (by omega),cond_true,ah (axz (by omega) c),Tre.aA,decide_eq_false hcp,cond_false,Tre.run_ite,if_pos ⟨rfl,by omega,rfl,by omega,by omega⟩,Int.toNat_natCast]
   rw [dM (show (List.replicate n (0:Int))[c]?=some 0 by rw [List.getElem?_replicate,if_pos hc])]
   rw [Int.toNat_natCast,ah (aDc hf hI hn hc),Tre.aG]
  unfold zQ Yu
  rw [ah hr,hE,ah (apk hI hn),ah hloop]
  rfl
def mF:Env:=⟨tau,[(88,XQ),(89,al6)],[]⟩
def qC:Code:=(Tryz.f57.body).getD .skip
def TU (mO:Int) (gN:Int) (pX:(List (List Int))) (yJ:List Int):Int→St:=fun x=>bO [(1,(.i mO)),(8,(.ref (10,0) [])),(9,(.ref (11,0) [])),(10,(.i gN)),(11,(.i x))] [((10,0),some ⟨false,(.sl .il),(.sl (.imm true)),pX⟩),((11,0),some ⟨false,.il,.own,yJ⟩)]
def PX (mO:Int) (gN:Int) (pX:(List (List Int))) (yJ:List Int):Int→Ex×St:=fun x=>(.exit 2,bO [(1,(.i mO)),(8,(.ref (10,0) [])),(9,(.ref (11,0) [])),(10,(.i gN)),(11,(.i x))] [((10,0),some ⟨false,(.sl .il),(.sl (.imm true)),pX⟩),((11,0),some ⟨false,.il,.own,yJ⟩)])
def amW (s:St):Tre (Ex×St):=
 ay true .n (s.tmps 1) fun d2=>
 dF (10,0) [] (s.tmps 8)<|
 dF (11,0) [] (s.tmps 9)<|
 ay true .n (s.tmps 10) fun d6=>
 ay true .n (s.tmps 11) fun d8=>
 aZ false (.sl .il) (s.roots (10,0)) fun m10 d11=>
 asM (.sl (.imm true)) m10<|
 aZ false .il (s.roots (11,0)) fun m13 d14=>
 asM .own m13<|
 .mat (aL (wz d6 d11) d8) fun x=>.ret (PX d2 d6 d11 d14 x)
def BL:bA:=⟨([1,8,9,10,11],[(10,0),(11,0)]),([1,8,9,10,11],[(10,0),(11,0)]),amW⟩
def TT (bU:Int) (iC:(List (List Int))):(Int×(List Int))→St:=fun x=>bO [(1,(.i bU)),(8,(.ref (10,0) [])),(9,(.ref (11,0) [])),(10,(.i x.1))] [((10,0),some ⟨false,(.sl .il),(.sl (.imm true)),iC⟩),((11,0),some ⟨false,.il,.own,x.2⟩)]
def PW (bU:Int) (iC:(List (List Int))):(List Int)→Ex×St:=fun x=>(.exit 0,bO [(1,(.i bU)),(8,(.ref (10,0) [])),(9,(.ref (11,0) []))] [((10,0),some ⟨false,(.sl .il),(.sl (.imm true)),iC⟩),((11,0),some ⟨false,.il,.own,x⟩)])
def amV (s:St):Tre (Ex×St):=
 ay true .n (s.tmps 1) fun d2=>
 dF (10,0) [] (s.tmps 8)<|
 dF (11,0) [] (s.tmps 9)<|
 ay true .n (s.tmps 10) fun d6=>
 aZ false (.sl .il) (s.roots (10,0)) fun m8 d9=>
 asM (.sl (.imm true)) m8<|
 aZ false .il (s.roots (11,0)) fun m11 d12=>
 asM .own m11<|
 .mat (aL (wu d9) (d6,d12)) fun x=>.ret (PW d2 d9 x)
def BK:bA:=⟨([1,8,9,10],[(10,0),(11,0)]),([1,8,9],[(10,0),(11,0)]),amV⟩
def PV (DT:Int) (DU:(List (List Int))) (HV:List Int):(Int×(List Int))→St:=fun x=>bO [(8,(.ref (10,0) [])),(9,(.ref (11,0) [])),(12,(.i DT)),(13,(.ref (15,0) [])),(14,(.i x.1))] [((10,0),some ⟨false,(.sl .il),(.sl (.imm true)),DU⟩),((11,0),some ⟨false,.il,.own,HV⟩),((15,0),some ⟨false,.il,.own,x.2⟩)]
def MO (_:Int) (_:(List (List Int))) (_:List Int):(List Int)→Ex×St:=fun x=>(.exit 6,bO [(13,(.ref (15,0) []))] [((15,0),some ⟨false,.il,.own,x⟩)])
def ajD (s:St):Tre (Ex×St):=
 dF (10,0) [] (s.tmps 8)<|
 dF (11,0) [] (s.tmps 9)<|
 ay true .n (s.tmps 12) fun d4=>
 dF (15,0) [] (s.tmps 13)<|
 ay true .n (s.tmps 14) fun d7=>
 aZ false (.sl .il) (s.roots (10,0)) fun m9 d10=>
 asM (.sl (.imm true)) m9<|
 aZ false .il (s.roots (11,0)) fun m12 d13=>
 asM .own m12<|
 aZ false .il (s.roots (15,0)) fun m15 d16=>
 asM .own m15<|
 .mat (aL (sG d4 d10 d13) (d7,d16)) fun x=>.ret (MO d4 d10 d13 x)
def yF:bA:=⟨([8,9,12,13,14],[(10,0),(11,0),(15,0)]),([13],[(15,0)]),ajD⟩
def DC (jd:Int) (j4:(List (List Int))) (Hy:List Int):Int→St:=fun x=>bO [(1,(.i jd)),(8,(.ref (10,0) [])),(9,(.ref (11,0) [])),(12,(.i x))] [((10,0),some ⟨false,(.sl .il),(.sl (.imm true)),j4⟩),((11,0),some ⟨false,.il,.own,Hy⟩)]
def um (_:Int) (_:(List (List Int))) (_:List Int):((Bool×(List Int)) ⊕ Unit)→Ex×St
 |.inl x=>(.ret,bO [(6,(.ref (8,0) [])),(7,(.imm true .bool x.1))] [((8,0),some ⟨false,.il,.own,x.2⟩)])
 |.inr _=>(.exit 4,bO [(6,.dead),(7,.dead)] [((8,0),none)])
def TS (s:St):Tre (Ex×St):=
 ay true .n (s.tmps 1) fun d2=>
 dF (10,0) [] (s.tmps 8)<|
 dF (11,0) [] (s.tmps 9)<|
 ay true .n (s.tmps 12) fun d6=>
 aZ false (.sl .il) (s.roots (10,0)) fun m8 d9=>
 asM (.sl (.imm true)) m8<|
 aZ false .il (s.roots (11,0)) fun m11 d12=>
 asM .own m11<|
 .mat (aL (iW d2 d9 d12) d6) fun x=>.alt x (fun a0=>.ret (um d2 d9 d12 (.inl a0))) (fun b0=>.ret (um d2 d9 d12 (.inr b0)))
def rU:bA:=⟨([1,8,9,12],[(10,0),(11,0)]),([6,7],[(8,0)]),TS⟩
def oJ:List (Nat×bA):=[(7,BL),(4,BK),(17,yF),(11,rU)]
theorem aeH:∀(mO gN:Int)(pX:(List (List Int)))(yJ:List Int)(x:Int)(c:St→Option (Ex×St)),den mF oJ (aR qC 1) (TU mO gN pX yJ x) (bR BL.kp BL.kx c)=(wz gN pX x).run (bS (TU mO gN pX yJ) (PX mO gN pX yJ) c):=fun _ _ _ _ _ _=>by
 kernel_rfl
theorem ajF:bP mF oJ (aR qC 1) BL:=bV fun _ _ _=>aH fun _=>fu<|fu<|aH fun _=>aH fun _=>bT fun _ _=>tM<|bT fun _ _=>tM<|fun h _ e12 _ e9 e7 e5 e4 e3 e1=>bJ (aeH _ _ _ _) h (by subst_vars;exact aM rfl rfl ⟨e1,e3,e4,e5,e7,trivial⟩ ⟨e9,e12,trivial⟩)
theorem aeG:∀(bU:Int)(iC:(List (List Int)))(x:(Int×(List Int)))(c:St→Option (Ex×St)),den mF oJ (aR qC 0) (TT bU iC x) (bR BK.kp BK.kx c)=(wu iC x).run (bS (TT bU iC) (PW bU iC) c):=fun _ _ _ _=>by
 kernel_rfl
theorem ajE:bP mF oJ (aR qC 0) BK:=bV fun _ _ _=>aH fun _=>fu<|fu<|aH fun _=>bT fun _ _=>tM<|bT fun _ _=>tM<|fun h _ e10 _ e7 e5 e4 e3 e1=>bJ (aeG _ _) h (by subst_vars;exact aM rfl rfl ⟨e1,e3,e4,e5,trivial⟩ ⟨e7,e10,trivial⟩)
theorem ab0:∀(DT:Int)(DU:(List (List Int)))(HV:List Int)(x:(Int×(List Int)))(c:St→Option (Ex×St)),den mF oJ (aR qC 3) (PV DT DU HV x) (bR yF.kp yF.kx c)=(sG DT DU HV x).run (bS (PV DT DU HV) (MO DT DU HV) c):=fun _ _ _ _ _=>by
 kernel_rfl
theorem agZ:bP mF oJ (aR qC 3) yF:=bV fun _ _ _=>fu<|fu<|aH fun _=>fu<|aH fun _=>bT fun _ _=>tM<|bT fun _ _=>tM<|bT fun _ _=>tM<|fun h _ e14 _ e11 _ e8 e6 e5 e3 e2 e1=>bJ (ab0 _ _ _) h (by subst_vars;exact aM rfl rfl ⟨e1,e2,e3,e5,e6,trivial⟩ ⟨e8,e11,e14,trivial⟩)
theorem abZ:∀(jd:Int)(j4:(List (List Int)))(Hy:List Int)(x:Int)(c:St→Option (Ex×St)),den mF oJ (aR qC 2) (DC jd j4 Hy x) (bR rU.kp rU.kx c)=(iW jd j4 Hy x).run (bS (DC jd j4 Hy) (um jd j4 Hy) c):=fun _ _ _ _ _=>by
 kernel_rfl
theorem agY:bP mF oJ (aR qC 2) rU:=fP fun s e s' h=>by
 generalize hs:restrict rU.kp s=s1 at h
 have h:(TS s1).run some=some (e,s'):=h
 obtain ⟨d2,e1,h_0⟩:=cu h
 obtain ⟨e3,h_1⟩:=Qi h_0
 obtain ⟨e4,h_2⟩:=Qi h_1
 obtain ⟨d6,e5,h_3⟩:=cu h_2
 obtain ⟨m8,d9,e7,h_4⟩:=gQ h_3
 obtain ⟨rfl,h_5⟩:=uI h_4
 obtain ⟨m11,d12,e10,h_6⟩:=gQ h_5
 obtain ⟨rfl,h_7⟩:=uI h_6
 obtain ⟨y,hy,hz⟩:=iE h_7
 refine ⟨_,_,DC d2 d9 d12,um d2 d9 d12,iW d2 d9 d12,d6,y,?_,hy,?_,abZ d2 d9 d12⟩
 ·subst hs;exact aM (T:=[(1,(.i d2)),(8,(.ref (10,0) [])),(9,(.ref (11,0) [])),(12,(.i d6))]) (U:=[((10,0),some ⟨false,(.sl .il),(.sl (.imm true)),d9⟩),((11,0),some ⟨false,.il,.own,d12⟩)]) rfl rfl ⟨e1,e3,e4,e5,trivial⟩ ⟨e7,e10,trivial⟩
 ·rcases y with x|x<;>exact Option.some.inj hz
def auN:FnI:=fnI Tryz.f57 oJ
def aai (_:Bool) (_:(Int×(Int×Unit))) (_:Int) (_:(List (List Int))):(Bool×(List Int))→au:=fun r=>⟨(.tcons (.ref (1,0) []) (.tcons (.imm true .bool r.1) .tnil)),[],[⟨false,.il,.own,r.2⟩]⟩
theorem arA:∀(zp0:Bool)(p0:(Int×(Int×Unit)))(p1:Int)(p2:(List (List Int))),bL mF auN ⟨[(.imm true aP p0),(.i p1),(.imm zp0 (.sl .il) p2)],[]⟩=(Yu p0 p1 p2).run fun r=>some (aai zp0 p0 p1 p2 r):=fun _ _ _ _=>by kernel_rfl
def auM (av:List AV) (rs:List Root):Tre au:=
 aD av fun a0_ av0=>
 aD av0 fun a1_ av1=>
 aD av1 fun a2_ av2=>
 aN av2<|
 aN rs<|
 ay true aP a0_ fun d1=>
 ay true .n a1_ fun d2=>
 bg (.sl .il) a2_ fun z4 d3=>
 .mat (zQ d1 d2 d3) fun r=>.ret (aai z4 d1 d2 d3 r)
def ah6:Ctr:=dD [] auM
theorem arB:Contract Tryz.prog .none 57 ah6:=aB (V:=mF) aV (ak ajy aGK (ak aub aGL aI)) Tryz.func57 (bD (n:=4) fun k hk=>by
 match k,hk with
 |0,_=>exact bF (id:=4) ajE
 |1,_=>exact bF (id:=7) ajF
 |2,_=>exact bF (id:=11) agY
 |3,_=>exact bF (id:=17) agZ) fun _ _ _=>aK fun _ _=>aK fun _ _=>aK fun _ _=>bn<|bn<|aH fun _=>aH fun _=>bZ fun _ _=>fun h=>by intros;subst_vars;exact bB (arA _ _ _ _) h
def wB (aS:List Int):Int→Tre (Int ⊕ Int):=fun s2=>
 .cond (decide (s2>0))
  (.ite (0≤aJ .i64 (s2-1)∧aJ .i64 (s2-1)<(aS.length:Int))<|
  .mat (aS[(aJ .i64 (s2-1)).toNat]?) fun x1=>
  .cond (decide (x1=0))
   (.ret (.inl (aJ .i64 (s2-1))))
   (.ret (.inr s2)))
  (.ret (.inr s2))
def ag1 (p0:List Int):Tre (List Int):=
 .mat (aL (wB p0) (p0.length:Int)) fun l2=>
 .ite (0≤(0:Int)∧(0:Int)≤l2∧l2≤(p0.length:Int))<|
 let v3:=(p0.drop 0).take (l2-0).toNat
 .mat (fQ v3) fun r4=>
 .ret r4
def FI (p0:List Int):Option (List Int):=(ag1 p0).run some
-- more
theorem apE{l:List Nat}(hl2:l.length≤1000):FI (aW l)=some (aW (dh l)):=by
 have htl:=lC l
 have hlen:=aY l
 have hm:∀n,0<n→n≤l.length→aJ .i64 ((n:Int)-1)=((n-1:Nat):Int):=fun n h1 h2=>gP h1 (by omega)
 have hx:∀n,0<n→n≤l.length→(aW l)[n-1]?=some (cf l (n-1):Int):=fun n h1 h2=>dX (fI (by omega))
 unfold FI ag1
 rw [ah (show aL (wB (aW l)) ((aW l).length:Int)=some (((dh l).length:Nat):Int) from ?_)]
 ·rw [Tre.run_ite,if_pos (by omega)]
  dsimp only
  rw [show ((((dh l).length:Nat):Int)-0).toNat=(dh l).length by omega,List.drop_zero,←Yi,aeW,ah (show fQ (aW (dh l))=some _ from Dl (by rw [aY];omega)),Tre.aG]
 have h0:((aW l).length:Int)=((l.length-0:Nat):Int):=by rw [hlen];omega
 rw [h0]
 refine cO (fun i=>((l.length-i:Nat):Int)) (l.length-(dh l).length) _ (fun i hi=>?_) ?_
 ·unfold wB
  rw [Tre.aA,decide_eq_true (by omega),cond_true,hm _ (by omega) (by omega),dM (hx _ (by omega) (by omega)),Tre.aA,decide_eq_true (by rw [II (by omega)];rfl),cond_true,Tre.aG,Nat.sub_sub]
 ·rw [show l.length-(l.length-(dh l).length)=(dh l).length by omega]
  unfold wB
  by_cases hz:(dh l).length=0
  ·rw [Tre.aA,decide_eq_false (by omega),cond_false,Tre.aG]
  ·have h1:=(Qa l).resolve_left hz
   rw [Tre.aA,decide_eq_true (by omega),cond_true,hm _ (by omega) htl,dM (hx _ (by omega) htl),Tre.aA,decide_eq_false (by omega),cond_false,Tre.aG]
def MP:Env:=⟨tau,[(108,Dx)],[]⟩
def ah8:Code:=(Tryz.f73.body).getD .skip
def TY (eF:Bool) (aS:List Int):Int→St:=fun x=>bO [(0,(.imm eF .il aS)),(3,(.i x))] []
def PZ (eF:Bool) (aS:List Int):Int→Ex×St:=fun x=>(.exit 0,bO [(0,(.imm eF .il aS)),(3,(.i x))] [])
def am1 (s:St):Tre (Ex×St):=
 bg .il (s.tmps 0) fun z3 d2=>
 ay true .n (s.tmps 3) fun d5=>
 .mat (aL (wB d2) d5) fun x=>.ret (PZ z3 d2 x)
def BM:bA:=⟨([0,3],[]),([0,3],[]),am1⟩
def XV:List (Nat×bA):=[(2,BM)]
theorem aeI:∀(eF:Bool)(aS:List Int)(x:Int)(c:St→Option (Ex×St)),den MP XV (aR ah8 0) (TY eF aS x) (bR BM.kp BM.kx c)=(wB aS x).run (bS (TY eF aS) (PZ eF aS) c):=fun _ _ _ _=>by
 kernel_rfl
theorem ajH:bP MP XV (aR ah8 0) BM:=bV fun _ _ _=>bZ fun _ _=>aH fun _=>fun h e4 e1=>bJ (aeI _ _) h (by subst_vars;exact aM rfl rfl ⟨e1,e4,trivial⟩ trivial)
def auP:FnI:=fnI Tryz.f73 XV
def aal (_:Bool) (_:List Int):(List Int)→au:=fun r=>⟨(.ref (1,0) []),[],[⟨false,.il,.own,r⟩]⟩
theorem arC:∀(zp0:Bool)(p0:List Int),bL MP auP ⟨[(.imm zp0 .il p0)],[]⟩=(ag1 p0).run fun r=>some (aal zp0 p0 r):=fun _ _=>by kernel_rfl
def auO (av:List AV) (rs:List Root):Tre au:=
 aD av fun a0_ av0=>
 aN av0<|
 aN rs<|
 bg .il a0_ fun z2 d1=>
 .mat (FI d1) fun r=>.ret (aal z2 d1 r)
def ah9:Ctr:=dD [] auO
theorem arD:Contract Tryz.prog .none 73 ah9:=aB (V:=MP) aV (ak Fv afg aI) Tryz.func73 (bD (n:=1) fun k hk=>by
 match k,hk with
 |0,_=>exact bF (id:=2) ajH) fun _ _ _=>aK fun _ _=>bn<|bn<|bZ fun _ _=>fun h=>by intros;subst_vars;exact bB (arC _ _) h
def jV (aS:List Int) (dA:(Int×(Int×Unit))):Int→Tre (Int ⊕ (Bool ⊕ Unit)):=fun s2=>
 .cond (decide (s2<(aS.length:Int)))
  (.ite (0≤s2∧s2<(aS.length:Int))<|
  .mat (aS[s2.toNat]?) fun x1=>
  .mat (zI dA) fun r2=>
  let v3:=inR x1 0 (aJ .i64 (r2-1))
  .cond (!v3)
   (.ret (.inr (.inl false)))
   (.ret (.inl (aJ .i64 (s2+1)))))
  (.ret (.inr (.inr ())))
def NH (p0:(Int×(Int×Unit))) (p1:List Int):Tre Bool:=
 .mat (aL (jV p1 p0) 0) fun l4=>
 .alt l4
  (fun a5=>
   .ret a5)
  (fun _=>
   .ret true)
def yB (p0:(Int×(Int×Unit))) (p1:List Int):Option Bool:=(NH p0 p1).run some
def yC:Env:=⟨tau,[(87,Mk),(86,Dv)],[]⟩
def TD:Code:=(Tryz.f140.body).getD .skip
def wY (eF:Bool) (aS:List Int) (dA:(Int×(Int×Unit))):Int→St:=fun x=>bO [(1,(.imm eF .il aS)),(2,(.ptr (4,0) [])),(5,(.i x))] [((4,0),some ⟨true,aP,.own,dA⟩)]
def oH (_:Bool) (_:List Int) (_:(Int×(Int×Unit))):(Bool ⊕ Unit)→Ex×St
 |.inl x=>(.ret,bO [(4,(.imm true .bool x))] [])
 |.inr _=>(.exit 0,bO [(4,.dead)] [])
def J7 (s:St):Tre (Ex×St):=
 bg .il (s.tmps 1) fun z3 d2=>
 dR (4,0) [] (s.tmps 2)<|
 ay true .n (s.tmps 5) fun d6=>
 aZ true aP (s.roots (4,0)) fun m8 d9=>
 asM .own m8<|
 .mat (aL (jV d2 d9) d6) fun x=>.alt x (fun a0=>.ret (oH z3 d2 d9 (.inl a0))) (fun b0=>.ret (oH z3 d2 d9 (.inr b0)))
def mX:bA:=⟨([1,2,5],[(4,0)]),([4],[]),J7⟩
def Gg:List (Nat×bA):=[(2,mX)]
theorem UL:∀(eF:Bool)(aS:List Int)(dA:(Int×(Int×Unit)))(x:Int)(c:St→Option (Ex×St)),den yC Gg (aR TD 0) (wY eF aS dA x) (bR mX.kp mX.kx c)=(jV aS dA x).run (bS (wY eF aS dA) (oH eF aS dA) c):=fun _ _ _ _ _=>by
 kernel_rfl
theorem Zd:bP yC Gg (aR TD 0) mX:=fP fun s e s' h=>by
 generalize hs:restrict mX.kp s=s1 at h
 have h:(J7 s1).run some=some (e,s'):=h
 obtain ⟨z3,d2,e1,h_0⟩:=fG h
 obtain ⟨e4,h_1⟩:=Qh h_0
 obtain ⟨d6,e5,h_2⟩:=cu h_1
 obtain ⟨m8,d9,e7,h_3⟩:=gQ h_2
 obtain ⟨rfl,h_4⟩:=uI h_3
 obtain ⟨y,hy,hz⟩:=iE h_4
 refine ⟨_,_,wY z3 d2 d9,oH z3 d2 d9,jV d2 d9,d6,y,?_,hy,?_,UL z3 d2 d9⟩
 ·subst hs;exact aM (T:=[(1,(.imm z3 .il d2)),(2,(.ptr (4,0) [])),(5,(.i d6))]) (U:=[((4,0),some ⟨true,aP,.own,d9⟩)]) rfl rfl ⟨e1,e4,e5,trivial⟩ ⟨e7,trivial⟩
 ·rcases y with x|x<;>exact Option.some.inj hz
def ajt:FnI:=fnI Tryz.f140 Gg
def MC (_:Bool) (_:(Int×(Int×Unit))) (_:List Int):Bool→au:=fun r=>⟨(.imm true .bool r),[],[]⟩
theorem agG:∀(zp0:Bool)(p0:(Int×(Int×Unit)))(p1:List Int),bL yC ajt ⟨[(.imm true aP p0),(.imm zp0 .il p1)],[]⟩=(NH p0 p1).run fun r=>some (MC zp0 p0 p1 r):=fun _ _ _=>by kernel_rfl
def ajs (av:List AV) (rs:List Root):Tre au:=
 aD av fun a0_ av0=>
 aD av0 fun a1_ av1=>
 aN av1<|
 aN rs<|
 ay true aP a0_ fun d1=>
 bg .il a1_ fun z3 d2=>
 .mat (yB d1 d2) fun r=>.ret (MC z3 d1 d2 r)
def TG:Ctr:=dD [] ajs
theorem agH:Contract Tryz.prog .none 140 TG:=aB (V:=yC) aV (ak RV aAG (ak Dw aoV aI)) Tryz.func140 (bD (n:=1) fun k hk=>by
 match k,hk with
 |0,_=>exact bF (id:=2) Zd) fun _ _ _=>aK fun _ _=>aK fun _ _=>bn<|bn<|aH fun _=>bZ fun _ _=>fun h=>by intros;subst_vars;exact bB (agG _ _ _) h
def ark (p0:(Int×(Int×Unit))) (p1:List Int):Tre Bool:=
 .cond (decide ((p1.length:Int)≤12))
  (.mat (yB p0 p1) fun r1=>
  .cond r1
   (.cond (decide ((p1.length:Int)=0))
    (.ret true)
    (let v2:=aJ .i64 ((p1.length:Int)-1)
    .ite (0≤v2∧v2<(p1.length:Int))<|
    .mat (p1[v2.toNat]?) fun x3=>
    .ret (!decide (x3=0))))
   (.ret false))
  (.ret false)
def Yt (p0:(Int×(Int×Unit))) (p1:List Int):Option Bool:=(ark p0 p1).run some
def apz:Env:=⟨tau,[(140,TG)],[]⟩
def azy:FnI:=fnI Tryz.f139 []
def ahW (_:Bool) (_:(Int×(Int×Unit))) (_:List Int):Bool→au:=fun r=>⟨(.imm true .bool r),[],[]⟩
theorem awF:∀(zp0:Bool)(p0:(Int×(Int×Unit)))(p1:List Int),bL apz azy ⟨[(.imm true aP p0),(.imm zp0 .il p1)],[]⟩=(ark p0 p1).run fun r=>some (ahW zp0 p0 p1 r):=fun _ _ _=>by kernel_rfl
def azx (av:List AV) (rs:List Root):Tre au:=
 aD av fun a0_ av0=>
 aD av0 fun a1_ av1=>
 aN av1<|
 aN rs<|
 ay true aP a0_ fun d1=>
 bg .il a1_ fun z3 d2=>
 .mat (Yt d1 d2) fun r=>.ret (ahW z3 d1 d2 r)
def apA:Ctr:=dD [] azx
theorem awG:Contract Tryz.prog .none 139 apA:=aB (V:=apz) aV (ak agH aE6 aI) Tryz.func139 bN fun _ _ _=>aK fun _ _=>aK fun _ _=>bn<|bn<|aH fun _=>bZ fun _ _=>fun h=>by intros;subst_vars;exact bB (awF _ _ _) h
def Nz (p0:(Int×(Int×Unit))) (p1:List Int):Tre Bool:=
 .mat (IC p0) fun r1=>
 .cond r1
  (.mat (Yt p0 p1) fun r2=>
  .ret r2)
  (.ret false)
def rQ (p0:(Int×(Int×Unit))) (p1:List Int):Option Bool:=(Nz p0 p1).run some
def Tp:Env:=⟨tau,[(83,agx),(139,apA)],[]⟩
def ajf:FnI:=fnI Tryz.f127 []
def Me (_:Bool) (_:(Int×(Int×Unit))) (_:List Int):Bool→au:=fun r=>⟨(.imm true .bool r),[],[]⟩
theorem agq:∀(zp0:Bool)(p0:(Int×(Int×Unit)))(p1:List Int),bL Tp ajf ⟨[(.imm true aP p0),(.imm zp0 .il p1)],[]⟩=(Nz p0 p1).run fun r=>some (Me zp0 p0 p1 r):=fun _ _ _=>by kernel_rfl
def aje (av:List AV) (rs:List Root):Tre au:=
 aD av fun a0_ av0=>
 aD av0 fun a1_ av1=>
 aN av1<|
 aN rs<|
 ay true aP a0_ fun d1=>
 bg .il a1_ fun z3 d2=>
 .mat (rQ d1 d2) fun r=>.ret (Me z3 d1 d2 r)
def Tq:Ctr:=dD [] aje
theorem agr:Contract Tryz.prog .none 127 Tq:=aB (V:=Tp) aV (ak ami aD2 (ak awG aE5 aI)) Tryz.func127 bN fun _ _ _=>aK fun _ _=>aK fun _ _=>bn<|bn<|aH fun _=>bZ fun _ _=>fun h=>by intros;subst_vars;exact bB (agq _ _ _) h
def agF (p0:(Int×(Int×Unit))) (p1:List Int) (p2:List Int):Tre Int:=
 .mat (rQ p0 p1) fun r1=>
 .cond (!r1)
  (.ret 1)
  (.mat (rQ p0 p2) fun r2=>
  .cond (!r2)
   (.ret 1)
   (.cond (decide ((p2.length:Int)=0))
    (.ret 4)
    (.ret 0)))
def MB (p0:(Int×(Int×Unit))) (p1:List Int) (p2:List Int):Option Int:=(agF p0 p1 p2).run some
def ahS:Env:=⟨tau,[(127,Tq)],[]⟩
def auu:FnI:=fnI Tryz.f106 []
def Z9 (_:Bool) (_:Bool) (_:(Int×(Int×Unit))) (_:List Int) (_:List Int):Int→au:=fun r=>⟨(.i r),[],[]⟩
theorem arf:∀(zp0 zp1:Bool)(p0:(Int×(Int×Unit)))(p1 p2:List Int),bL ahS auu ⟨[(.imm true aP p0),(.imm zp0 .il p1),(.imm zp1 .il p2)],[]⟩=(agF p0 p1 p2).run fun r=>some (Z9 zp0 zp1 p0 p1 p2 r):=fun _ _ _ _ _=>by kernel_rfl
def aut (av:List AV) (rs:List Root):Tre au:=
 aD av fun a0_ av0=>
 aD av0 fun a1_ av1=>
 aD av1 fun a2_ av2=>
 aN av2<|
 aN rs<|
 ay true aP a0_ fun d1=>
 bg .il a1_ fun z3 d2=>
 bg .il a2_ fun z5 d4=>
 .mat (MB d1 d2 d4) fun r=>.ret (Z9 z3 z5 d1 d2 d4 r)
def ahT:Ctr:=dD [] aut
theorem arh:Contract Tryz.prog .none 106 ahT:=aB (V:=ahS) aV (ak agr aEU aI) Tryz.func106 bN fun _ _ _=>aK fun _ _=>aK fun _ _=>aK fun _ _=>bn<|bn<|aH fun _=>bZ fun _ _=>bZ fun _ _=>fun h=>by intros;subst_vars;exact bB (arf _ _ _ _ _) h
def QY (p0:(Int×(Int×Unit))) (p1:Int) (p2:Int):Tre Int:=
 .ifn (p0.1=0)<|
 let v1:=aJ .i64 (p0.1-(Int.tmod p2 p0.1))
 .ifn (p0.1=0)<|
 .mat (gD p0 p1 (Int.tmod v1 p0.1)) fun r2=>
 .ret r2
def Am (p0:(Int×(Int×Unit))) (p1:Int) (p2:Int):Option Int:=(QY p0 p1 p2).run some
-- more
theorem aA8{f:TF3}(hf:aO f=true){x:Nat}(hx:x<(FOf f hf).q)(k:Nat):Am f (x:Int) (k:Int)=some (((FOf f hf).sqn (ZU f.1.toNat k) x:Nat):Int):=by
 obtain ⟨h1,h2,h3,h4⟩:=aCG hf
 have hm:Int.tmod (k:Int) f.1=((k%f.1.toNat:Nat):Int):=by
  conv=>lhs;rw [h1]
  exact (Int.ofNat_tmod k f.1.toNat).symm
 have hk:k%f.1.toNat<f.1.toNat:=Nat.mod_lt _ (by omega)
 have h5:aJ .i64 (f.1-Int.tmod (k:Int) f.1)=((f.1.toNat-k%f.1.toNat:Nat):Int):=by
  rw [hm,dS (by omega) (by omega)];omega
 have hm2:Int.tmod ((f.1.toNat-k%f.1.toNat:Nat):Int) f.1=((ZU f.1.toNat k:Nat):Int):=by
  conv=>lhs;rw [h1]
  exact (Int.ofNat_tmod _ f.1.toNat).symm
 unfold Am QY
 rw [Tre.RL,if_neg h2]
 dsimp only
 rw [h5,Tre.RL,if_neg h2,hm2,ah (alq hf hx _),Tre.aG]
def VA:Env:=⟨tau,[(62,mH)],[]⟩
def akP:FnI:=fnI Tryz.f78 []
def Oo (_:(Int×(Int×Unit))) (_:Int) (_:Int):Int→au:=fun r=>⟨(.i r),[],[]⟩
theorem aiv:∀(p0:(Int×(Int×Unit)))(p1 p2:Int),bL VA akP ⟨[(.imm true aP p0),(.i p1),(.i p2)],[]⟩=(QY p0 p1 p2).run fun r=>some (Oo p0 p1 p2 r):=fun _ _ _=>by kernel_rfl
def akO (av:List AV) (rs:List Root):Tre au:=
 aD av fun a0_ av0=>
 aD av0 fun a1_ av1=>
 aD av1 fun a2_ av2=>
 aN av2<|
 aN rs<|
 ay true aP a0_ fun d1=>
 ay true .n a1_ fun d2=>
 ay true .n a2_ fun d3=>
 .mat (Am d1 d2 d3) fun r=>.ret (Oo d1 d2 d3 r)
def VB:Ctr:=dD [] akO
theorem aiw:Contract Tryz.prog .none 78 VB:=aB (V:=VA) aV (ak og asy aI) Tryz.func78 bN fun _ _ _=>aK fun _ _=>aK fun _ _=>aK fun _ _=>bn<|bn<|aH fun _=>aH fun _=>aH fun _=>fun h=>by intros;subst_vars;exact bB (aiv _ _ _) h
def agJ (p0:(Int×(Int×Unit))) (p1:Int) (p2:Int):Tre Int:=
 .ifn (p0.1=0)<|
 let v1:=aJ .i64 (p0.1-(Int.tmod p2 p0.1))
 .mat (mE p0 p1 v1) fun r2=>
 .ret r2
def MG (p0:(Int×(Int×Unit))) (p1:Int) (p2:Int):Option Int:=(agJ p0 p1 p2).run some
-- more
theorem aB7{f:TF3}(hf:aO f=true){x:Nat}(hx:x<(FOf f hf).q)(k:Nat):MG f (x:Int) (k:Int)=some (((FOf f hf).sqn (ZU f.1.toNat k) x:Nat):Int):=by
 obtain ⟨h1,h2,h3,h4⟩:=aCG hf
 have hm:Int.tmod (k:Int) f.1=((k%f.1.toNat:Nat):Int):=by
  conv=>lhs;rw [h1]
  exact (Int.ofNat_tmod k f.1.toNat).symm
 have hk:k%f.1.toNat<f.1.toNat:=Nat.mod_lt _ (by omega)
 have h5:aJ .i64 (f.1-Int.tmod (k:Int) f.1)=((f.1.toNat-k%f.1.toNat:Nat):Int):=by
  rw [hm,dS (by omega) (by omega)];omega
 unfold MG agJ
 rw [Tre.RL,if_neg h2]
 dsimp only
 rw [h5,ah (am9 hf hx _),Tre.aG]
 unfold ZU
 rw [aeR hf hx]
def ahX:Env:=⟨tau,[(56,xO)],[]⟩
def auz:FnI:=fnI Tryz.f128 []
def aad (_:(Int×(Int×Unit))) (_:Int) (_:Int):Int→au:=fun r=>⟨(.i r),[],[]⟩
theorem arl:∀(p0:(Int×(Int×Unit)))(p1 p2:Int),bL ahX auz ⟨[(.imm true aP p0),(.i p1),(.i p2)],[]⟩=(agJ p0 p1 p2).run fun r=>some (aad p0 p1 p2 r):=fun _ _ _=>by kernel_rfl
def auy (av:List AV) (rs:List Root):Tre au:=
 aD av fun a0_ av0=>
 aD av0 fun a1_ av1=>
 aD av1 fun a2_ av2=>
 aN av2<|
 aN rs<|
 ay true aP a0_ fun d1=>
 ay true .n a1_ fun d2=>
 ay true .n a2_ fun d3=>
 .mat (MG d1 d2 d3) fun r=>.ret (aad d1 d2 d3 r)
def ahY:Ctr:=dD [] auy
theorem arn:Contract Tryz.prog .none 128 ahY:=aB (V:=ahX) aV (ak Bq axe aI) Tryz.func128 bN fun _ _ _=>aK fun _ _=>aK fun _ _=>aK fun _ _=>bn<|bn<|aH fun _=>aH fun _=>aH fun _=>fun h=>by intros;subst_vars;exact bB (arl _ _ _) h
def agM (p0:Int) (p1:Int):Tre (List Int):=
 .ite ((.n:K)=.n∧0≤aJ .i64 (p1+1)∧aJ .i64 (p1+1)=aJ .i64 (p1+1)∧aJ .i64 (p1+1)*(8:Nat)≤140737488355328∧1≤8)<|
 .ite (0≤p1∧p1<((List.replicate (aJ .i64 (p1+1)).toNat (0:Int)).length:Int))<|
 .mat ((List.replicate (aJ .i64 (p1+1)).toNat (0:Int))[p1.toNat]?) fun _=>
 let v2:=(List.replicate (aJ .i64 (p1+1)).toNat (0:Int)).set p1.toNat p0
 .ret v2
def MH (p0:Int) (p1:Int):Option (List Int):=(agM p0 p1).run some
def ahZ:Env:=⟨tau,[],[]⟩
def auD:FnI:=fnI Tryz.f129 []
def aae (_:Int) (_:Int):(List Int)→au:=fun r=>⟨(.ref (1,0) []),[],[⟨false,.il,.own,r⟩]⟩
theorem aro:∀(p0 p1:Int),bL ahZ auD ⟨[(.i p0),(.i p1)],[]⟩=(agM p0 p1).run fun r=>some (aae p0 p1 r):=fun _ _=>by kernel_rfl
def auC (av:List AV) (rs:List Root):Tre au:=
 aD av fun a0_ av0=>
 aD av0 fun a1_ av1=>
 aN av1<|
 aN rs<|
 ay true .n a0_ fun d1=>
 ay true .n a1_ fun d2=>
 .mat (MH d1 d2) fun r=>.ret (aae d1 d2 r)
def ah0:Ctr:=dD [] auC
theorem arp:Contract Tryz.prog .none 129 ah0:=aB (V:=ahZ) aV aI Tryz.func129 bN fun _ _ _=>aK fun _ _=>aK fun _ _=>bn<|bn<|aH fun _=>aH fun _=>fun h=>by intros;subst_vars;exact bB (aro _ _) h
def wm (aS:List Int):Int→Tre (Int ⊕ Int):=fun s2=>
 .cond (decide (s2>0))
  (.ite (0≤aJ .i64 (s2-1)∧aJ .i64 (s2-1)<(aS.length:Int))<|
  .mat (aS[(aJ .i64 (s2-1)).toNat]?) fun x1=>
  .cond (decide (x1=0))
   (.ret (.inl (aJ .i64 (s2-1))))
   (.ret (.inr s2)))
  (.ret (.inr s2))
def agN (p0:List Int):Tre (List Int):=
 .mat (aL (wm p0) (p0.length:Int)) fun l2=>
 .ite (0≤(0:Int)∧(0:Int)≤l2∧l2≤(p0.length:Int))<|
 let v3:=(p0.drop 0).take (l2-0).toNat
 .mat (fQ v3) fun r4=>
 .ret r4
def FB (p0:List Int):Option (List Int):=(agN p0).run some
-- more
theorem auY{l:List Nat}(hl2:l.length≤1000):FB (aW l)=some (aW (dh l)):=by
 have htl:=lC l
 have hlen:=aY l
 have hm:∀n,0<n→n≤l.length→aJ .i64 ((n:Int)-1)=((n-1:Nat):Int):=fun n h1 h2=>gP h1 (by omega)
 have hx:∀n,0<n→n≤l.length→(aW l)[n-1]?=some (cf l (n-1):Int):=fun n h1 h2=>dX (fI (by omega))
 unfold FB agN
 rw [ah (show aL (wm (aW l)) ((aW l).length:Int)=some (((dh l).length:Nat):Int) from ?_)]
 ·rw [Tre.run_ite,if_pos (by omega)]
  dsimp only
  rw [show ((((dh l).length:Nat):Int)-0).toNat=(dh l).length by omega,List.drop_zero,←Yi,aeW,ah (show fQ (aW (dh l))=some _ from Dl (by rw [aY];omega)),Tre.aG]
 have h0:((aW l).length:Int)=((l.length-0:Nat):Int):=by rw [hlen];omega
 rw [h0]
 refine cO (fun i=>((l.length-i:Nat):Int)) (l.length-(dh l).length) _ (fun i hi=>?_) ?_
 ·unfold wm
  rw [Tre.aA,decide_eq_true (by omega),cond_true,hm _ (by omega) (by omega),dM (hx _ (by omega) (by omega)),Tre.aA,decide_eq_true (by rw [II (by omega)];rfl),cond_true,Tre.aG,Nat.sub_sub]
 ·rw [show l.length-(l.length-(dh l).length)=(dh l).length by omega]
  unfold wm
  by_cases hz:(dh l).length=0
  ·rw [Tre.aA,decide_eq_false (by omega),cond_false,Tre.aG]
  ·have h1:=(Qa l).resolve_left hz
   rw [Tre.aA,decide_eq_true (by omega),cond_true,hm _ (by omega) htl,dM (hx _ (by omega) htl),Tre.aA,decide_eq_false (by omega),cond_false,Tre.aG]
def MI:Env:=⟨tau,[(108,Dx)],[]⟩
def ah1:Code:=(Tryz.f126.body).getD .skip
def TL (eF:Bool) (aS:List Int):Int→St:=fun x=>bO [(0,(.imm eF .il aS)),(3,(.i x))] []
def PD (eF:Bool) (aS:List Int):Int→Ex×St:=fun x=>(.exit 0,bO [(0,(.imm eF .il aS)),(3,(.i x))] [])
def amN (s:St):Tre (Ex×St):=
 bg .il (s.tmps 0) fun z3 d2=>
 ay true .n (s.tmps 3) fun d5=>
 .mat (aL (wm d2) d5) fun x=>.ret (PD z3 d2 x)
def BF:bA:=⟨([0,3],[]),([0,3],[]),amN⟩
def XK:List (Nat×bA):=[(2,BF)]
theorem aes:∀(eF:Bool)(aS:List Int)(x:Int)(c:St→Option (Ex×St)),den MI XK (aR ah1 0) (TL eF aS x) (bR BF.kp BF.kx c)=(wm aS x).run (bS (TL eF aS) (PD eF aS) c):=fun _ _ _ _=>by
 kernel_rfl
theorem ajv:bP MI XK (aR ah1 0) BF:=bV fun _ _ _=>bZ fun _ _=>aH fun _=>fun h e4 e1=>bJ (aes _ _) h (by subst_vars;exact aM rfl rfl ⟨e1,e4,trivial⟩ trivial)
def auF:FnI:=fnI Tryz.f126 XK
def aaf (_:Bool) (_:List Int):(List Int)→au:=fun r=>⟨(.ref (1,0) []),[],[⟨false,.il,.own,r⟩]⟩
theorem arq:∀(zp0:Bool)(p0:List Int),bL MI auF ⟨[(.imm zp0 .il p0)],[]⟩=(agN p0).run fun r=>some (aaf zp0 p0 r):=fun _ _=>by kernel_rfl
def auE (av:List AV) (rs:List Root):Tre au:=
 aD av fun a0_ av0=>
 aN av0<|
 aN rs<|
 bg .il a0_ fun z2 d1=>
 .mat (FB d1) fun r=>.ret (aaf z2 d1 r)
def XL:Ctr:=dD [] auE
theorem aeu:Contract Tryz.prog .none 126 XL:=aB (V:=MI) aV (ak Fv afg aI) Tryz.func126 (bD (n:=1) fun k hk=>by
 match k,hk with
 |0,_=>exact bF (id:=2) ajv) fun _ _ _=>aK fun _ _=>bn<|bn<|bZ fun _ _=>fun h=>by intros;subst_vars;exact bB (arq _ _) h
def fC:((List Int) ⊕ (Nat×Nat×(List Int)))→Tre (((List Int) ⊕ (Nat×Nat×(List Int))) ⊕ ((List Int) ⊕ (Nat×Nat×(List Int))))
 |.inl s1=>
  .cond (decide ((s1.length:Int)>0))
   (let v1:=aJ .i64 ((s1.length:Int)-1)
   .ite (0≤v1∧v1<(s1.length:Int))<|
   .mat (s1[v1.toNat]?) fun x2=>
   .cond (decide (x2=0))
    (.ite (0≤(0:Int)∧(0:Int)≤v1∧v1≤(s1.length:Int))<|
    .ret (.inl (.inr (0,(v1-0).toNat,s1))))
    (.ret (.inr (.inl s1))))
   (.ret (.inr (.inl s1)))
 |.inr s1=>
  .cond (decide ((s1.2.1:Int)>0))
   (let v3:=aJ .i64 ((s1.2.1:Int)-1)
   .ite (0≤v3∧v3<(s1.2.1:Int))<|
   .mat (s1.2.2[s1.1+v3.toNat]?) fun x4=>
   .cond (decide (x4=0))
    (.ite (0≤(0:Int)∧(0:Int)≤v3∧v3≤(s1.2.1:Int))<|
    .ret (.inl (.inr (s1.1+0,(v3-0).toNat,s1.2.2))))
    (.ret (.inr (.inr (s1.1,s1.2.1,s1.2.2)))))
   (.ret (.inr (.inr (s1.1,s1.2.1,s1.2.2))))
def Wd (p0:List Int):Tre ((List Int) ⊕ (Nat×Nat×(List Int))):=
 .mat (aL fC (.inl p0)) fun l5=>
 .alt l5
  (fun a6=>
   .ret (.inl a6))
  (fun b7=>
   .ret (.inr (b7.1,b7.2.1,b7.2.2)))
def xD (p0:List Int):Option ((List Int) ⊕ (Nat×Nat×(List Int))):=(Wd p0).run some
-- more
def aHf:(List Int) ⊕ (Nat×Nat×(List Int))→List Int
 |.inl a=>a
 |.inr b=>(b.2.2.drop b.1).take b.2.1
def st4(l:List Nat)(n:Nat):(List Int) ⊕ (Nat×Nat×(List Int)):=if n=l.length then .inl (aW l) else .inr (0,n,aW l)
theorem apa{l:List Nat}(hl2:l.length≤1000):∃r,xD (aW l)=some r∧aHf r=aW (dh l):=by
 have htl:=lC l
 have hlen:=aY l
 have hx:∀n,0<n→n≤l.length→(aW l)[n-1]?=some (cf l (n-1):Int):=fun n h1 h2=>dX (fI (by omega))
 have hstep:∀n,0<n→n≤l.length→cf l (n-1)=0→(fC (if n=l.length then .inl (aW l) else .inr (0,n,aW l))).run some=some (.inl (.inr (0,n-1,aW l))):=by
  intro n h1 h2 h0
  by_cases hn:n=l.length
  ·have hm:aJ .i64 (((aW l).length:Int)-1)=((n-1:Nat):Int):=by rw [hlen,←hn,gP (by omega) (by omega)]
   rw [if_pos hn]
   unfold fC
   dsimp only
   rw [Tre.aA,decide_eq_true (by omega),cond_true,hm,dM (hx n h1 h2),Tre.aA,decide_eq_true (by omega),cond_true,Tre.run_ite,if_pos (by omega),Tre.aG]
   rw [show (((n-1:Nat):Int)-0).toNat=n-1 by omega]
  ·have hm:aJ .i64 ((n:Int)-1)=((n-1:Nat):Int):=gP (by omega) (by omega)
   rw [if_neg hn]
   unfold fC
   dsimp only
   rw [Tre.aA,decide_eq_true (by omega),cond_true,hm,Tre.run_ite,if_pos (by omega),Int.toNat_natCast,Nat.zero_add,ah (hx n h1 h2),Tre.aA,decide_eq_true (by omega),cond_true,Tre.run_ite,if_pos (by omega),Tre.aG]
   rw [show (((n-1:Nat):Int)-0).toNat=n-1 by omega]
 have hend:∀n,n≤l.length→(n=0∨cf l (n-1)≠0)→∃r,(fC (if n=l.length then .inl (aW l) else .inr (0,n,aW l))).run some=some (.inr r)∧r=if n=l.length then .inl (aW l) else .inr (0,n,aW l):=by
  intro n h2 h0
  refine ⟨_,?_,rfl⟩
  by_cases hn:n=l.length
  ·have hm:0<n→aJ .i64 (((aW l).length:Int)-1)=((n-1:Nat):Int):=fun h1=>by rw [hlen,←hn,gP (by omega) (by omega)]
   rw [if_pos hn]
   unfold fC
   dsimp only
   by_cases h1:n=0
   ·rw [Tre.aA,decide_eq_false (by omega),cond_false,Tre.aG]
   ·have h0:=h0.resolve_left h1
    rw [Tre.aA,decide_eq_true (by omega),cond_true,hm (by omega),dM (hx n (by omega) h2),Tre.aA,decide_eq_false (by omega),cond_false,Tre.aG]
  ·rw [if_neg hn]
   unfold fC
   dsimp only
   by_cases h1:n=0
   ·rw [Tre.aA,decide_eq_false (by omega),cond_false,Tre.aG]
   ·have hm:aJ .i64 ((n:Int)-1)=((n-1:Nat):Int):=gP (by omega) (by omega)
    have h0:=h0.resolve_left h1
    rw [Tre.aA,decide_eq_true (by omega),cond_true,hm,Tre.run_ite,if_pos (by omega),Int.toNat_natCast,Nat.zero_add,ah (hx n (by omega) h2),Tre.aA,decide_eq_false (by omega),cond_false,Tre.aG]
 obtain ⟨r,hr1,hr2⟩:=hend (dh l).length htl (Qa l)
 refine ⟨r,?_,?_⟩
 ·unfold xD Wd
  have hl:aL fC (.inl (aW l))=some r:=by
   have h0:(.inl (aW l):(List Int) ⊕ (Nat×Nat×(List Int)))=st4 l (l.length-0):=by simp [st4]
   rw [h0]
   refine cO (fun i=>st4 l (l.length-i)) (l.length-(dh l).length) _ (fun i hi=>?_) ?_
   ·unfold st4
    rw [hstep (l.length-i) (by omega) (by omega) (II (by omega))]
    rw [if_neg (show ¬l.length-(i+1)=l.length by omega),Nat.sub_sub]
   ·rw [show l.length-(l.length-(dh l).length)=(dh l).length by omega];exact hr1
  rw [ah hl]
  cases r<;>rfl
 ·rw [hr2]
  split
  ·rename_i h
   show aW l=_
   have:=aeW l
   rw [h,List.take_length] at this
   rw [←this]
  ·show ((aW l).drop 0).take (dh l).length=_
   rw [List.drop_zero,←Yi,aeW]
def D8:Env:=⟨tau,[],[]⟩
def ZH:Code:=(Tryz.f48.body).getD .skip
def tK:((List Int) ⊕ (Nat×Nat×(List Int)))→St
 |.inl x=>bO [(0,(.ref (0,0) []))] [((0,0),some ⟨false,.il,.own,x⟩)]
 |.inr x=>bO [(0,(.slc (0,0) [] x.1 x.2.1))] [((0,0),some ⟨false,.il,.own,x.2.2⟩)]
def iM:((List Int) ⊕ (Nat×Nat×(List Int)))→Ex×St
 |.inl x=>(.exit 0,bO [(0,(.ref (0,0) []))] [((0,0),some ⟨false,.il,.own,x⟩)])
 |.inr x=>(.exit 0,bO [(0,(.slc (0,0) [] x.1 x.2.1))] [((0,0),some ⟨false,.il,.own,x.2.2⟩)])
def OT (s:St):Tre (Ex×St):=
 cond (AV.isRef (s.tmps 0))
 (dF (0,0) [] (s.tmps 0)<|
 aZ false .il (s.roots (0,0)) fun m3 d4=>
 asM .own m3<|
 .mat (aL fC (.inl d4)) fun x=>.alt x (fun a0=>.ret (iM (.inl a0))) (fun b0=>.ret (iM (.inr b0))))
 (az7 (0,0) [] (s.tmps 0) fun i2 n3=>
 aZ false .il (s.roots (0,0)) fun m5 d6=>
 asM .own m5<|
 .mat (aL fC (.inr (i2,n3,d6))) fun x=>.alt x (fun a0=>.ret (iM (.inl a0))) (fun b0=>.ret (iM (.inr b0))))
def qd:bA:=⟨([0],[(0,0)]),([0],[(0,0)]),OT⟩
def Nl:List (Nat×bA):=[(1,qd)]
theorem Gy:∀(x:((List Int) ⊕ (Nat×Nat×(List Int))))(c:St→Option (Ex×St)),den D8 Nl (aR ZH 0) (tK x) (bR qd.kp qd.kx c)=(fC x).run (bS (tK) (iM) c):=fun x _=>by
 rcases x with x|x<;>kernel_rfl
theorem ac5:bP D8 Nl (aR ZH 0) qd:=fP fun s e s' h=>by
 generalize hs:restrict qd.kp s=s1 at h
 have h:(OT s1).run some=some (e,s'):=h
 cases ht0:AV.isRef (s1.tmps 0) with
 |true=>
  have h:=aCh ht0 h
  obtain ⟨e1,h_0⟩:=Qi h
  obtain ⟨m3,d4,e2,h_1⟩:=gQ h_0
  obtain ⟨rfl,h_2⟩:=uI h_1
  obtain ⟨y,hy,hz⟩:=iE h_2
  refine ⟨_,_,tK,iM,fC,(.inl d4),y,?_,hy,?_,Gy⟩
  ·subst hs;exact aM (T:=[(0,(.ref (0,0) []))]) (U:=[((0,0),some ⟨false,.il,.own,d4⟩)]) rfl rfl ⟨e1,trivial⟩ ⟨e2,trivial⟩
  ·rcases y with x|x<;>exact Option.some.inj hz
 |false=>
  have h:=azS ht0 h
  obtain ⟨i2,n3,e1,h_0⟩:=avg h
  obtain ⟨m5,d6,e4,h_1⟩:=gQ h_0
  obtain ⟨rfl,h_2⟩:=uI h_1
  obtain ⟨y,hy,hz⟩:=iE h_2
  refine ⟨_,_,tK,iM,fC,(.inr (i2,n3,d6)),y,?_,hy,?_,Gy⟩
  ·subst hs;exact aM (T:=[(0,(.slc (0,0) [] i2 n3))]) (U:=[((0,0),some ⟨false,.il,.own,d6⟩)]) rfl rfl ⟨e1,trivial⟩ ⟨e4,trivial⟩
  ·rcases y with x|x<;>exact Option.some.inj hz
def anP:FnI:=fnI Tryz.f48 Nl
def F6 (_:List Int):((List Int) ⊕ (Nat×Nat×(List Int)))→au
 |.inl r=>⟨(.ref (0,0) []),[⟨false,.il,.own,r⟩],[]⟩
 |.inr r=>⟨(.slc (0,0) [] r.1 r.2.1),[⟨false,.il,.own,r.2.2⟩],[]⟩
theorem ale:∀(p0:List Int),bL D8 anP ⟨[(.ref (0,0) [])],[⟨false,.il,.own,p0⟩]⟩=(Wd p0).run fun r=>some (F6 p0 r):=fun _=>by kernel_rfl
def anO (av:List AV) (rs:List Root):Tre au:=
 aD av fun a0_ av0=>
 aN av0<|
 aD rs fun r0_ rs0=>
 aN rs0<|
 dF (0,0) [] a0_<|
 wQ false .il r0_ fun m1 d2=>
 asM .own m1<|
 .mat (xD d2) fun r=>.alt r (fun a0=>.ret (F6 d2 (.inl a0))) (fun b0=>.ret (F6 d2 (.inr b0)))
def Nn:Ctr:=dD [0] anO
theorem Wh:Contract Tryz.prog .none 48 Nn:=aB (V:=D8) aV aI Tryz.func48 (bD (n:=1) fun k hk=>by
 match k,hk with
 |0,_=>exact bF (id:=1) ac5) fun _ _ _=>aK fun _ _=>bn<|aK fun _ _=>bn<|fu<|tRt fun _ _=>tM<|fun h=>by intros;subst_vars;exact akB (ale _) h (by rintro (x|x)<;>rfl)
def Iu (bU:List Int) (cZ:Int):(Int×(List Int))→Tre ((Int×(List Int)) ⊕ (List Int)):=fun s4=>
 .cond (decide (s4.1<cZ))
  (.ite (0≤s4.1∧s4.1<(bU.length:Int))<|
  .mat (bU[s4.1.toNat]?) fun x3=>
  .ite (0≤s4.1∧s4.1<(s4.2.length:Int))<|
  .mat (s4.2[s4.1.toNat]?) fun x4=>
  .ite (0≤s4.1∧s4.1<(s4.2.length:Int))<|
  .mat (s4.2[s4.1.toNat]?) fun _=>
  let v6:=s4.2.set s4.1.toNat (iD .i64 x4 x3)
  .ret (.inl (aJ .i64 (s4.1+1),v6)))
  (.ret (.inr s4.2))
def avR (p0:List Int) (p1:List Int):Tre (List Int):=
 let v1:=if (p0.length:Int)<(p1.length:Int) then (p1.length:Int) else (p0.length:Int)
 .ite ((.n:K)=.n∧0≤v1∧v1=v1∧v1*(8:Nat)≤140737488355328∧1≤8)<|
 let v2:=p0.take (List.replicate v1.toNat (0:Int)).length++(List.replicate v1.toNat (0:Int)).drop p0.length
 .mat (aL (Iu p1 (p1.length:Int)) (0,v2)) fun l7=>
 .mat (xD l7) fun r8=>
 .alt r8
  (fun a9=>
   .ret a9)
  (fun b10=>
   .ret ((b10.2.2.drop b10.1).take b10.2.1))
def JD (p0:List Int) (p1:List Int):Option (List Int):=(avR p0 p1).run some
-- more
theorem az0{f:TF3}(hf:aO f=true){A Q:List Nat}(hA:inL (FOf f hf) A)(hQ:inL (FOf f hf) Q)(hl:Q.length≤A.length){i:Nat}(hi:i<Q.length) :
  (aW (jL A (Q.take i)))[i]?=some (cf A i:Int)∧(aW Q)[i]?=some (cf Q i:Int)∧iD .i64 (cf A i:Int) (cf Q i:Int)=((cf A i^^^cf Q i:Nat):Int) ∧
  (aW (jL A (Q.take i))).set i (((cf A i^^^cf Q i:Nat):Int))=aW (jL A (Q.take (i+1))):=by
 have hti:(Q.take i).length=i:=by rw [List.length_take];omega
 obtain ⟨h1,h2⟩:=arV (Q.take i) A (cf Q i) (by omega)
 rw [hti] at h1 h2
 refine ⟨dX h1,dX (fI hi),ab8 hf (pW hA i) (pW hQ i),?_⟩
 rw [←Wj,h2,List.take_add_one,fI hi];rfl
theorem atg{f:TF3}(hf:aO f=true){P Q:List Nat}(hP:inL (FOf f hf) P)(hQ:inL (FOf f hf) Q)(hp:P.length≤1000)(hq:Q.length≤1000):JD (aW P) (aW Q)=some (aW (dh (jL P Q))):=by
 have hm:(if ((aW P).length:Int)<((aW Q).length:Int) then ((aW Q).length:Int) else ((aW P).length:Int))=((max P.length Q.length:Nat):Int):=by
  rw [aY,aY];split<;>omega
 have hv:(aW P).take (List.replicate (max P.length Q.length) (0:Int)).length++(List.replicate (max P.length Q.length) (0:Int)).drop (aW P).length=aW (sQ (max P.length Q.length) P):=by
  rw [List.length_replicate,List.take_of_length_le (by rw [aY];omega),List.drop_replicate,aY]
  unfold sQ
  rw [mU,Di]
 have hpl:(sQ (max P.length Q.length) P).length=max P.length Q.length:=adE (by omega)
 have hpi:inL (FOf f hf) (sQ (max P.length Q.length) P):=ac9 hP fun x hx=>by rw [(List.mem_replicate.1 hx).2];exact FO.zlt _
 obtain ⟨r,hr1,hr2⟩:=apa (l:=jL (sQ (max P.length Q.length) P) Q) (by rw [NV];omega)
 unfold JD avR
 dsimp only
 rw [hm,Tre.run_ite,if_pos ⟨rfl,by omega,rfl,by omega,by omega⟩,Int.toNat_natCast,hv]
 rw [ah (show aL (Iu (aW Q) ((aW Q).length:Int)) (0,aW (sQ (max P.length Q.length) P))=some (aW (jL (sQ (max P.length Q.length) P) Q)) from ?_),ah hr1]
 ·rw [←arU (max P.length Q.length),←hr2]
  cases r<;>rfl
 have h0:sQ (max P.length Q.length) P=jL (sQ (max P.length Q.length) P) (Q.take 0):=by rw [List.take_zero,aj8]
 conv=>lhs;rw [h0]
 refine cO (fun i=>((i:Int),aW (jL (sQ (max P.length Q.length) P) (Q.take i)))) Q.length _ (fun i hi=>?_) ?_
 ·obtain ⟨h1,h2,h3,h4⟩:=az0 hf hpi hQ (by omega) hi
  unfold Iu
  dsimp only
  rw [dW h2,dM h1,dM h1,h3,Int.toNat_natCast,h4,Tre.aG,aQ (by omega)]
 ·unfold Iu
  dsimp only
  rw [aY,dB,Tre.aG,List.take_length]
def acY:Env:=⟨tau,[(48,Nn)],[]⟩
def asT:Code:=(Tryz.f77.body).getD .skip
def acZ (nG:Bool) (bU:List Int) (cZ:Int):(Int×(List Int))→St:=fun x=>bO [(5,(.ref (7,0) [])),(17,(.imm nG .il bU)),(18,(.i cZ)),(19,(.i x.1))] [((7,0),some ⟨false,.il,.own,x.2⟩)]
def ZC (_:Bool) (_:List Int) (_:Int):(List Int)→Ex×St:=fun x=>(.exit 0,bO [(5,(.ref (7,0) []))] [((7,0),some ⟨false,.il,.own,x⟩)])
def asV (s:St):Tre (Ex×St):=
 dF (7,0) [] (s.tmps 5)<|
 bg .il (s.tmps 17) fun z4 d3=>
 ay true .n (s.tmps 18) fun d6=>
 ay true .n (s.tmps 19) fun d8=>
 aZ false .il (s.roots (7,0)) fun m10 d11=>
 asM .own m10<|
 .mat (aL (Iu d3 d6) (d8,d11)) fun x=>.ret (ZC z4 d3 d6 x)
def LJ:bA:=⟨([5,17,18,19],[(7,0)]),([5],[(7,0)]),asV⟩
def ak2:List (Nat×bA):=[(4,LJ)]
theorem ak3:∀(nG:Bool)(bU:List Int)(cZ:Int)(x:(Int×(List Int)))(c:St→Option (Ex×St)),den acY ak2 (aR asT 0) (acZ nG bU cZ x) (bR LJ.kp LJ.kx c)=(Iu bU cZ x).run (bS (acZ nG bU cZ) (ZC nG bU cZ) c):=fun _ _ _ _ _=>by
 kernel_rfl
theorem aqd:bP acY ak2 (aR asT 0) LJ:=bV fun _ _ _=>fu<|bZ fun _ _=>aH fun _=>aH fun _=>bT fun _ _=>tM<|fun h _ e9 e7 e5 e2 e1=>bJ (ak3 _ _ _) h (by subst_vars;exact aM rfl rfl ⟨e1,e2,e5,e7,trivial⟩ ⟨e9,trivial⟩)
def aA0:FnI:=fnI Tryz.f77 ak2
def ak4 (_:Bool) (_:Bool) (_:List Int) (_:List Int):(List Int)→au:=fun r=>⟨(.ref (1,0) []),[],[⟨false,.il,.own,r⟩]⟩
theorem ayT:∀(zp0 zp1:Bool)(p0 p1:List Int),bL acY aA0 ⟨[(.imm zp0 .il p0),(.imm zp1 .il p1)],[]⟩=(avR p0 p1).run fun r=>some (ak4 zp0 zp1 p0 p1 r):=fun _ _ _ _=>by kernel_rfl
def aAZ (av:List AV) (rs:List Root):Tre au:=
 aD av fun a0_ av0=>
 aD av0 fun a1_ av1=>
 aN av1<|
 aN rs<|
 bg .il a0_ fun z2 d1=>
 bg .il a1_ fun z4 d3=>
 .mat (JD d1 d3) fun r=>.ret (ak4 z2 z4 d1 d3 r)
def asU:Ctr:=dD [] aAZ
theorem ayU:Contract Tryz.prog .none 77 asU:=aB (V:=acY) aV (ak Wh aAE aI) Tryz.func77 (bD (n:=1) fun k hk=>by
 match k,hk with
 |0,_=>exact bF (id:=4) aqd) fun _ _ _=>aK fun _ _=>aK fun _ _=>bn<|bn<|bZ fun _ _=>bZ fun _ _=>fun h=>by intros;subst_vars;exact bB (ayT _ _ _ _) h
def zK (aS:List Int):(List Int)→Tre ((List Int) ⊕ (List Int)):=fun s2=>
 .cond (decide ((s2.length:Int)<(aS.length:Int)))
  (.ite ((s2.length+1)*8≤bI∧1≤8)<|
  .ret (.inl (s2++([0]))))
  (.ret (.inr s2))
def zL (fH:List Int):(Int×(List Int))→Tre ((Int×(List Int)) ⊕ (List Int)):=fun s5=>
 .cond (decide (s5.1<(fH.length:Int)))
  (.ite (0≤s5.1∧s5.1<(s5.2.length:Int))<|
  .mat (s5.2[s5.1.toNat]?) fun x3=>
  .ite (0≤s5.1∧s5.1<(fH.length:Int))<|
  .mat (fH[s5.1.toNat]?) fun x4=>
  .ite (0≤s5.1∧s5.1<(s5.2.length:Int))<|
  .mat (s5.2[s5.1.toNat]?) fun _=>
  let v6:=s5.2.set s5.1.toNat (iD .i64 x3 x4)
  .ret (.inl (aJ .i64 (s5.1+1),v6)))
  (.ret (.inr s5.2))
def amJ (p0:List Int) (p1:List Int):Tre (List Int):=
 .mat (fQ p0) fun r1=>
 .mat (aL (zK p1) r1) fun l2=>
 .mat (aL (zL p1) (0,l2)) fun l7=>
 .mat (FB l7) fun r8=>
 .ret r8
def J9 (p0:List Int) (p1:List Int):Option (List Int):=(amJ p0 p1).run some
-- more
theorem ayb{f:TF3}(hf:aO f=true){P Q:List Nat}(hP:inL (FOf f hf) P)(hQ:inL (FOf f hf) Q)(hp:P.length≤1000)(hq:Q.length≤1000):J9 (aW P) (aW Q)=some (aW (dh (jL P Q))):=by
 have hpl:(sQ Q.length P).length=max P.length Q.length:=by simp [sQ];omega
 have hpi:inL (FOf f hf) (sQ Q.length P):=ac9 hP fun x hx=>by rw [(List.mem_replicate.1 hx).2];exact FO.zlt _
 unfold J9 amJ
 rw [ah (show fQ (aW P)=some (aW P) from Dl (by rw [aY];omega))]
 rw [ah (show aL (zK (aW Q)) (aW P)=some (aW (sQ Q.length P)) from ?_)]
 ·rw [ah (show aL (zL (aW Q)) (0,aW (sQ Q.length P))=some (aW (jL (sQ Q.length P) Q)) from ?_),ah (auY (by rw [NV];omega)),Tre.aG,arU]
  have h0:sQ Q.length P=jL (sQ Q.length P) (Q.take 0):=by rw [List.take_zero,aj8]
  conv=>lhs;rw [h0]
  refine cO (fun i=>((i:Int),aW (jL (sQ Q.length P) (Q.take i)))) Q.length _ (fun i hi=>?_) ?_
  ·obtain ⟨h1,h2,h3,h4⟩:=az0 hf hpi hQ (by omega) hi
   unfold zL
   dsimp only
   rw [Tre.aA,decide_eq_true (by rw [aY];omega),cond_true,dM h1,dM h2,dM h1,h3,Int.toNat_natCast,h4,Tre.aG,aQ (by omega)]
  ·unfold zL
   dsimp only
   rw [aY,dB,Tre.aG,List.take_length]
 ·have h0:aW P=aW (P++List.replicate 0 0):=by simp
  conv=>lhs;rw [h0]
  refine cO (fun i=>aW (P++List.replicate i 0)) (Q.length-P.length) _ (fun i hi=>?_) ?_
  ·unfold zK
   rw [Tre.aA,decide_eq_true (by rw [aY,aY,List.length_append,List.length_replicate];omega),cond_true,Tre.run_ite,if_pos (by rw [aY,List.length_append,List.length_replicate];unfold bI;omega),Tre.aG]
   rw [List.replicate_succ',←List.append_assoc,mU (P++List.replicate i 0)]
   rfl
  ·unfold zK
   rw [Tre.aA,decide_eq_false (by rw [aY,aY,List.length_append,List.length_replicate];omega),cond_false,Tre.aG]
   rfl
def Dy:Env:=⟨tau,[(108,Dx),(126,XL)],[]⟩
def R5:Code:=(Tryz.f130.body).getD .skip
def XI (eF:Bool) (aS:List Int):(List Int)→St:=fun x=>bO [(1,(.imm eF .il aS)),(5,(.ref (7,0) []))] [((7,0),some ⟨false,.il,.own,x⟩)]
def TJ (eF:Bool) (aS:List Int):(List Int)→Ex×St:=fun x=>(.exit 0,bO [(1,(.imm eF .il aS)),(5,(.ref (7,0) []))] [((7,0),some ⟨false,.il,.own,x⟩)])
def aom (s:St):Tre (Ex×St):=
 bg .il (s.tmps 1) fun z3 d2=>
 dF (7,0) [] (s.tmps 5)<|
 aZ false .il (s.roots (7,0)) fun m6 d7=>
 asM .own m6<|
 .mat (aL (zK d2) d7) fun x=>.ret (TJ z3 d2 x)
def Ej:bA:=⟨([1,5],[(7,0)]),([1,5],[(7,0)]),aom⟩
def XJ (X9:Bool) (fH:List Int):(Int×(List Int))→St:=fun x=>bO [(1,(.imm X9 .il fH)),(5,(.ref (7,0) [])),(6,(.i x.1))] [((7,0),some ⟨false,.il,.own,x.2⟩)]
def TK (_:Bool) (_:List Int):(List Int)→Ex×St:=fun x=>(.exit 2,bO [(5,(.ref (7,0) []))] [((7,0),some ⟨false,.il,.own,x⟩)])
def aon (s:St):Tre (Ex×St):=
 bg .il (s.tmps 1) fun z3 d2=>
 dF (7,0) [] (s.tmps 5)<|
 ay true .n (s.tmps 6) fun d6=>
 aZ false .il (s.roots (7,0)) fun m8 d9=>
 asM .own m8<|
 .mat (aL (zL d2) (d6,d9)) fun x=>.ret (TK z3 d2 x)
def El:bA:=⟨([1,5,6],[(7,0)]),([5],[(7,0)]),aon⟩
def J8:List (Nat×bA):=[(2,Ej),(5,El)]
theorem agK:∀(eF:Bool)(aS x:List Int)(c:St→Option (Ex×St)),den Dy J8 (aR R5 0) (XI eF aS x) (bR Ej.kp Ej.kx c)=(zK aS x).run (bS (XI eF aS) (TJ eF aS) c):=fun _ _ _ _=>by
 kernel_rfl
theorem amL:bP Dy J8 (aR R5 0) Ej:=bV fun _ _ _=>bZ fun _ _=>fu<|bT fun _ _=>tM<|fun h _ e5 e4 e1=>bJ (agK _ _) h (by subst_vars;exact aM rfl rfl ⟨e1,e4,trivial⟩ ⟨e5,trivial⟩)
theorem agL:∀(X9:Bool)(fH:List Int)(x:(Int×(List Int)))(c:St→Option (Ex×St)),den Dy J8 (aR R5 1) (XJ X9 fH x) (bR El.kp El.kx c)=(zL fH x).run (bS (XJ X9 fH) (TK X9 fH) c):=fun _ _ _ _=>by
 kernel_rfl
theorem amM:bP Dy J8 (aR R5 1) El:=bV fun _ _ _=>bZ fun _ _=>fu<|aH fun _=>bT fun _ _=>tM<|fun h _ e7 e5 e4 e1=>bJ (agL _ _) h (by subst_vars;exact aM rfl rfl ⟨e1,e4,e5,trivial⟩ ⟨e7,trivial⟩)
def awI:FnI:=fnI Tryz.f130 J8
def aer (_:Bool) (_:Bool) (_:List Int) (_:List Int):(List Int)→au:=fun r=>⟨(.ref (1,0) []),[],[⟨false,.il,.own,r⟩]⟩
theorem auA:∀(zp0 zp1:Bool)(p0 p1:List Int),bL Dy awI ⟨[(.imm zp0 .il p0),(.imm zp1 .il p1)],[]⟩=(amJ p0 p1).run fun r=>some (aer zp0 zp1 p0 p1 r):=fun _ _ _ _=>by kernel_rfl
def awH (av:List AV) (rs:List Root):Tre au:=
 aD av fun a0_ av0=>
 aD av0 fun a1_ av1=>
 aN av1<|
 aN rs<|
 bg .il a0_ fun z2 d1=>
 bg .il a1_ fun z4 d3=>
 .mat (J9 d1 d3) fun r=>.ret (aer z2 z4 d1 d3 r)
def amK:Ctr:=dD [] awH
theorem auB:Contract Tryz.prog .none 130 amK:=aB (V:=Dy) aV (ak Fv afg (ak aeu aAC aI)) Tryz.func130 (bD (n:=2) fun k hk=>by
 match k,hk with
 |0,_=>exact bF (id:=2) amL
 |1,_=>exact bF (id:=5) amM) fun _ _ _=>aK fun _ _=>aK fun _ _=>bn<|bn<|bZ fun _ _=>bZ fun _ _=>fun h=>by intros;subst_vars;exact bB (auA _ _ _ _) h
def jP (dU:Int) (eH:Int) (QS:List Int) (Vl:Int) (IY:(Int×(Int×Unit))):(Int×(List Int))→Tre ((Int×(List Int)) ⊕ (List Int)):=fun s8=>
 .cond (decide (s8.1<Vl))
  (.ite (0≤s8.1∧s8.1<(QS.length:Int))<|
  .mat (QS[s8.1.toNat]?) fun x3=>
  let v4:=aJ .i64 (dU+s8.1)
  .ite (0≤v4∧v4<(s8.2.length:Int))<|
  .mat (s8.2[v4.toNat]?) fun x5=>
  .mat (gD IY x3 dU) fun r6=>
  .mat (cK IY eH r6) fun r7=>
  .ite (0≤v4∧v4<(s8.2.length:Int))<|
  .mat (s8.2[v4.toNat]?) fun _=>
  let v9:=s8.2.set v4.toNat (iD .i64 x5 r7)
  .ret (.inl (aJ .i64 (s8.1+1),v9)))
  (.ret (.inr s8.2))
def jO (fH:List Int) (jN:List Int) (Vg:Int) (Vi:(Int×(Int×Unit))):(Int×(List Int))→Tre ((Int×(List Int)) ⊕ (List Int)):=fun s5=>
 .cond (decide (s5.1<Vg))
  (.ite (0≤s5.1∧s5.1<(jN.length:Int))<|
  .mat (jN[s5.1.toNat]?) fun x2=>
  .mat (aL (jP s5.1 x2 fH (fH.length:Int) Vi) (0,s5.2)) fun l10=>
  .ret (.inl (aJ .i64 (s5.1+1),l10)))
  (.ret (.inr s5.2))
def FT (p0:(Int×(Int×Unit))) (p1:List Int) (p2:List Int):Tre (List Int):=
 .cond (decide ((p1.length:Int)=0))
  (.ret [])
  (.cond (decide ((p2.length:Int)=0))
   (.ret [])
   (let v1:=aJ .i64 ((p1.length:Int)+(p2.length:Int))
   .ite ((.n:K)=.n∧0≤aJ .i64 (v1-1)∧aJ .i64 (v1-1)=aJ .i64 (v1-1)∧aJ .i64 (v1-1)*(8:Nat)≤140737488355328∧1≤8)<|
   .mat (aL (jO p2 p1 (p1.length:Int) p0) (0,List.replicate (aJ .i64 (v1-1)).toNat (0:Int))) fun l11=>
   .mat (xD l11) fun r12=>
   .alt r12
    (fun a13=>
     .ret a13)
    (fun b14=>
     .ret ((b14.2.2.drop b14.1).take b14.2.1))))
def nT (p0:(Int×(Int×Unit))) (p1:List Int) (p2:List Int):Option (List Int):=(FT p0 p1 p2).run some
-- more
theorem aw9(F:FO):∀(V:List Nat)(x:Nat→Nat)(i:Nat),(∀i,x i=0)→F.fO V x i=0:=by
 intro V
 induction V with
 |nil=>intro x i _;simp [FO.fO]
 |cons v vs ih=>
  intro x i hx
  simp only [FO.fO]
  rw [hx,F.mul_zero,Nat.zero_xor]
  cases i with
  |zero=>rfl
  |succ i=>exact ih _ i fun j=>by rw [hx,F.Iq]
theorem axa{f:TF3}(hf:aO f=true){A Y:List Nat}(hA:inL (FOf f hf) A)(hY:inL (FOf f hf) Y){i:Nat}(hl:i+Y.length≤A.length){j:Nat}(hj:j<Y.length) :
  (aW (jL A (List.replicate i 0++Y.take j)))[i+j]?=some (cf A (i+j):Int)∧iD .i64 (cf A (i+j):Int) (cf Y j:Int)=((cf A (i+j)^^^cf Y j:Nat):Int) ∧
  (aW (jL A (List.replicate i 0++Y.take j))).set (i+j) (((cf A (i+j)^^^cf Y j:Nat):Int))=aW (jL A (List.replicate i 0++Y.take (j+1))):=by
 have hti:(List.replicate i 0++Y.take j).length=i+j:=by rw [List.length_append,List.length_replicate,List.length_take];omega
 obtain ⟨h1,h2⟩:=arV (List.replicate i 0++Y.take j) A (cf Y j) (by omega)
 rw [hti] at h1 h2
 refine ⟨dX h1,ab8 hf (pW hA _) (pW hY j),?_⟩
 rw [←Wj,h2,List.take_add_one,fI hj,List.append_assoc];rfl
theorem aw6(A:List Nat)(i:Nat)(h:i≤A.length):jL A (List.replicate i 0)=A:=avm (aw5 (by rw [List.length_replicate];exact h)) fun s=>by rw [DI,asa,Nat.xor_zero]
theorem ax4(F:FO)(i c:Nat)(q:List Nat):inL F (F.adO i c q):=by
 intro x hx
 obtain ⟨d,_,rfl⟩:=List.mem_map.1 hx
 exact F.lt _ _
theorem ax3(F:FO){i c:Nat}{q:List Nat}(j:Nat):cf (F.adO i c q) j=F.mul c (F.sqn i (cf q j)):=by
 unfold FO.adO
 rw [apR (by rw [F.auX,F.mul_zero])]
theorem as7{f:TF3}(hf:aO f=true){P Q:List Nat}(hP:inL (FOf f hf) P)(hQ:inL (FOf f hf) Q)(hp:P.length≤400)(hq:Q.length≤400):nT f (aW P) (aW Q)=some (aW (dh ((FOf f hf).uK P Q))):=by
 unfold nT FT
 rw [Tre.aA,aY,aY]
 by_cases h1:P=[]
 ·subst h1;rfl
 have hpl:0<P.length:=List.length_pos_iff.2 h1
 rw [decide_eq_false (by omega),cond_false,Tre.aA]
 by_cases h2:Q=[]
 ·subst h2
  rw [decide_eq_true (show ((([]:List Nat).length:Nat):Int)=0 from rfl),cond_true,Tre.aG,apG fun i=>by rw [FO.U7,aw9 _ _ _ _ zX]]
  rfl
 have hql:0<Q.length:=List.length_pos_iff.2 h2
 have hw1:aJ .i64 ((P.length:Int)+(Q.length:Int))=((P.length+Q.length:Nat):Int):=by rw [dS (by omega) (by omega)];omega
 have hw2:aJ .i64 (((P.length+Q.length:Nat):Int)-1)=((P.length+Q.length-1:Nat):Int):=gP (by omega) (by omega)
 have holen:=(FOf f hf).atV P Q h2
 have hoin:=(FOf f hf).axY P Q
 obtain ⟨r,hr1,hr2⟩:=apa (l:=(FOf f hf).Ij P Q P.length) (by rw [holen _ (Nat.le_refl _)];omega)
 rw [decide_eq_false (by omega),cond_false]
 dsimp only
 rw [hw1,hw2,Tre.run_ite,if_pos ⟨rfl,by omega,rfl,by omega,by omega⟩,Int.toNat_natCast,←Di]
 rw [ah (show aL (jO (aW Q) (aW P) (P.length:Int) f) (0,aW (List.replicate (P.length+Q.length-1) 0))=some (aW ((FOf f hf).Ij P Q P.length)) from ?_),ah hr1]
 ·rw [←(FOf f hf).apo,←hr2]
  cases r<;>rfl
 refine cO (fun i=>((i:Int),aW ((FOf f hf).Ij P Q i))) P.length _ (fun i hi=>?_) ?_
 ·have hpi:=dX (fI hi)
  have hplen:(P.length:Int)=((aW P).length:Int):=by rw [aY]
  have hrl:((FOf f hf).adO i (cf P i) Q).length=Q.length:=by unfold FO.adO;rw [List.length_map]
  unfold jO
  dsimp only
  rw [hplen,dW hpi,aY]
  rw [ah (show aL (jP (i:Int) (cf P i:Int) (aW Q) (Q.length:Int) f) (0,aW ((FOf f hf).Ij P Q i))=some (aW ((FOf f hf).Ij P Q (i+1))) from ?_),Tre.aG,aQ (by omega)]
  have h0:(FOf f hf).Ij P Q i=jL ((FOf f hf).Ij P Q i) (List.replicate i 0++((FOf f hf).adO i (cf P i) Q).take 0):=by rw [List.take_zero,List.append_nil,aw6 _ _ (by rw [holen _ (by omega)];omega)]
  conv=>lhs;rw [h0]
  refine cO (fun j=>((j:Int),aW (jL ((FOf f hf).Ij P Q i) (List.replicate i 0++((FOf f hf).adO i (cf P i) Q).take j)))) Q.length _ (fun j hj=>?_) ?_
  ·obtain ⟨c1,c2,c3⟩:=axa hf (hoin i) (ax4 _ i (cf P i) Q) (i:=i) (by rw [holen _ (by omega),hrl];omega) (j:=j) (by omega)
   have hqlen:(Q.length:Int)=((aW Q).length:Int):=by rw [aY]
   have hij:aJ .i64 ((i:Int)+(j:Int))=((i+j:Nat):Int):=by rw [dS (by omega) (by omega)];omega
   have hqj:=pW hQ j
   unfold jP
   dsimp only
   rw [hqlen,dW (dX (fI hj)),hij,dM c1,ah (alq hf hqj i),ah (aql hf (pW hP i) ((FOf f hf).NR i hqj)),dM c1,←ax3,c2,Int.toNat_natCast,c3,Tre.aG,aQ (by omega)]
  ·unfold jP
   dsimp only
   rw [dB,Tre.aG,List.take_of_length_le (by omega)]
   rfl
 ·unfold jO
  dsimp only
  rw [dB,Tre.aG]
def kQ:Env:=⟨tau,[(62,mH),(75,oN),(48,Nn)],[]⟩
def tu:Code:=(Tryz.f70.body).getD .skip
def Cb (BU:Bool) (NS:Bool) (aCr:Bool) (dJ:List Int) (dU:Int) (eH:Int) (eZ:List Int) (eY:Int) (mP:Int) (QS:List Int) (Vl:Int) (IY:(Int×(Int×Unit))):(Int×(List Int))→St:=fun x=>bO [(2,(.imm BU .il dJ)),(3,(.ptr (5,0) [])),(7,(.ref (9,0) [])),(8,(.i dU)),(9,(.i eH)),(27,(.imm NS .il eZ)),(28,(.i eY)),(29,(.i mP)),(34,(.imm aCr .il QS)),(35,(.i Vl)),(36,(.i x.1))] [((5,0),some ⟨true,aP,.own,IY⟩),((9,0),some ⟨false,.il,.own,x.2⟩)]
def Ag (BU:Bool) (NS:Bool) (_:Bool) (dJ:List Int) (_:Int) (_:Int) (eZ:List Int) (eY:Int) (mP:Int) (_:List Int) (_:Int) (IY:(Int×(Int×Unit))):(List Int)→Ex×St:=fun x=>(.exit 2,bO [(2,(.imm BU .il dJ)),(3,(.ptr (5,0) [])),(7,(.ref (9,0) [])),(27,(.imm NS .il eZ)),(28,(.i eY)),(29,(.i mP))] [((5,0),some ⟨true,aP,.own,IY⟩),((9,0),some ⟨false,.il,.own,x⟩)])
def Vo (s:St):Tre (Ex×St):=
 bg .il (s.tmps 2) fun z3 d2=>
 dR (5,0) [] (s.tmps 3)<|
 dF (9,0) [] (s.tmps 7)<|
 ay true .n (s.tmps 8) fun d7=>
 ay true .n (s.tmps 9) fun d9=>
 bg .il (s.tmps 27) fun z12 d11=>
 ay true .n (s.tmps 28) fun d14=>
 ay true .n (s.tmps 29) fun d16=>
 bg .il (s.tmps 34) fun z19 d18=>
 ay true .n (s.tmps 35) fun d21=>
 ay true .n (s.tmps 36) fun d23=>
 aZ true aP (s.roots (5,0)) fun m25 d26=>
 asM .own m25<|
 aZ false .il (s.roots (9,0)) fun m28 d29=>
 asM .own m28<|
 .mat (aL (jP d7 d9 d18 d21 d26) (d23,d29)) fun x=>.ret (Ag z3 z12 z19 d2 d7 d9 d11 d14 d16 d18 d21 d26 x)
def nV:bA:=⟨([2,3,7,8,9,27,28,29,34,35,36],[(5,0),(9,0)]),([2,3,7,27,28,29],[(5,0),(9,0)]),Vo⟩
def Ca (X9:Bool) (anl:Bool) (fH:List Int) (jN:List Int) (Vg:Int) (Vi:(Int×(Int×Unit))):(Int×(List Int))→St:=fun x=>bO [(2,(.imm X9 .il fH)),(3,(.ptr (5,0) [])),(7,(.ref (9,0) [])),(27,(.imm anl .il jN)),(28,(.i Vg)),(29,(.i x.1))] [((5,0),some ⟨true,aP,.own,Vi⟩),((9,0),some ⟨false,.il,.own,x.2⟩)]
def Af (_:Bool) (_:Bool) (_:List Int) (_:List Int) (_:Int) (_:(Int×(Int×Unit))):(List Int)→Ex×St:=fun x=>(.exit 0,bO [(7,(.ref (9,0) []))] [((9,0),some ⟨false,.il,.own,x⟩)])
def Vn (s:St):Tre (Ex×St):=
 bg .il (s.tmps 2) fun z3 d2=>
 dR (5,0) [] (s.tmps 3)<|
 dF (9,0) [] (s.tmps 7)<|
 bg .il (s.tmps 27) fun z8 d7=>
 ay true .n (s.tmps 28) fun d10=>
 ay true .n (s.tmps 29) fun d12=>
 aZ true aP (s.roots (5,0)) fun m14 d15=>
 asM .own m14<|
 aZ false .il (s.roots (9,0)) fun m17 d18=>
 asM .own m17<|
 .mat (aL (jO d2 d7 d10 d15) (d12,d18)) fun x=>.ret (Af z3 z8 d2 d7 d10 d15 x)
def nU:bA:=⟨([2,3,7,27,28,29],[(5,0),(9,0)]),([7],[(9,0)]),Vn⟩
def nS:List (Nat×bA):=[(8,nV),(5,nU)]
theorem Oa:∀(BU NS aCr:Bool)(dJ:List Int)(dU eH:Int)(eZ:List Int)(eY mP:Int)(QS:List Int)(Vl:Int)(IY:(Int×(Int×Unit)))(x:(Int×(List Int)))(c:St→Option (Ex×St)),den kQ nS (aR tu 1) (Cb BU NS aCr dJ dU eH eZ eY mP QS Vl IY x) (bR nV.kp nV.kx c)=(jP dU eH QS Vl IY x).run (bS (Cb BU NS aCr dJ dU eH eZ eY mP QS Vl IY) (Ag BU NS aCr dJ dU eH eZ eY mP QS Vl IY) c):=fun _ _ _ _ _ _ _ _ _ _ _ _ _ _=>by
 kernel_rfl
theorem Ud:bP kQ nS (aR tu 1) nV:=bV fun _ _ _=>bZ fun _ _=>gL<|fu<|aH fun _=>aH fun _=>bZ fun _ _=>aH fun _=>aH fun _=>bZ fun _ _=>aH fun _=>aH fun _=>bT fun _ _=>tM<|bT fun _ _=>tM<|fun h _ e27 _ e24 e22 e20 e17 e15 e13 e10 e8 e6 e5 e4 e1=>bJ (Oa _ _ _ _ _ _ _ _ _ _ _ _) h (by subst_vars;exact aM rfl rfl ⟨e1,e4,e5,e6,e8,e10,e13,e15,e17,e20,e22,trivial⟩ ⟨e24,e27,trivial⟩)
theorem N9:∀(X9 anl:Bool)(fH jN:List Int)(Vg:Int)(Vi:(Int×(Int×Unit)))(x:(Int×(List Int)))(c:St→Option (Ex×St)),den kQ nS (aR tu 0) (Ca X9 anl fH jN Vg Vi x) (bR nU.kp nU.kx c)=(jO fH jN Vg Vi x).run (bS (Ca X9 anl fH jN Vg Vi) (Af X9 anl fH jN Vg Vi) c):=fun _ _ _ _ _ _ _ _=>by
 kernel_rfl
theorem Uc:bP kQ nS (aR tu 0) nU:=bV fun _ _ _=>bZ fun _ _=>gL<|fu<|bZ fun _ _=>aH fun _=>aH fun _=>bT fun _ _=>tM<|bT fun _ _=>tM<|fun h _ e16 _ e13 e11 e9 e6 e5 e4 e1=>bJ (N9 _ _ _ _ _ _) h (by subst_vars;exact aM rfl rfl ⟨e1,e4,e5,e6,e9,e11,trivial⟩ ⟨e13,e16,trivial⟩)
def acA:FnI:=fnI Tryz.f70 nS
def Gr (_:Bool) (_:Bool) (_:(Int×(Int×Unit))) (_:List Int) (_:List Int):(List Int)→au:=fun r=>⟨(.ref (1,0) []),[],[⟨false,.il,.own,r⟩]⟩
theorem aaK:∀(zp0 zp1:Bool)(p0:(Int×(Int×Unit)))(p1 p2:List Int),bL kQ acA ⟨[(.imm true aP p0),(.imm zp0 .il p1),(.imm zp1 .il p2)],[]⟩=(FT p0 p1 p2).run fun r=>some (Gr zp0 zp1 p0 p1 p2 r):=fun _ _ _ _ _=>by kernel_rfl
def acz (av:List AV) (rs:List Root):Tre au:=
 aD av fun a0_ av0=>
 aD av0 fun a1_ av1=>
 aD av1 fun a2_ av2=>
 aN av2<|
 aN rs<|
 ay true aP a0_ fun d1=>
 bg .il a1_ fun z3 d2=>
 bg .il a2_ fun z5 d4=>
 .mat (nT d1 d2 d4) fun r=>.ret (Gr z3 z5 d1 d2 d4 r)
def Lg:Ctr:=dD [] acz
theorem aaL:Contract Tryz.prog .none 70 Lg:=aB (V:=kQ) aV (ak og asy (ak p8 aoU (ak Wh aAE aI))) Tryz.func70 (bD (n:=2) fun k hk=>by
 match k,hk with
 |0,_=>exact bF (id:=5) Uc
 |1,_=>exact bF (id:=8) Ud) fun _ _ _=>aK fun _ _=>aK fun _ _=>aK fun _ _=>bn<|bn<|aH fun _=>bZ fun _ _=>bZ fun _ _=>fun h=>by intros;subst_vars;exact bB (aaK _ _ _ _ _) h
def nM (dJ:List Int) (dU:List Int) (eH:Int) (eY:(Int×(Int×Unit))):(Int×(List Int))→Tre ((Int×(List Int)) ⊕ (List Int)):=fun s8=>
 .cond (decide (s8.1<(dU.length:Int)))
  (let v2:=aJ .i64 (eH+s8.1)
  .ite (0≤v2∧v2<(s8.2.length:Int))<|
  .mat (s8.2[v2.toNat]?) fun x3=>
  .ite (0≤eH∧eH<(dJ.length:Int))<|
  .mat (dJ[eH.toNat]?) fun x4=>
  .ite (0≤s8.1∧s8.1<(dU.length:Int))<|
  .mat (dU[s8.1.toNat]?) fun x5=>
  .mat (mE eY x5 eH) fun r6=>
  .mat (dY eY x4 r6) fun r7=>
  .ite (0≤v2∧v2<(s8.2.length:Int))<|
  .mat (s8.2[v2.toNat]?) fun _=>
  let v9:=s8.2.set v2.toNat (iD .i64 x3 r7)
  .ret (.inl (aJ .i64 (s8.1+1),v9)))
  (.ret (.inr s8.2))
def nL (fH:List Int) (jN:List Int) (Vh:(Int×(Int×Unit))):(Int×(List Int))→Tre ((Int×(List Int)) ⊕ (List Int)):=fun s5=>
 .cond (decide (s5.1<(fH.length:Int)))
  (.mat (aL (nM fH jN s5.1 Vh) (0,s5.2)) fun l10=>
  .ret (.inl (aJ .i64 (s5.1+1),l10)))
  (.ret (.inr s5.2))
def R4 (p0:(Int×(Int×Unit))) (p1:List Int) (p2:List Int):Tre (List Int):=
 .cond (decide ((p1.length:Int)=0))
  (.ret [])
  (.cond (decide ((p2.length:Int)=0))
   (.ret [])
   (let v1:=aJ .i64 ((p1.length:Int)+(p2.length:Int))
   .ite ((.n:K)=.n∧0≤aJ .i64 (v1-1)∧aJ .i64 (v1-1)=aJ .i64 (v1-1)∧aJ .i64 (v1-1)*(8:Nat)≤140737488355328∧1≤8)<|
   .mat (aL (nL p1 p2 p0) (0,List.replicate (aJ .i64 (v1-1)).toNat (0:Int))) fun l11=>
   .mat (FB l11) fun r12=>
   .ret r12))
def Bz (p0:(Int×(Int×Unit))) (p1:List Int) (p2:List Int):Option (List Int):=(R4 p0 p1 p2).run some
-- more
theorem auR{f:TF3}(hf:aO f=true){P Q:List Nat}(hP:inL (FOf f hf) P)(hQ:inL (FOf f hf) Q)(hp:P.length≤400)(hq:Q.length≤400):Bz f (aW P) (aW Q)=some (aW (dh ((FOf f hf).uK P Q))):=by
 unfold Bz R4
 rw [Tre.aA,aY,aY]
 by_cases h1:P=[]
 ·subst h1;rfl
 have hpl:0<P.length:=List.length_pos_iff.2 h1
 rw [decide_eq_false (by omega),cond_false,Tre.aA]
 by_cases h2:Q=[]
 ·subst h2
  rw [decide_eq_true (show ((([]:List Nat).length:Nat):Int)=0 from rfl),cond_true,Tre.aG,apG fun i=>by rw [FO.U7,aw9 _ _ _ _ zX]]
  rfl
 have hql:0<Q.length:=List.length_pos_iff.2 h2
 have hw1:aJ .i64 ((P.length:Int)+(Q.length:Int))=((P.length+Q.length:Nat):Int):=by rw [dS (by omega) (by omega)];omega
 have hw2:aJ .i64 (((P.length+Q.length:Nat):Int)-1)=((P.length+Q.length-1:Nat):Int):=gP (by omega) (by omega)
 have holen:=(FOf f hf).atV P Q h2
 have hoin:=(FOf f hf).axY P Q
 rw [decide_eq_false (by omega),cond_false]
 dsimp only
 rw [hw1,hw2,Tre.run_ite,if_pos ⟨rfl,by omega,rfl,by omega,by omega⟩,Int.toNat_natCast,←Di]
 rw [ah (show aL (nL (aW P) (aW Q) f) (0,aW (List.replicate (P.length+Q.length-1) 0))=some (aW ((FOf f hf).Ij P Q P.length)) from ?_),ah (auY (by rw [holen _ (Nat.le_refl _)];omega)),Tre.aG,FO.apo]
 refine cO (fun i=>((i:Int),aW ((FOf f hf).Ij P Q i))) P.length _ (fun i hi=>?_) ?_
 ·have hpi:=dX (fI hi)
  have hrl:((FOf f hf).adO i (cf P i) Q).length=Q.length:=by unfold FO.adO;rw [List.length_map]
  unfold nL
  dsimp only
  rw [Tre.aA,decide_eq_true (by rw [aY];omega),cond_true]
  rw [ah (show aL (nM (aW P) (aW Q) (i:Int) f) (0,aW ((FOf f hf).Ij P Q i))=some (aW ((FOf f hf).Ij P Q (i+1))) from ?_),Tre.aG,aQ (by omega)]
  have h0:(FOf f hf).Ij P Q i=jL ((FOf f hf).Ij P Q i) (List.replicate i 0++((FOf f hf).adO i (cf P i) Q).take 0):=by rw [List.take_zero,List.append_nil,aw6 _ _ (by rw [holen _ (by omega)];omega)]
  conv=>lhs;rw [h0]
  refine cO (fun j=>((j:Int),aW (jL ((FOf f hf).Ij P Q i) (List.replicate i 0++((FOf f hf).adO i (cf P i) Q).take j)))) Q.length _ (fun j hj=>?_) ?_
  ·obtain ⟨c1,c2,c3⟩:=axa hf (hoin i) (ax4 _ i (cf P i) Q) (i:=i) (by rw [holen _ (by omega),hrl];omega) (j:=j) (by omega)
   have hij:aJ .i64 ((i:Int)+(j:Int))=((i+j:Nat):Int):=by rw [dS (by omega) (by omega)];omega
   have hqj:=pW hQ j
   unfold nM
   dsimp only
   rw [Tre.aA,decide_eq_true (by rw [aY];omega),cond_true,hij,dM c1,dM hpi,dM (dX (fI hj)),ah (am9 hf hqj i),ah (am6 hf (pW hP i) ((FOf f hf).NR i hqj)),dM c1,←ax3,c2,Int.toNat_natCast,c3,Tre.aG,aQ (by omega)]
  ·unfold nM
   dsimp only
   rw [aY,dB,Tre.aG,List.take_of_length_le (by omega)]
   rfl
 ·unfold nL
  dsimp only
  rw [aY,dB,Tre.aG]
def qx:Env:=⟨tau,[(56,xO),(68,uX),(126,XL)],[]⟩
def BA:Code:=(Tryz.f102.body).getD .skip
def J6 (BU:Bool) (NS:Bool) (dJ:List Int) (dU:List Int) (eH:Int) (eY:(Int×(Int×Unit))):(Int×(List Int))→St:=fun x=>bO [(1,(.imm BU .il dJ)),(2,(.imm NS .il dU)),(3,(.ptr (5,0) [])),(7,(.ref (9,0) [])),(8,(.i eH)),(9,(.i x.1))] [((5,0),some ⟨true,aP,.own,eY⟩),((9,0),some ⟨false,.il,.own,x.2⟩)]
def G8 (BU:Bool) (NS:Bool) (dJ:List Int) (dU:List Int) (eH:Int) (eY:(Int×(Int×Unit))):(List Int)→Ex×St:=fun x=>(.exit 2,bO [(1,(.imm BU .il dJ)),(2,(.imm NS .il dU)),(3,(.ptr (5,0) [])),(7,(.ref (9,0) [])),(8,(.i eH))] [((5,0),some ⟨true,aP,.own,eY⟩),((9,0),some ⟨false,.il,.own,x⟩)])
def aeo (s:St):Tre (Ex×St):=
 bg .il (s.tmps 1) fun z3 d2=>
 bg .il (s.tmps 2) fun z6 d5=>
 dR (5,0) [] (s.tmps 3)<|
 dF (9,0) [] (s.tmps 7)<|
 ay true .n (s.tmps 8) fun d10=>
 ay true .n (s.tmps 9) fun d12=>
 aZ true aP (s.roots (5,0)) fun m14 d15=>
 asM .own m14<|
 aZ false .il (s.roots (9,0)) fun m17 d18=>
 asM .own m17<|
 .mat (aL (nM d2 d5 d10 d15) (d12,d18)) fun x=>.ret (G8 z3 z6 d2 d5 d10 d15 x)
def ug:bA:=⟨([1,2,3,7,8,9],[(5,0),(9,0)]),([1,2,3,7,8],[(5,0),(9,0)]),aeo⟩
def J5 (X9:Bool) (anl:Bool) (fH:List Int) (jN:List Int) (Vh:(Int×(Int×Unit))):(Int×(List Int))→St:=fun x=>bO [(1,(.imm X9 .il fH)),(2,(.imm anl .il jN)),(3,(.ptr (5,0) [])),(7,(.ref (9,0) [])),(8,(.i x.1))] [((5,0),some ⟨true,aP,.own,Vh⟩),((9,0),some ⟨false,.il,.own,x.2⟩)]
def G7 (_:Bool) (_:Bool) (_:List Int) (_:List Int) (_:(Int×(Int×Unit))):(List Int)→Ex×St:=fun x=>(.exit 0,bO [(7,(.ref (9,0) []))] [((9,0),some ⟨false,.il,.own,x⟩)])
def aen (s:St):Tre (Ex×St):=
 bg .il (s.tmps 1) fun z3 d2=>
 bg .il (s.tmps 2) fun z6 d5=>
 dR (5,0) [] (s.tmps 3)<|
 dF (9,0) [] (s.tmps 7)<|
 ay true .n (s.tmps 8) fun d10=>
 aZ true aP (s.roots (5,0)) fun m12 d13=>
 asM .own m12<|
 aZ false .il (s.roots (9,0)) fun m15 d16=>
 asM .own m15<|
 .mat (aL (nL d2 d5 d13) (d10,d16)) fun x=>.ret (G7 z3 z6 d2 d5 d13 x)
def uf:bA:=⟨([1,2,3,7,8],[(5,0),(9,0)]),([7],[(9,0)]),aen⟩
def uZ:List (Nat×bA):=[(8,ug),(5,uf)]
theorem XG:∀(BU NS:Bool)(dJ dU:List Int)(eH:Int)(eY:(Int×(Int×Unit)))(x:(Int×(List Int)))(c:St→Option (Ex×St)),den qx uZ (aR BA 1) (J6 BU NS dJ dU eH eY x) (bR ug.kp ug.kx c)=(nM dJ dU eH eY x).run (bS (J6 BU NS dJ dU eH eY) (G8 BU NS dJ dU eH eY) c):=fun _ _ _ _ _ _ _ _=>by
 kernel_rfl
theorem abP:bP qx uZ (aR BA 1) ug:=bV fun _ _ _=>bZ fun _ _=>bZ fun _ _=>gL<|fu<|aH fun _=>aH fun _=>bT fun _ _=>tM<|bT fun _ _=>tM<|fun h _ e16 _ e13 e11 e9 e8 e7 e4 e1=>bJ (XG _ _ _ _ _ _) h (by subst_vars;exact aM rfl rfl ⟨e1,e4,e7,e8,e9,e11,trivial⟩ ⟨e13,e16,trivial⟩)
theorem XF:∀(X9 anl:Bool)(fH jN:List Int)(Vh:(Int×(Int×Unit)))(x:(Int×(List Int)))(c:St→Option (Ex×St)),den qx uZ (aR BA 0) (J5 X9 anl fH jN Vh x) (bR uf.kp uf.kx c)=(nL fH jN Vh x).run (bS (J5 X9 anl fH jN Vh) (G7 X9 anl fH jN Vh) c):=fun _ _ _ _ _ _ _=>by
 kernel_rfl
theorem abO:bP qx uZ (aR BA 0) uf:=bV fun _ _ _=>bZ fun _ _=>bZ fun _ _=>gL<|fu<|aH fun _=>bT fun _ _=>tM<|bT fun _ _=>tM<|fun h _ e14 _ e11 e9 e8 e7 e4 e1=>bJ (XF _ _ _ _ _) h (by subst_vars;exact aM rfl rfl ⟨e1,e4,e7,e8,e9,trivial⟩ ⟨e11,e14,trivial⟩)
def amH:FnI:=fnI Tryz.f102 uZ
def Py (_:Bool) (_:Bool) (_:(Int×(Int×Unit))) (_:List Int) (_:List Int):(List Int)→au:=fun r=>⟨(.ref (1,0) []),[],[⟨false,.il,.own,r⟩]⟩
theorem ajq:∀(zp0 zp1:Bool)(p0:(Int×(Int×Unit)))(p1 p2:List Int),bL qx amH ⟨[(.imm true aP p0),(.imm zp0 .il p1),(.imm zp1 .il p2)],[]⟩=(R4 p0 p1 p2).run fun r=>some (Py zp0 zp1 p0 p1 p2 r):=fun _ _ _ _ _=>by kernel_rfl
def amG (av:List AV) (rs:List Root):Tre au:=
 aD av fun a0_ av0=>
 aD av0 fun a1_ av1=>
 aD av1 fun a2_ av2=>
 aN av2<|
 aN rs<|
 ay true aP a0_ fun d1=>
 bg .il a1_ fun z3 d2=>
 bg .il a2_ fun z5 d4=>
 .mat (Bz d1 d2 d4) fun r=>.ret (Py z3 z5 d1 d2 d4 r)
def XE:Ctr:=dD [] amG
theorem ajr:Contract Tryz.prog .none 102 XE:=aB (V:=qx) aV (ak Bq axe (ak uY akx (ak aeu aAC aI))) Tryz.func102 (bD (n:=2) fun k hk=>by
 match k,hk with
 |0,_=>exact bF (id:=5) abO
 |1,_=>exact bF (id:=8) abP) fun _ _ _=>aK fun _ _=>aK fun _ _=>aK fun _ _=>bn<|bn<|aH fun _=>bZ fun _ _=>bZ fun _ _=>fun h=>by intros;subst_vars;exact bB (ajq _ _ _ _ _) h
def jf (aS:List Int) (bK:Bool) (dA:Int) (bM:(Int×(Int×Unit))):((List Int)×(List Int))→Tre (((List Int)×(List Int)) ⊕ ((List Int)×(List Int))):=fun s2=>
 .cond (decide ((s2.2.length:Int) ≥ (aS.length:Int)))
  (let v3:=aJ .i64 ((s2.2.length:Int)-(aS.length:Int))
  .ite ((.n:K)=.n∧0≤aJ .i64 (v3+1)∧aJ .i64 (v3+1)=aJ .i64 (v3+1)∧aJ .i64 (v3+1)*(8:Nat)≤140737488355328∧1≤8)<|
  let v4:=aJ .i64 ((s2.2.length:Int)-1)
  .ite (0≤v4∧v4<(s2.2.length:Int))<|
  .mat (s2.2[v4.toNat]?) fun x5=>
  .cond bK
   (.ite (0≤dA∧dA<(aS.length:Int))<|
   .mat (aS[dA.toNat]?) fun x6=>
   .mat (gD bM x6 v3) fun r7=>
   .mat (dn bM r7) fun r8=>
   .mat (cK bM x5 r8) fun r9=>
   .ite (0≤v3∧v3<((List.replicate (aJ .i64 (v3+1)).toNat (0:Int)).length:Int))<|
   .mat ((List.replicate (aJ .i64 (v3+1)).toNat (0:Int))[v3.toNat]?) fun _=>
   let v11:=(List.replicate (aJ .i64 (v3+1)).toNat (0:Int)).set v3.toNat r9
   .mat (nT bM v11 aS) fun r12=>
   .mat (JD s2.2 r12) fun r13=>
   .mat (JD s2.1 v11) fun r14=>
   .ret (.inl (r14,r13)))
   (.ite (0≤dA∧dA<(aS.length:Int))<|
   .mat (aS[dA.toNat]?) fun x15=>
   .mat (dn bM x15) fun r16=>
   .mat (cK bM x5 r16) fun r17=>
   .mat (Am bM r17 dA) fun r18=>
   .ite (0≤v3∧v3<((List.replicate (aJ .i64 (v3+1)).toNat (0:Int)).length:Int))<|
   .mat ((List.replicate (aJ .i64 (v3+1)).toNat (0:Int))[v3.toNat]?) fun _=>
   let v20:=(List.replicate (aJ .i64 (v3+1)).toNat (0:Int)).set v3.toNat r18
   .mat (nT bM aS v20) fun r21=>
   .mat (JD s2.2 r21) fun r22=>
   .mat (JD s2.1 v20) fun r23=>
   .ret (.inl (r23,r22))))
  (.ret (.inr (s2.1,s2.2)))
def I8 (p0:(Int×(Int×Unit))) (p1:List Int) (p2:List Int) (p3:Bool):Tre ((List Int)×(List Int)):=
 .mat (fQ p1) fun r1=>
 let v2:=aJ .i64 ((p2.length:Int)-1)
 .mat (aL (jf p2 p3 v2 p0) ([],r1)) fun l24=>
 .ret (l24.1,l24.2)
def vJ (p0:(Int×(Int×Unit))) (p1:List Int) (p2:List Int) (p3:Bool):Option ((List Int)×(List Int)):=(I8 p0 p1 p2 p3).run some
-- more
theorem axr{f:TF3}(hf:aO f=true){V:List Nat}(hV:inL (FOf f hf) V)(h0:cf V (V.length-1)≠0):∃iv:Nat,zV f (cf V (V.length-1):Int)=(iv:Int)∧iv<(FOf f hf).q∧(FOf f hf).mul (cf V (V.length-1)) iv=1:=by
 obtain ⟨iv,h1,h2,h3⟩:=aFe hf (pW hV (V.length-1))
 exact ⟨iv,h1,h2,h3 h0⟩
theorem ayf(k c:Nat):(List.replicate (k+1) (0:Int)).set k (c:Int)=aW (uw k c):=by
 unfold uw
 rw [Wj,Di]
theorem ako{A R V:List Nat}{c M:Nat}(hA:A.length≤M)(hR:R.length≤M)(hn:0<V.length)(hl:V.length≤R.length)(F:FO) :
  (dh (jL A (uw (R.length-V.length) c))).length≤M∧(dh (F.uK V (uw (R.length-V.length) c))).length≤M∧(uw (R.length-V.length) c).length≤M:=by
 have h1:=lC (jL A (uw (R.length-V.length) c))
 rw [NV,Yx] at h1
 have h2:=lC (F.uK V (uw (R.length-V.length) c))
 have h3:=F.afa V (uw (R.length-V.length) c) (List.length_pos_iff.1 hn) (by intro h;have:=Yx (R.length-V.length) c;rw [h] at this;simp at this)
 rw [Yx] at h3
 rw [Yx]
 omega
theorem ay1{f:TF3}(hf:aO f=true){N V:List Nat}(hV:inL (FOf f hf) V)(hn:V≠[])(ht:cf V (V.length-1)≠0):∀(m:Nat)(A R:List Nat),R.length≤m→A.length≤100→R.length≤100→V.length≤100→T9 (FOf f hf) N V A R →
  ∃A' R',aL (jf (aW V) false ((V.length-1:Nat):Int) f) (aW A,aW R)=some (aW A',aW R')∧T9 (FOf f hf) N V A' R'∧R'.length<V.length∧A'.length≤100:=by
 have hvl:0<V.length:=List.length_pos_iff.2 hn
 obtain ⟨iv,hi1,hi2,hi3⟩:=axr hf hV ht
 intro m
 induction m with
 |zero=>
  intro A R hm hA hR hV2 h
  refine ⟨A,R,fE ?_,h,by omega,hA⟩
  unfold jf
  dsimp only
  rw [Tre.aA,decide_eq_false (by rw [aY,aY];omega),cond_false,Tre.aG]
 |succ m ih=>
  intro A R hm hA hR hV2 h
  by_cases hl:V.length≤R.length
  ·obtain ⟨hc,hD,hlt⟩:=asl hf hV h hn hl hi2 hi3
   obtain ⟨b1,b2,b3⟩:=ako (c:=(FOf f hf).sqn (ZU f.1.toNat (V.length-1)) ((FOf f hf).mul (cf R (R.length-1)) iv)) hA hR hvl hl (FOf f hf)
   obtain ⟨A',R',h1,h2,h3,h4⟩:=ih _ _ (by omega) b1 (by omega) hV2 hD
   refine ⟨A',R',?_,h2,h3,h4⟩
   rw [←h1]
   refine lJ ?_
   have hk:aJ .i64 (((aW R).length:Int)-((aW V).length:Int))=((R.length-V.length:Nat):Int):=by rw [aY,aY,dS (by omega) (by omega)];omega
   have hr:aJ .i64 (((aW R).length:Int)-1)=((R.length-1:Nat):Int):=by rw [aY];exact gP (by omega) (by omega)
   have hk1:aJ .i64 (((R.length-V.length:Nat):Int)+1)=((R.length-V.length+1:Nat):Int):=aQ (by omega)
   have hrl:=pW h.ir (R.length-1)
   have hml:=(FOf f hf).lt (cf R (R.length-1)) iv
   unfold jf
   dsimp only
   rw [Tre.aA,decide_eq_true (by rw [aY,aY];omega),cond_true,hk,hk1,Tre.run_ite,if_pos ⟨rfl,by omega,rfl,by omega,by omega⟩,hr,dM (dX (fI (show R.length-1<R.length by omega))),Tre.aA,cond_false]
   rw [dM (dX (fI (show V.length-1<V.length by omega))),ah (axn hf ((ZJ hf).2 ⟨_,rfl,pW hV _⟩)),hi1,ah (aql hf hrl hi2),ah (aA8 hf hml _),Int.toNat_natCast]
   rw [dM (show (List.replicate (R.length-V.length+1) (0:Int))[R.length-V.length]?=some 0 by rw [List.getElem?_replicate,if_pos (by omega)]),Int.toNat_natCast,ayf]
   rw [ah (as7 hf hV (X4 hc) (by omega) (by omega)),ah (atg hf h.ir (uO (alo _ _)) (by omega) (by omega)),ah (atg hf h.ia (X4 hc) (by omega) (by omega)),Tre.aG]
  ·refine ⟨A,R,fE ?_,h,by omega,hA⟩
   unfold jf
   dsimp only
   rw [Tre.aA,decide_eq_false (by rw [aY,aY];omega),cond_false,Tre.aG]
theorem T9.start{F:FO}{N V:List Nat}(hN:inL F N)(ht:IG N):T9 F N V [] N:=⟨fun x hx=>absurd hx List.not_mem_nil,hN,fun h=>absurd rfl h,ht,fun i=>by rw [show F.fO V (cf []) i=0 from asb zX,Nat.zero_xor]⟩
theorem av5{f:TF3}(hf:aO f=true){N V:List Nat}(hN:inL (FOf f hf) N)(hV:inL (FOf f hf) V)(hn:V≠[])(htV:IG V)(htN:IG N)(hNl:N.length≤100)(hVl:V.length≤100) :
  ∃A R,vJ f (aW N) (aW V) false=some (aW A,aW R)∧T9 (FOf f hf) N V A R∧R.length<V.length∧A.length≤100:=by
 have hvl:0<V.length:=List.length_pos_iff.2 hn
 obtain ⟨A,R,h1,h2,h3,h4⟩:=ay1 hf hV hn (htV hn) N.length [] N (Nat.le_refl _) (Nat.zero_le _) hNl hVl (T9.start hN htN)
 refine ⟨A,R,?_,h2,h3,h4⟩
 have hd:aJ .i64 (((aW V).length:Int)-1)=((V.length-1:Nat):Int):=by rw [aY];exact gP (by omega) (by omega)
 rw [show aW []=[] from rfl] at h1
 unfold vJ I8
 dsimp only
 rw [ah (show fQ (aW N)=some (aW N) from Dl (by rw [aY];omega)),hd,ah h1,Tre.aG]
def vK:Env:=⟨tau,[(65,kJ),(62,mH),(76,Ai),(75,oN),(70,Lg),(77,asU),(78,VB)],[(1000002,[((14,0),[],false)])]⟩
def Oc:Code:=(Tryz.f47.body).getD .skip
def Ez (eF:Bool) (aS:List Int) (bK:Bool) (dA:Int) (bM:(Int×(Int×Unit))):((List Int)×(List Int))→St:=fun x=>bO [(2,(.imm eF .il aS)),(3,(.imm true .bool bK)),(4,(.ptr (6,0) [])),(10,(.ref (12,0) [])),(11,(.ref (13,0) [])),(12,(.i dA))] [((6,0),some ⟨true,aP,.own,bM⟩),((12,0),some ⟨false,.il,.own,x.1⟩),((13,0),some ⟨false,.il,.own,x.2⟩)]
def Ce (_:Bool) (_:List Int) (_:Bool) (_:Int) (_:(Int×(Int×Unit))):((List Int)×(List Int))→Ex×St:=fun x=>(.exit 0,bO [(10,(.ref (12,0) [])),(11,(.ref (13,0) []))] [((12,0),some ⟨false,.il,.own,x.1⟩),((13,0),some ⟨false,.il,.own,x.2⟩)])
def YA (s:St):Tre (Ex×St):=
 bg .il (s.tmps 2) fun z3 d2=>
 ay true .bool (s.tmps 3) fun d5=>
 dR (6,0) [] (s.tmps 4)<|
 dF (12,0) [] (s.tmps 10)<|
 dF (13,0) [] (s.tmps 11)<|
 ay true .n (s.tmps 12) fun d10=>
 aZ true aP (s.roots (6,0)) fun m12 d13=>
 asM .own m12<|
 aZ false .il (s.roots (12,0)) fun m15 d16=>
 asM .own m15<|
 aZ false .il (s.roots (13,0)) fun m18 d19=>
 asM .own m18<|
 .mat (aL (jf d2 d5 d10 d13) (d16,d19)) fun x=>.ret (Ce z3 d2 d5 d10 d13 x)
def o8:bA:=⟨([2,3,4,10,11,12],[(6,0),(12,0),(13,0)]),([10,11],[(12,0),(13,0)]),YA⟩
def CV:List (Nat×bA):=[(2,o8)]
theorem QV:∀(eF:Bool)(aS:List Int)(bK:Bool)(dA:Int)(bM:(Int×(Int×Unit)))(x:((List Int)×(List Int)))(c:St→Option (Ex×St)),den vK CV (aR Oc 0) (Ez eF aS bK dA bM x) (bR o8.kp o8.kx c)=(jf aS bK dA bM x).run (bS (Ez eF aS bK dA bM) (Ce eF aS bK dA bM) c):=fun _ _ _ _ _ _ _=>by
 kernel_rfl
theorem Vp:bP vK CV (aR Oc 0) o8:=bV fun _ _ _=>bZ fun _ _=>aH fun _=>gL<|fu<|fu<|aH fun _=>bT fun _ _=>tM<|bT fun _ _=>tM<|bT fun _ _=>tM<|fun h _ e17 _ e14 _ e11 e9 e8 e7 e6 e4 e1=>bJ (QV _ _ _ _ _) h (by subst_vars;exact aM rfl rfl ⟨e1,e4,e6,e7,e8,e9,trivial⟩ ⟨e11,e14,e17,trivial⟩)
def afp:FnI:=fnI Tryz.f47 CV
def I9 (_:Bool) (_:Bool) (_:(Int×(Int×Unit))) (_:List Int) (_:List Int) (_:Bool):((List Int)×(List Int))→au:=fun r=>⟨(.tcons (.ref (1,0) []) (.tcons (.ref (1,1) []) .tnil)),[],[⟨false,.il,.own,r.1⟩,⟨false,.il,.own,r.2⟩]⟩
theorem acB:∀(zp0 zp1:Bool)(p0:(Int×(Int×Unit)))(p1 p2:List Int)(p3:Bool),bL vK afp ⟨[(.imm true aP p0),(.imm zp0 .il p1),(.imm zp1 .il p2),(.imm true .bool p3)],[]⟩=(I8 p0 p1 p2 p3).run fun r=>some (I9 zp0 zp1 p0 p1 p2 p3 r):=fun _ _ _ _ _ _=>by kernel_rfl
def afo (av:List AV) (rs:List Root):Tre au:=
 aD av fun a0_ av0=>
 aD av0 fun a1_ av1=>
 aD av1 fun a2_ av2=>
 aD av2 fun a3_ av3=>
 aN av3<|
 aN rs<|
 ay true aP a0_ fun d1=>
 bg .il a1_ fun z3 d2=>
 bg .il a2_ fun z5 d4=>
 ay true .bool a3_ fun d6=>
 .mat (vJ d1 d2 d4 d6) fun r=>.ret (I9 z3 z5 d1 d2 d4 d6 r)
def Od:Ctr:=dD [] afo
theorem acC:Contract Tryz.prog .none 47 Od:=aB (V:=vK) aV (ak nD axf (ak og asy (ak Ja aD1 (ak p8 aoU (ak aaL aGz (ak ayU aGE (ak aiw aGF aI))))))) Tryz.func47 (bD (n:=1) fun k hk=>by
 match k,hk with
 |0,_=>exact bF (id:=2) Vp) fun _ _ _=>aK fun _ _=>aK fun _ _=>aK fun _ _=>aK fun _ _=>bn<|bn<|aH fun _=>bZ fun _ _=>bZ fun _ _=>aH fun _=>fun h=>by intros;subst_vars;exact bB (acB _ _ _ _ _ _) h
end Go.Proofs.YtihiobjhogpmdaaGreat
