/- Part 6 of the proof of FnLifted. -/
import Derived.Test.YtmilokkchghpjaaGreatLf5
set_option maxRecDepth 100000
noncomputable section
namespace Go.Proofs.YtmilokkchghpjaaGreat
open Go Go.Abs Go.Proofs
def MN (p0:aG):Tre (Int×(List aA)):=
 .mat (vQ p0) fun r1=>
 .cond (!r1)
  (.ret (1,[]))
  (let v2:=aL .i64 (p0.1.1*(p0.2.2.1.length:Int))
  .cond (decide (v2>8))
   (.ret (3,[]))
   (.mat (akj p0 [] p0) fun r3=>
   .ret (0,r3)))
def yG (p0:aG):Option (Int×(List aA)):=(MN p0).run some
-- more
theorem ayt{f:TF3}(hf:aQ f=true)(i:Nat)(l:List Int)(x:Int)(hx:l[i]?=some x)(hl:l.length≤1000):(I9 f ((i:Int),l)).run some=some (cond (decide (x=(qF f:Int)-1)) (.inl ((i:Int)-1,l.set i 0)) (.inr ((i:Int),l))):=by
 have hq:=J4 f
 have hil:=(List.getElem?_eq_some_iff.1 hx).1
 have hd:=dM hf
 have hc:eU f=some (qF f:Int):=by
  unfold eU vH
  rw [Tre.run_ite,if_pos (by omega),Tre.aN,show f.1=((f.1.toNat:Nat):Int) by omega,amd (by omega)]
  rfl
 have hqi:qF f≤32:=wV (b:=f.1.toNat) (c:=5) (by omega)
 unfold I9
 dsimp only
 rw [Tre.aD,decide_eq_true (by omega),cond_true,gu hx,ah hc,bY (by omega) (by omega),Tre.aD]
 cases decide (x=(qF f:Int)-1)
 ·rfl
 ·rw [cond_true,cond_true,gu hx,Tre.aN,Int.toNat_natCast,bY (by omega) (by omega)]
theorem ays{f:TF3}(l:List Int):(I9 f (-1,l)).run some=some (.inr (-1,l)):=rfl
theorem atL{c:TRC}{n:Nat}{p:List Nat}(h:lX c n p)(I:List (List Int)→List (Int×List Int×Unit)→Prop)(F:List (Int×List Int×Unit)→List Int→List (Int×List Int×Unit))
  (hs:∀(pre:List (List Int))(m:List Int)(g:List (Int×List Int×Unit)),m∈dA c→pre.length<(dA c).length→I pre g→gQ m c g c=some (F g m)∧I (pre++[m]) (F g m)) (g0:List (Int×List Int×Unit)) (h0:I [] g0) :
  ∃g,akf c.1 (c.2.2.1.length:Int) c g0 c=some g∧I (dA c) g:=by
 have hq:=J4 c.1
 have h10:=h.r10
 obtain ⟨st,hl,hI⟩:=amP (nx:=zY (qF c.1:Int)) (step:=Yo (c.2.2.1.length:Int) c c c.1) (fun (g:List (Int×List Int×Unit)) (d:List Int)=>(g,d)) (fun g=>g) F I (all:=dA c) (by
  intro pre d g hd hn hlt hI
  obtain ⟨hdl,hdv⟩:=(Ye _ _ _).1 hd
  obtain ⟨hcl,hI2⟩:=hs pre d g hd hlt hI
  refine ⟨?_,hI2⟩
  unfold Yo
  dsimp only
  rw [ah hcl,bY (n:=(c.2.2.1.length:Int)-1) (by omega) (by omega)]
  have st4:=ayt h.hf
  rcases abH (qF c.1:Int) d with hd2|⟨zs,cc,k,hcc,hd2⟩
  ·rw [hdl] at hd2
   have h4:=aiA (step:=I9 c.1) (M:=(qF c.1:Int)) (N:=1000) ays st4 c.2.2.1.length 0 (by omega)
   rw [List.replicate_zero,List.append_nil,←hd2] at h4
   rw [ah h4,Tre.aD,decide_eq_true (show (-1:Int)<0 by decide),cond_true,Tre.aN]
   have:zY (qF c.1:Int) d=none:=by rw [hd2];exact aaw _ _
   rw [this]
  ·have hlz:zs.length+k+1=c.2.2.1.length:=by rw [←hdl,hd2];simp;omega
   have h4:=aiz (step:=I9 c.1) (M:=(qF c.1:Int)) (N:=1000) (zs:=zs) st4 hcc k 0 (by omega)
   rw [List.replicate_zero,List.append_nil,←hd2,Nat.add_zero,show ((zs.length+k:Nat):Int)=(c.2.2.1.length:Int)-1 by omega] at h4
   have hqi:qF c.1≤32:=by have:=dM h.hf;exact wV (b:=c.1.1.toNat) (c:=5) (by omega)
   obtain ⟨kk,hkk,hkl⟩:=hdv cc (by rw [hd2];simp)
   have hnx:zY (qF c.1:Int) d=some (zs++(cc+1)::List.replicate k 0):=by rw [hd2];exact ai0 _ _ hcc _ _
   have hat:(zs++cc::List.replicate k 0)[zs.length]?=some cc:=by simp
   have hset:(zs++cc::List.replicate k 0).set zs.length (cc+1)=zs++(cc+1)::List.replicate k 0:=by simp
   rw [ah h4]
   dsimp only
   rw [Tre.aD,decide_eq_false (by omega),cond_false,gu hat,gu hat,Tre.aN,Int.toNat_natCast,bY (n:=cc+1) (by omega) (by omega),hset,hnx]) (aqO hq c.2.2.1.length) [] g0 rfl (TA _ _) h0
 refine ⟨st,?_,hI⟩
 unfold akf ayH
 rw [Tre.run_ite,if_pos ⟨rfl,by omega,rfl,by omega,by decide⟩,Int.toNat_natCast,ah hl,Tre.aN]
def eT(c:TRC):List (Int×List Int×Unit):=(dA c).map fun m=>liftM c.1 (fF c m)
theorem afz(c:TRC):(dA c).length=qF c.1 ^ c.2.2.1.length:=aqf _ _
theorem ao8{c:TRC}{n:Nat}{p:List Nat}(h:lX c n p){m:List Int}(hm:okV c.1 c.2.2.1.length m){g:List (Int×List Int×Unit)}(hg:g.length≤100000):gQ m c g c=some (g++[liftM c.1 (fF c m)]):=by
 obtain ⟨h1,h2,h3⟩:=fO h hm
 have h5:=h.h5
 have hc:lS (tX c m) g c=some (g++[liftM c.1 (fF c m)]):=by
  unfold lS uV
  rw [←h1,ah (afd h.hf h2 (by omega)),Tre.run_ite,if_pos (by unfold bQ;omega),Tre.aN]
 unfold gQ pK
 rw [ah (ap8 h hm),ah hc,Tre.aN]
theorem afe{c:TRC}{n:Nat}{p:List Nat}(h:lX c n p)(hs:c.1.1*(c.2.2.1.length:Int)≤8):yG c=some (0,eT c):=by
 have hd:=dM h.hf
 have h10:=h.r10
 have hml:(dA c).length≤256:=by
  rw [afz]
  unfold qF
  rw [←Nat.pow_mul]
  have:c.1.1.toNat*c.2.2.1.length≤8:=by
   have e:c.1.1=(c.1.1.toNat:Int):=by omega
   rw [e] at hs
   exact_mod_cast hs
  exact wV (c:=8) this
 have hw:aL .i64 (c.1.1*(c.2.2.1.length:Int))=c.1.1*(c.2.2.1.length:Int):=bY (by have:0≤c.1.1*(c.2.2.1.length:Int):=Int.mul_nonneg (by omega) (by omega);omega) (by omega)
 obtain ⟨g,hg,hI⟩:=atL h (fun pre g=>g=pre.map fun m=>liftM c.1 (fF c m)) (fun g m=>g++[liftM c.1 (fF c m)]) (fun pre m g hm hlt hI=>⟨ao8 h (lZ hm) (by rw [hI,List.length_map];omega),by rw [hI,List.map_append];rfl⟩) [] rfl
 have he:akj c [] c=some (eT c):=by
  unfold akj ayK
  rw [ah hg,Tre.aN,hI]
  rfl
 unfold yG MN
 rw [ah (J2 h),Tre.aD,Bool.not_true,cond_false]
 dsimp only
 rw [hw,Tre.aD,decide_eq_false (by omega),cond_false,ah he,Tre.aN]
def QM:Env:=⟨tau,[(97,JV),(98,Dn),(99,at7)],[]⟩
def aeL:FnI:=fnI Tryz.f33 []
def KJ (_:aG):(Int×(List aA))→au:=fun r=>⟨(.tcons (.ref (1,0) []) (.tcons (.i r.1) .tnil)),[],[⟨false,(.sl aK),.own,r.2⟩]⟩
theorem acG:∀(p0:aG),bH QM aeL ⟨[(.imm true aP p0)],[]⟩=(MN p0).run fun r=>some (KJ p0 r):=fun _=>by kernel_rfl
def aeK (av:List AV) (rs:List Root):Tre au:=
 aB av fun a0_ av0=>
 aJ av0<|
 aJ rs<|
 aF true aP a0_ fun d1=>
 .mat (yG d1) fun r=>.ret (KJ d1 r)
def QN:Ctr:=dx [] aeK
theorem acH:Contract Tryz.prog .none 33 QN:=aC (V:=QM) aR (ak Q5 aw0 (ak K4 aw1 (ak avY aw2 aH))) Tryz.func33 bn fun _ _ _=>aI fun _ _=>aZ<|aZ<|aO fun _=>fun h=>by intros;subst_vars;exact aW (acG _) h
def ql (om:Int) (lC:(List (List Int))) (uT:(Int×(Int×Unit))):Int→Tre (Int ⊕ (Int ⊕ Unit)):=fun s6=>
 .cond (decide (s6<(lC.length:Int)))
  (.ite (0≤s6∧s6<(lC.length:Int))<|
  .mat (lC[s6.toNat]?) fun x2=>
  .cond (!decide ((x2.length:Int)=om))
   (.ret (.inr (.inl 2)))
   (.ite (0≤s6∧s6<(lC.length:Int))<|
   .mat (lC[s6.toNat]?) fun x3=>
   .mat (qB uT x3) fun r4=>
   .cond (!r4)
    (.ret (.inr (.inl 2)))
    (.ret (.inl (aL .i64 (s6+1))))))
  (.ret (.inr (.inr ())))
def aa2 (p0:(Int×(Int×Unit))) (p1:Int) (p2:(List (List Int))):Tre Int:=
 .mat (EW p0) fun r1=>
 .cond (!r1)
  (.ret 1)
  (.cond (!(inR p1 1 5))
   (.ret 2)
   (.cond (decide ((p2.length:Int)>10))
    (.ret 2)
    (.mat (aS (ql p1 p2 p0) 0) fun l5=>
    .alt l5
     (fun a6=>
      .ret a6)
     (fun _=>
      .ret 0))))
def Js (p0:(Int×(Int×Unit))) (p1:Int) (p2:(List (List Int))):Option Int:=(aa2 p0 p1 p2).run some
def Jt:Env:=⟨tau,[(132,aaX),(54,EU),(56,Dx)],[]⟩
def ab9:Code:=(Tryz.f180.body).getD .skip
def Dy (abe:Bool) (om:Int) (lC:(List (List Int))) (uT:(Int×(Int×Unit))):Int→St:=fun x=>bT [(1,(.i om)),(2,(.imm abe (.sl .il) lC)),(3,(.ptr (5,0) [])),(7,(.i x))] [((5,0),some ⟨true,aM,.own,uT⟩)]
def uE (_:Bool) (_:Int) (_:(List (List Int))) (_:(Int×(Int×Unit))):(Int ⊕ Unit)→Ex×St
 |.inl x=>(.ret,bT [(6,(.i x))] [])
 |.inr _=>(.exit 0,bT [(6,.dead)] [])
def SL (s:St):Tre (Ex×St):=
 aF true .n (s.tmps 1) fun d2=>
 bB (.sl .il) (s.tmps 2) fun z5 d4=>
 dH (5,0) [] (s.tmps 3)<|
 aF true .n (s.tmps 7) fun d8=>
 bq true aM (s.roots (5,0)) fun m10 d11=>
 asM .own m10<|
 .mat (aS (ql d2 d4 d11) d8) fun x=>.alt x (fun a0=>.ret (uE z5 d2 d4 d11 (.inl a0))) (fun b0=>.ret (uE z5 d2 d4 d11 (.inr b0)))
def tL:bF:=⟨([1,2,3,7],[(5,0)]),([6],[]),SL⟩
def SK:List (Nat×bF):=[(6,tL)]
theorem Zg:∀(abe:Bool)(om:Int)(lC:(List (List Int)))(uT:(Int×(Int×Unit)))(x:Int)(c:St→Option (Ex×St)),den Jt SK (aV ab9 0) (Dy abe om lC uT x) (bZ tL.kp tL.kx c)=(ql om lC uT x).run (cu (Dy abe om lC uT) (uE abe om lC uT) c):=fun _ _ _ _ _ _=>by
 kernel_rfl
theorem adD:bU Jt SK (aV ab9 0) tL:=fq fun s e s' h=>by
 generalize hs:restrict tL.kp s=s1 at h
 have h:(SL s1).run some=some (e,s'):=h
 obtain ⟨d2,e1,h_0⟩:=bO h
 obtain ⟨z5,d4,e3,h_1⟩:=dJ h_0
 obtain ⟨e6,h_2⟩:=EY h_1
 obtain ⟨d8,e7,h_3⟩:=bO h_2
 obtain ⟨m10,d11,e9,h_4⟩:=gG h_3
 obtain ⟨rfl,h_5⟩:=vD h_4
 obtain ⟨y,hy,hz⟩:=iA h_5
 refine ⟨_,_,Dy z5 d2 d4 d11,uE z5 d2 d4 d11,ql d2 d4 d11,d8,y,?_,hy,?_,Zg z5 d2 d4 d11⟩
 ·subst hs;exact aT (T:=[(1,(.i d2)),(2,(.imm z5 (.sl .il) d4)),(3,(.ptr (5,0) [])),(7,(.i d8))]) (U:=[((5,0),some ⟨true,aM,.own,d11⟩)]) rfl rfl ⟨e1,e3,e6,e7,trivial⟩ ⟨e9,trivial⟩
 ·rcases y with x|x<;>exact Option.some.inj hz
def anD:FnI:=fnI Tryz.f180 SK
def Vm (_:Bool) (_:(Int×(Int×Unit))) (_:Int) (_:(List (List Int))):Int→au:=fun r=>⟨(.i r),[],[]⟩
theorem akQ:∀(zp0:Bool)(p0:(Int×(Int×Unit)))(p1:Int)(p2:(List (List Int))),bH Jt anD ⟨[(.imm true aM p0),(.i p1),(.imm zp0 (.sl .il) p2)],[]⟩=(aa2 p0 p1 p2).run fun r=>some (Vm zp0 p0 p1 p2 r):=fun _ _ _ _=>by kernel_rfl
def anC (av:List AV) (rs:List Root):Tre au:=
 aB av fun a0_ av0=>
 aB av0 fun a1_ av1=>
 aB av1 fun a2_ av2=>
 aJ av2<|
 aJ rs<|
 aF true aM a0_ fun d1=>
 aF true .n a1_ fun d2=>
 bB (.sl .il) a2_ fun z4 d3=>
 .mat (Js d1 d2 d3) fun r=>.ret (Vm z4 d1 d2 d3 r)
def acd:Ctr:=dx [] anC
theorem akR:Contract Tryz.prog .none 180 acd:=aC (V:=Jt) aR (ak agt atf (ak Ga alO (ak Lx awR aH))) Tryz.func180 (bM (n:=1) fun k hk=>by
 match k,hk with
 |0,_=>exact bP (id:=6) adD) fun _ _ _=>aI fun _ _=>aI fun _ _=>aI fun _ _=>aZ<|aZ<|aO fun _=>aO fun _=>dF fun _ _=>fun h=>by intros;subst_vars;exact aW (akQ _ _ _ _) h
def jE (aX:(List (List Int))) (bD:(List (List Int))):Int→Tre (Int ⊕ (Bool ⊕ Unit)):=fun s4=>
 .cond (decide (s4<(aX.length:Int)))
  (.ite (0≤s4∧s4<(aX.length:Int))<|
  .mat (aX[s4.toNat]?) fun x1=>
  .ite (0≤s4∧s4<(bD.length:Int))<|
  .mat (bD[s4.toNat]?) fun x2=>
  .mat (zG x1 x2) fun r3=>
  .cond (!r3)
   (.ret (.inr (.inl false)))
   (.ret (.inl (aL .i64 (s4+1)))))
  (.ret (.inr (.inr ())))
def Ki (p0:(List (List Int))) (p1:(List (List Int))):Tre Bool:=
 .cond (!decide ((p0.length:Int)=(p1.length:Int)))
  (.ret false)
  (.mat (aS (jE p0 p1) 0) fun l4=>
  .alt l4
   (fun a5=>
    .ret a5)
   (fun _=>
    .ret true))
def wL (p0:(List (List Int))) (p1:(List (List Int))):Option Bool:=(Ki p0 p1).run some
def wM:Env:=⟨tau,[(86,Jg)],[]⟩
def O5:Code:=(Tryz.f115.body).getD .skip
def vk (iG:Bool) (oQ:Bool) (aX:(List (List Int))) (bD:(List (List Int))):Int→St:=fun x=>bT [(0,(.imm iG (.sl .il) aX)),(1,(.imm oQ (.sl .il) bD)),(5,(.i x))] []
def ny (_:Bool) (_:Bool) (_:(List (List Int))) (_:(List (List Int))):(Bool ⊕ Unit)→Ex×St
 |.inl x=>(.ret,bT [(4,(.imm true .bool x))] [])
 |.inr _=>(.exit 0,bT [(4,.dead)] [])
def Gy (s:St):Tre (Ex×St):=
 bB (.sl .il) (s.tmps 0) fun z3 d2=>
 bB (.sl .il) (s.tmps 1) fun z6 d5=>
 aF true .n (s.tmps 5) fun d8=>
 .mat (aS (jE d2 d5) d8) fun x=>.alt x (fun a0=>.ret (ny z3 z6 d2 d5 (.inl a0))) (fun b0=>.ret (ny z3 z6 d2 d5 (.inr b0)))
def lN:bF:=⟨([0,1,5],[]),([4],[]),Gy⟩
def Dz:List (Nat×bF):=[(4,lN)]
theorem P5:∀(iG oQ:Bool)(aX bD:(List (List Int)))(x:Int)(c:St→Option (Ex×St)),den wM Dz (aV O5 0) (vk iG oQ aX bD x) (bZ lN.kp lN.kx c)=(jE aX bD x).run (cu (vk iG oQ aX bD) (ny iG oQ aX bD) c):=fun _ _ _ _ _ _=>by
 kernel_rfl
theorem UD:bU wM Dz (aV O5 0) lN:=fq fun s e s' h=>by
 generalize hs:restrict lN.kp s=s1 at h
 have h:(Gy s1).run some=some (e,s'):=h
 obtain ⟨z3,d2,e1,h_0⟩:=dJ h
 obtain ⟨z6,d5,e4,h_1⟩:=dJ h_0
 obtain ⟨d8,e7,h_2⟩:=bO h_1
 obtain ⟨y,hy,hz⟩:=iA h_2
 refine ⟨_,_,vk z3 z6 d2 d5,ny z3 z6 d2 d5,jE d2 d5,d8,y,?_,hy,?_,P5 z3 z6 d2 d5⟩
 ·subst hs;exact aT (T:=[(0,(.imm z3 (.sl .il) d2)),(1,(.imm z6 (.sl .il) d5)),(5,(.i d8))]) (U:=[]) rfl rfl ⟨e1,e4,e7,trivial⟩ trivial
 ·rcases y with x|x<;>exact Option.some.inj hz
def adF:FnI:=fnI Tryz.f115 Dz
def Ju (_:Bool) (_:Bool) (_:(List (List Int))) (_:(List (List Int))):Bool→au:=fun r=>⟨(.imm true .bool r),[],[]⟩
theorem aa3:∀(zp0 zp1:Bool)(p0 p1:(List (List Int))),bH wM adF ⟨[(.imm zp0 (.sl .il) p0),(.imm zp1 (.sl .il) p1)],[]⟩=(Ki p0 p1).run fun r=>some (Ju zp0 zp1 p0 p1 r):=fun _ _ _ _=>by kernel_rfl
def adE (av:List AV) (rs:List Root):Tre au:=
 aB av fun a0_ av0=>
 aB av0 fun a1_ av1=>
 aJ av1<|
 aJ rs<|
 bB (.sl .il) a0_ fun z2 d1=>
 bB (.sl .il) a1_ fun z4 d3=>
 .mat (wL d1 d3) fun r=>.ret (Ju z2 z4 d1 d3 r)
def O6:Ctr:=dx [] adE
theorem aa4:Contract Tryz.prog .none 115 O6:=aC (V:=wM) aR (ak ND atq aH) Tryz.func115 (bM (n:=1) fun k hk=>by
 match k,hk with
 |0,_=>exact bP (id:=4) UD) fun _ _ _=>aI fun _ _=>aI fun _ _=>aZ<|aZ<|dF fun _ _=>dF fun _ _=>fun h=>by intros;subst_vars;exact aW (aa3 _ _ _ _) h
def NW (p0:aG):Tre Bool:=
 .mat (Js p0.1 p0.2.1 p0.2.2.1) fun r1=>
 .cond (decide (r1=0))
  (.mat (oK p0.1 p0.2.1 p0.2.2.1) fun r2=>
  .mat (wL r2 p0.2.2.1) fun r3=>
  .ret r3)
  (.ret false)
def zB (p0:aG):Option Bool:=(NW p0).run some
-- more
theorem auE{c:TRC}{n:Nat}{p:List Nat}(h:lX c n p):Js c.1 c.2.1 c.2.2.1=some 0:=by
 have h1:=h.h1
 have h5:=h.h5
 have h10:=h.r10
 unfold Js aa2
 rw [ah (ags c.1),h.hf,Tre.aD,Bool.not_true,cond_false,Tre.aD,iT.2 (by rw [h.len];omega),Bool.not_true,cond_false,Tre.aD,decide_eq_false (by omega),cond_false]
 rw [ah (show aS (ql c.2.1 c.2.2.1 c.1) 0=some (.inr ()) from ?_)]
 ·rfl
 refine fH (fun i=>(i:Int)) c.2.2.1.length _ (fun i hi=>?_) ?_
 ·have hx:=List.getElem?_eq_getElem hi
  have hg:=h.rre.gr _ (List.mem_of_getElem? hx)
  unfold ql
  rw [eB hx,Tre.aD,decide_eq_true (by rw [hg.1,h.len]),Bool.not_true,cond_false,gu hx,ah (Lv h.hf _ (by rw [hg.1];omega)),aox h.hf hg.2,Tre.aD,Bool.not_true,cond_false,Tre.aN,aY (by omega)]
 ·unfold ql
  exact dR
theorem anL{l:List Int}(h:l.length≤1048576):zG l l=some true:=by
 unfold zG
 rw [kX (by simp only [Bool.and_eq_true,decide_eq_true_eq];exact ⟨h,h⟩),decide_eq_true rfl]
theorem agY{L:List (List Int)}(hl:L.length≤1000000)(h:∀r∈L,r.length≤1000000):wL L L=some true:=by
 unfold wL Ki
 rw [Tre.aD,decide_eq_true rfl,Bool.not_true,cond_false,ah (show aS (jE L L) 0=some (.inr ()) from ?_)]
 ·rfl
 refine fH (fun i=>(i:Int)) L.length _ (fun i hi=>?_) ?_
 ·have hx:=List.getElem?_eq_getElem hi
  unfold jE
  rw [eB hx,gu hx,ah (anL (by have:=h _ (List.mem_of_getElem? hx);omega)),Tre.aD,Bool.not_true,cond_false,Tre.aN,aY (by omega)]
 ·unfold jE
  exact dR
theorem asu{c:TRC}{n:Nat}{p:List Nat}(h:lX c n p):zB c=some true:=by
 have h5:=h.h5
 have h10:=h.r10
 have hr:oK c.1 c.2.1 c.2.2.1=some c.2.2.1:=by
  rw [h.len,aqP h.hf (by omega) h.rre.gr (by omega),h.rre.idem h.hf]
 unfold zB NW
 rw [ah (auE h),Tre.aD,decide_eq_true rfl,cond_true,ah hr,ah (agY (by omega) fun r hr=>by have:=(h.rre.gr r hr).1;omega),Tre.aN]
def SH:Env:=⟨tau,[(180,acd),(175,Gq),(115,O6)],[]⟩
def agO:FnI:=fnI Tryz.f101 []
def LB (zp0:Bool) (p0:aG):Bool→au:=fun r=>⟨(.imm true .bool r),[⟨true,aP,(.imm zp0),p0⟩],[]⟩
theorem adB:∀(zp0:Bool)(p0:aG),bH SH agO ⟨[(.ptr (0,0) [])],[⟨true,aP,(.imm zp0),p0⟩]⟩=(NW p0).run fun r=>some (LB zp0 p0 r):=fun _ _=>by kernel_rfl
def agN (av:List AV) (rs:List Root):Tre au:=
 aB av fun a0_ av0=>
 aJ av0<|
 aB rs fun r0_ rs0=>
 aJ rs0<|
 dH (0,0) [] a0_<|
 iL true aP r0_ fun m1 d2=>
 fI m1 fun z3=>
 .mat (zB d2) fun r=>.ret (LB z3 d2 r)
def SI:Ctr:=dx [] agN
theorem adC:Contract Tryz.prog .none 101 SI:=aC (V:=SH) aR (ak akR axY (ak O1 ati (ak aa4 axI aH))) Tryz.func101 bn fun _ _ _=>aI fun _ _=>aZ<|aI fun _ _=>aZ<|gy<|tRt fun _ _=>nQ fun _=>fun h=>by intros;subst_vars;exact aW (adB _ _) h
def anb (p0:Int) (p1:Int):Tre Int:=
 .cond (decide (p0<p1))
  (.ret p0)
  (.ret p1)
def apv (p0:Int) (p1:Int):Option Int:=(anb p0 p1).run some
def Gb(p0 p1:Int):Int:=
 cond (decide (p0<p1))
  (p0)
  (p1)
theorem ah3(p0 p1:Int):apv p0 p1=some (Gb p0 p1):=(ahZ rfl rfl)
def agb:Env:=⟨tau,[],[]⟩
def apx:FnI:=fnI Tryz.f181 []
def YN (_:Int) (_:Int):Int→au:=fun r=>⟨(.i r),[],[]⟩
theorem ane:∀(p0 p1:Int),bH agb apx ⟨[(.i p0),(.i p1)],[]⟩=(anb p0 p1).run fun r=>some (YN p0 p1 r):=fun _ _=>by kernel_rfl
def apw (av:List AV) (rs:List Root):Tre au:=
 aB av fun a0_ av0=>
 aB av0 fun a1_ av1=>
 aJ av1<|
 aJ rs<|
 aF true .n a0_ fun d1=>
 aF true .n a1_ fun d2=>
 .ret (YN d1 d2 (Gb d1 d2))
def agc:Ctr:=dx [] apw
theorem anf:Contract Tryz.prog .none 181 agc:=aC (V:=agb) aR aH Tryz.func181 bn fun _ _ _=>aI fun _ _=>aI fun _ _=>aZ<|aZ<|aO fun _=>aO fun _=>fun h=>by intros;subst_vars;exact yt (ane _ _) (ah3 _ _) h
def ko (bR:aG):(Int×Int)→Tre ((Int×Int) ⊕ Int):=fun s3=>
 .cond (decide (s3.2<(bR.2.2.1.length:Int)))
  (.mat (iD bR.1) fun r1=>
  let v2:=Gb 4097 (aL .i64 (s3.1*r1))
  .ret (.inl (v2,aL .i64 (s3.2+1))))
  (.ret (.inr s3.1))
def Gz (p0:aG):Tre Int:=
 .mat (aS (ko p0) (1,0)) fun l3=>
 .ret l3
def oL (p0:aG):Option Int:=(Gz p0).run some
def uF:Env:=⟨tau,[(137,xR),(181,agc)],[]⟩
def LC:Code:=(Tryz.f102.body).getD .skip
def CU (fD:Bool) (bR:aG):(Int×Int)→St:=fun x=>bT [(0,(.ptr (0,0) [])),(3,(.i x.1)),(4,(.i x.2))] [((0,0),some ⟨true,aP,(.imm fD),bR⟩)]
def Ad (fD:Bool) (bR:aG):Int→Ex×St:=fun x=>(.exit 0,bT [(3,(.i x))] [((0,0),some ⟨true,aP,(.imm fD),bR⟩)])
def UE (s:St):Tre (Ex×St):=
 dH (0,0) [] (s.tmps 0)<|
 aF true .n (s.tmps 3) fun d3=>
 aF true .n (s.tmps 4) fun d5=>
 bq true aP (s.roots (0,0)) fun m7 d8=>
 fI m7 fun z9=>
 .mat (aS (ko d8) (d3,d5)) fun x=>.ret (Ad z9 d8 x)
def og:bF:=⟨([0,3,4],[(0,0)]),([3],[(0,0)]),UE⟩
def AQ:List (Nat×bF):=[(3,og)]
theorem NY:∀(fD:Bool)(bR:aG)(x:(Int×Int))(c:St→Option (Ex×St)),den uF AQ (aV LC 0) (CU fD bR x) (bZ og.kp og.kx c)=(ko bR x).run (cu (CU fD bR) (Ad fD bR) c):=fun _ _ _ _=>by
 kernel_rfl
theorem SN:bU uF AQ (aV LC 0) og:=dB fun _ _ _=>gy<|aO fun _=>aO fun _=>cO fun _ _=>nQ fun _=>fun h _ e6 e4 e2 e1=>cK (NY _ _) h (by subst_vars;exact aT rfl rfl ⟨e1,e2,e4,trivial⟩ ⟨e6,trivial⟩)
def aa6:FnI:=fnI Tryz.f102 AQ
def GA (zp0:Bool) (p0:aG):Int→au:=fun r=>⟨(.i r),[⟨true,aP,(.imm zp0),p0⟩],[]⟩
theorem Zh:∀(zp0:Bool)(p0:aG),bH uF aa6 ⟨[(.ptr (0,0) [])],[⟨true,aP,(.imm zp0),p0⟩]⟩=(Gz p0).run fun r=>some (GA zp0 p0 r):=fun _ _=>by kernel_rfl
def aa5 (av:List AV) (rs:List Root):Tre au:=
 aB av fun a0_ av0=>
 aJ av0<|
 aB rs fun r0_ rs0=>
 aJ rs0<|
 dH (0,0) [] a0_<|
 iL true aP r0_ fun m1 d2=>
 fI m1 fun z3=>
 .mat (oL d2) fun r=>.ret (GA z3 d2 r)
def AU:Ctr:=dx [] aa5
theorem Jv:Contract Tryz.prog .none 102 AU:=aC (V:=uF) aR (ak zf aeo (ak anf axZ aH)) Tryz.func102 (bM (n:=1) fun k hk=>by
 match k,hk with
 |0,_=>exact bP (id:=3) SN) fun _ _ _=>aI fun _ _=>aZ<|aI fun _ _=>aZ<|gy<|tRt fun _ _=>nQ fun _=>fun h=>by intros;subst_vars;exact aW (Zh _ _) h
def kF (bR:(Int×(Int×Unit))):(Int×Int×(List Int))→Tre ((Int×Int×(List Int)) ⊕ (List Int)):=fun s3=>
 .cond (decide (s3.2.1 ≥ 0))
  (.mat (iD bR) fun r1=>
  .ifn (r1=0)<|
  .ite (0≤s3.2.1∧s3.2.1<(s3.2.2.length:Int))<|
  .mat (s3.2.2[s3.2.1.toNat]?) fun _=>
  let v3:=s3.2.2.set s3.2.1.toNat (Int.tmod s3.1 r1)
  .mat (iD bR) fun r4=>
  .ifn (r4=0)<|
  let v5:=aL .i64 (Int.tdiv s3.1 r4)
  .ret (.inl (v5,aL .i64 (s3.2.1-1),v3)))
  (.ret (.inr s3.2.2))
def NV (p0:(Int×(Int×Unit))) (p1:Int) (p2:Int):Tre (List Int):=
 .ite ((.n:K)=.n∧0≤p1∧p1=p1∧p1*(8:Nat)≤140737488355328∧1≤8)<|
 .mat (aS (kF p0) (p2,aL .i64 (p1-1),List.replicate p1.toNat (0:Int))) fun l6=>
 .ret l6
def zy (p0:(Int×(Int×Unit))) (p1:Int) (p2:Int):Option (List Int):=(NV p0 p1 p2).run some
def zA:Env:=⟨tau,[(137,xR)],[]⟩
def SE:Code:=(Tryz.f183.body).getD .skip
def Gx (bR:(Int×(Int×Unit))):(Int×Int×(List Int))→St:=fun x=>bT [(2,(.i x.1)),(3,(.ptr (5,0) [])),(7,(.ref (9,0) [])),(8,(.i x.2.1))] [((5,0),some ⟨true,aM,.own,bR⟩),((9,0),some ⟨false,.il,.own,x.2.2⟩)]
def Ej (_:(Int×(Int×Unit))):(List Int)→Ex×St:=fun x=>(.exit 0,bT [(7,(.ref (9,0) []))] [((9,0),some ⟨false,.il,.own,x⟩)])
def Zf (s:St):Tre (Ex×St):=
 aF true .n (s.tmps 2) fun d2=>
 dH (5,0) [] (s.tmps 3)<|
 fQ (9,0) [] (s.tmps 7)<|
 aF true .n (s.tmps 8) fun d6=>
 bq true aM (s.roots (5,0)) fun m8 d9=>
 asM .own m8<|
 bq false .il (s.roots (9,0)) fun m11 d12=>
 asM .own m11<|
 .mat (aS (kF d9) (d2,d6,d12)) fun x=>.ret (Ej d9 x)
def rQ:bF:=⟨([2,3,7,8],[(5,0),(9,0)]),([7],[(9,0)]),Zf⟩
def Gw:List (Nat×bF):=[(3,rQ)]
theorem SG:∀(bR:(Int×(Int×Unit)))(x:(Int×Int×(List Int)))(c:St→Option (Ex×St)),den zA Gw (aV SE 0) (Gx bR x) (bZ rQ.kp rQ.kx c)=(kF bR x).run (cu (Gx bR) (Ej bR) c):=fun _ _ _=>by
 kernel_rfl
theorem Xh:bU zA Gw (aV SE 0) rQ:=dB fun _ _ _=>aO fun _=>gy<|nR<|aO fun _=>cO fun _ _=>tM<|cO fun _ _=>tM<|fun h _ e10 _ e7 e5 e4 e3 e1=>cK (SG _) h (by subst_vars;exact aT rfl rfl ⟨e1,e3,e4,e5,trivial⟩ ⟨e7,e10,trivial⟩)
def agM:FnI:=fnI Tryz.f183 Gw
def LA (_:(Int×(Int×Unit))) (_:Int) (_:Int):(List Int)→au:=fun r=>⟨(.ref (1,0) []),[],[⟨false,.il,.own,r⟩]⟩
theorem adz:∀(p0:(Int×(Int×Unit)))(p1 p2:Int),bH zA agM ⟨[(.imm true aM p0),(.i p1),(.i p2)],[]⟩=(NV p0 p1 p2).run fun r=>some (LA p0 p1 p2 r):=fun _ _ _=>by kernel_rfl
def agL (av:List AV) (rs:List Root):Tre au:=
 aB av fun a0_ av0=>
 aB av0 fun a1_ av1=>
 aB av1 fun a2_ av2=>
 aJ av2<|
 aJ rs<|
 aF true aM a0_ fun d1=>
 aF true .n a1_ fun d2=>
 aF true .n a2_ fun d3=>
 .mat (zy d1 d2 d3) fun r=>.ret (LA d1 d2 d3 r)
def SF:Ctr:=dx [] agL
theorem adA:Contract Tryz.prog .none 183 SF:=aC (V:=zA) aR (ak zf aeo aH) Tryz.func183 (bM (n:=1) fun k hk=>by
 match k,hk with
 |0,_=>exact bP (id:=3) Xh) fun _ _ _=>aI fun _ _=>aI fun _ _=>aI fun _ _=>aZ<|aZ<|aO fun _=>aO fun _=>aO fun _=>fun h=>by intros;subst_vars;exact aW (adz _ _ _) h
def tC (bI:List Int) (bJ:List Int) (bR:Int) (fA:(Int×(Int×Unit))):(Int×(List Int))→Tre ((Int×(List Int)) ⊕ (List Int)):=fun s3=>
 .cond (decide (s3.1<(bI.length:Int)))
  (.ite (0≤s3.1∧s3.1<(bI.length:Int))<|
  .mat (bI[s3.1.toNat]?) fun x1=>
  .ite (0≤s3.1∧s3.1<(bJ.length:Int))<|
  .mat (bJ[s3.1.toNat]?) fun x2=>
  .mat (eP fA x2 bR) fun r3=>
  .ite ((s3.2.length+1)*8≤bQ∧1≤8)<|
  let v4:=s3.2++([jT .i64 x1 r3])
  .ret (.inl (aL .i64 (s3.1+1),v4)))
  (.ret (.inr s3.2))
def agE (p0:(Int×(Int×Unit))) (p1:List Int) (p2:List Int) (p3:Int):Tre (List Int):=
 .mat (aS (tC p1 p2 p3 p0) (0,[])) fun l5=>
 .ret l5
def NQ (p0:(Int×(Int×Unit))) (p1:List Int) (p2:List Int) (p3:Int):Option (List Int):=(agE p0 p1 p2 p3).run some
-- more
theorem anA{f:TF3}(hf:aQ f=true){u w:List Int}(hl:u.length=w.length)(hs:u.length≤1000000)(hw:∀y∈w,inF f y){x:Int}(hx:inF f x):NQ f u w x=some (vC f u w x):=by
 have key:=oh (xs:=u.zip w) (step:=tC u w x f) (fun (i:Nat) (acc:List Int)=>((i:Int),acc)) (fun _ acc p=>.inl (acc++[jT .i64 p.1 (gX f p.2 x)])) id (fun i acc=>acc.length=i) (by
  intro i acc p hp hi
  have hlt:=(List.getElem?_eq_some_iff.1 hp).1
  rw [List.length_zip] at hlt
  obtain ⟨p1,p2⟩:=p
  rw [List.getElem?_zip_eq_some] at hp
  obtain ⟨h1,h2⟩:=hp
  refine ⟨?_,fun a ha=>?_⟩
  ·unfold tC
   dsimp only
   rw [Tre.aD,decide_eq_true (by omega),cond_true,Tre.run_ite,if_pos (by omega),Int.toNat_natCast,ah h1,Tre.run_ite,if_pos (by omega),ah h2,ah (aqS hf (hw _ (List.mem_of_getElem? h2)) hx),Tre.run_ite,if_pos (by unfold bQ;omega),Tre.aN,aY (by omega)]
  ·cases ha;simp [hi]) (by
  intro acc _
  unfold tC
  dsimp only
  rw [Tre.aD,decide_eq_false (by rw [List.length_zip];omega),cond_false]
  rfl) (u.zip w) 0 [] rfl (Nat.zero_le _) rfl
 rw [Tn] at key
 have key:aS (tC u w x f) (0,[])=some (vC f u w x):=key
 unfold NQ agE
 rw [ah key]
 rfl
def NR:Env:=⟨tau,[(203,NI)],[]⟩
def agG:Code:=(Tryz.f196.body).getD .skip
def Sr (fD:Bool) (GZ:Bool) (bI:List Int) (bJ:List Int) (bR:Int) (fA:(Int×(Int×Unit))):(Int×(List Int))→St:=fun x=>bT [(1,(.imm fD .il bI)),(2,(.imm GZ .il bJ)),(3,(.i bR)),(4,(.ptr (6,0) [])),(9,(.ref (11,0) [])),(10,(.i x.1))] [((6,0),some ⟨true,aM,.own,fA⟩),((11,0),some ⟨false,.il,.own,x.2⟩)]
def OZ (_:Bool) (_:Bool) (_:List Int) (_:List Int) (_:Int) (_:(Int×(Int×Unit))):(List Int)→Ex×St:=fun x=>(.exit 0,bT [(9,(.ref (11,0) []))] [((11,0),some ⟨false,.il,.own,x⟩)])
def aie (s:St):Tre (Ex×St):=
 bB .il (s.tmps 1) fun z3 d2=>
 bB .il (s.tmps 2) fun z6 d5=>
 aF true .n (s.tmps 3) fun d8=>
 dH (6,0) [] (s.tmps 4)<|
 fQ (11,0) [] (s.tmps 9)<|
 aF true .n (s.tmps 10) fun d12=>
 bq true aM (s.roots (6,0)) fun m14 d15=>
 asM .own m14<|
 bq false .il (s.roots (11,0)) fun m17 d18=>
 asM .own m17<|
 .mat (aS (tC d2 d5 d8 d15) (d12,d18)) fun x=>.ret (OZ z3 z6 d2 d5 d8 d15 x)
def Bv:bF:=⟨([1,2,3,4,9,10],[(6,0),(11,0)]),([9],[(11,0)]),aie⟩
def W9:List (Nat×bF):=[(3,Bv)]
theorem aa0:∀(fD GZ:Bool)(bI bJ:List Int)(bR:Int)(fA:(Int×(Int×Unit)))(x:(Int×(List Int)))(c:St→Option (Ex×St)),den NR W9 (aV agG 0) (Sr fD GZ bI bJ bR fA x) (bZ Bv.kp Bv.kx c)=(tC bI bJ bR fA x).run (cu (Sr fD GZ bI bJ bR fA) (OZ fD GZ bI bJ bR fA) c):=fun _ _ _ _ _ _ _ _=>by
 kernel_rfl
theorem agI:bU NR W9 (aV agG 0) Bv:=dB fun _ _ _=>dF fun _ _=>dF fun _ _=>aO fun _=>gy<|nR<|aO fun _=>cO fun _ _=>tM<|cO fun _ _=>tM<|fun h _ e16 _ e13 e11 e10 e9 e7 e4 e1=>cK (aa0 _ _ _ _ _ _) h (by subst_vars;exact aT rfl rfl ⟨e1,e4,e7,e9,e10,e11,trivial⟩ ⟨e13,e16,trivial⟩)
def apG:FnI:=fnI Tryz.f196 W9
def Za (_:Bool) (_:Bool) (_:(Int×(Int×Unit))) (_:List Int) (_:List Int) (_:Int):(List Int)→au:=fun r=>⟨(.ref (1,0) []),[],[⟨false,.il,.own,r⟩]⟩
theorem anz:∀(zp0 zp1:Bool)(p0:(Int×(Int×Unit)))(p1 p2:List Int)(p3:Int),bH NR apG ⟨[(.imm true aM p0),(.imm zp0 .il p1),(.imm zp1 .il p2),(.i p3)],[]⟩=(agE p0 p1 p2 p3).run fun r=>some (Za zp0 zp1 p0 p1 p2 p3 r):=fun _ _ _ _ _ _=>by kernel_rfl
def apF (av:List AV) (rs:List Root):Tre au:=
 aB av fun a0_ av0=>
 aB av0 fun a1_ av1=>
 aB av1 fun a2_ av2=>
 aB av2 fun a3_ av3=>
 aJ av3<|
 aJ rs<|
 aF true aM a0_ fun d1=>
 bB .il a1_ fun z3 d2=>
 bB .il a2_ fun z5 d4=>
 aF true .n a3_ fun d6=>
 .mat (NQ d1 d2 d4 d6) fun r=>.ret (Za z3 z5 d1 d2 d4 d6 r)
def agH:Ctr:=dx [] apF
theorem anB:Contract Tryz.prog .none 196 agH:=aC (V:=NR) aR (ak R8 aoG aH) Tryz.func196 (bM (n:=1) fun k hk=>by
 match k,hk with
 |0,_=>exact bP (id:=3) agI) fun _ _ _=>aI fun _ _=>aI fun _ _=>aI fun _ _=>aI fun _ _=>aZ<|aZ<|aO fun _=>dF fun _ _=>dF fun _ _=>aO fun _=>fun h=>by intros;subst_vars;exact aW (anz _ _ _ _ _ _) h
def iY (bJ:aG) (bR:List Int):(Int×(List Int))→Tre ((Int×(List Int)) ⊕ (List Int)):=fun s3=>
 .cond (decide (s3.1<(bJ.2.2.1.length:Int)))
  (.ite (0≤s3.1∧s3.1<(bJ.2.2.1.length:Int))<|
  .mat (bJ.2.2.1[s3.1.toNat]?) fun x1=>
  .ite (0≤s3.1∧s3.1<(bR.length:Int))<|
  .mat (bR[s3.1.toNat]?) fun x2=>
  .mat (NQ bJ.1 s3.2 x1 x2) fun r3=>
  .ret (.inl (aL .i64 (s3.1+1),r3)))
  (.ret (.inr s3.2))
def AP (p0:aG) (p1:List Int):Tre (List Int):=
 .ite ((.n:K)=.n∧0≤p0.2.1∧p0.2.1=p0.2.1∧p0.2.1*(8:Nat)≤140737488355328∧1≤8)<|
 .mat (aS (iY p0 p1) (0,List.replicate p0.2.1.toNat (0:Int))) fun l4=>
 .ret l4
def qh (p0:aG) (p1:List Int):Option (List Int):=(AP p0 p1).run some
-- more
theorem awc{c:TRC}{n:Nat}{p:List Nat}(h:lX c n p){m:List Int}(hm:okV c.1 c.2.2.1.length m):qh c m=some (tX c m):=by
 have h5:=h.h5
 have h10:=h.r10
 unfold qh AP
 rw [Tre.run_ite,if_pos (by rw [h.len];exact ⟨rfl,by omega,rfl,by omega,by decide⟩)]
 rw [ah (show aS (iY c m) (0,List.replicate c.2.1.toNat 0)=some (tX c m) from ?_),Tre.aN]
 unfold tX acv
 rw [h.len,Int.toNat_natCast]
 have hwz:∀i,i≤m.length→okV c.1 n (BG c.1 (fun i=>c.2.2.1.getD i []) 0 (List.replicate n 0) (m.take i)):=fun i hi=>
  aee h.hf _ 0 _ (C9 n) (fun x hx=>hm.2 x (List.mem_of_mem_take hx)) fun j _ hj=>rows_ok h.rre.gr (by rw [List.length_take] at hj;have:=hm.1;omega)
 refine fH (fun i=>((i:Int),BG c.1 (fun i=>c.2.2.1.getD i []) 0 (List.replicate n 0) (m.take i))) c.2.2.1.length _ (fun i hi=>?_) ?_
 ·have hx:=List.getElem?_eq_getElem hi
  have hmi:=List.getElem?_eq_getElem (show i<m.length by rw [hm.1];exact hi)
  have hrow:=h.rre.gr _ (List.mem_of_getElem? hx)
  have hw:=hwz i (by rw [hm.1];omega)
  unfold iY
  dsimp only
  rw [eB hx,gu hmi,ah (anA h.hf (by rw [hw.1,hrow.1]) (by rw [hw.1];omega) hrow.2 (hm.2 _ (List.mem_of_getElem? hmi))),Tre.aN,aY (by omega),List.take_add_one,hmi,Option.toList_some,aiD]
  have:0+(m.take i).length=i:=by rw [List.length_take,hm.1];omega
  rw [this,jX hx]
 ·unfold iY
  dsimp only
  rw [dR,Tre.aN,List.take_of_length_le (by rw [hm.1];omega)]
def qj:Env:=⟨tau,[(196,agH)],[]⟩
def Gu:Code:=(Tryz.f182.body).getD .skip
def zx (fD:Bool) (bJ:aG) (bR:List Int):(Int×(List Int))→St:=fun x=>bT [(0,(.ptr (0,0) [])),(1,(.ref (0,1) [])),(5,(.ref (7,0) [])),(6,(.i x.1))] [((0,0),some ⟨true,aP,(.imm fD),bJ⟩),((0,1),some ⟨false,.il,.own,bR⟩),((7,0),some ⟨false,.il,.own,x.2⟩)]
def xU (fD:Bool) (bJ:aG) (bR:List Int):(List Int)→Ex×St:=fun x=>(.exit 0,bT [(5,(.ref (7,0) []))] [((0,0),some ⟨true,aP,(.imm fD),bJ⟩),((0,1),some ⟨false,.il,.own,bR⟩),((7,0),some ⟨false,.il,.own,x⟩)])
def PZ (s:St):Tre (Ex×St):=
 dH (0,0) [] (s.tmps 0)<|
 fQ (0,1) [] (s.tmps 1)<|
 fQ (7,0) [] (s.tmps 5)<|
 aF true .n (s.tmps 6) fun d5=>
 bq true aP (s.roots (0,0)) fun m7 d8=>
 fI m7 fun z9=>
 bq false .il (s.roots (0,1)) fun m11 d12=>
 asM .own m11<|
 bq false .il (s.roots (7,0)) fun m14 d15=>
 asM .own m14<|
 .mat (aS (iY d8 d12) (d5,d15)) fun x=>.ret (xU z9 d8 d12 x)
def lT:bF:=⟨([0,1,5,6],[(0,0),(0,1),(7,0)]),([5],[(0,0),(0,1),(7,0)]),PZ⟩
def xw:List (Nat×bF):=[(3,lT)]
theorem Kh:∀(fD:Bool)(bJ:aG)(bR:List Int)(x:(Int×(List Int)))(c:St→Option (Ex×St)),den qj xw (aV Gu 0) (zx fD bJ bR x) (bZ lT.kp lT.kx c)=(iY bJ bR x).run (cu (zx fD bJ bR) (xU fD bJ bR) c):=fun _ _ _ _ _=>by
 kernel_rfl
theorem NU:bU qj xw (aV Gu 0) lT:=dB fun _ _ _=>gy<|nR<|nR<|aO fun _=>cO fun _ _=>nQ fun _=>cO fun _ _=>tM<|cO fun _ _=>tM<|fun h _ e13 _ e10 _ e6 e4 e3 e2 e1=>cK (Kh _ _ _) h (by subst_vars;exact aT rfl rfl ⟨e1,e2,e3,e4,trivial⟩ ⟨e6,e10,e13,trivial⟩)
def Xf:FnI:=fnI Tryz.f182 xw
def CS (zp0:Bool) (p0:aG) (p1:List Int):(List Int)→au:=fun r=>⟨(.ref (1,0) []),[⟨true,aP,(.imm zp0),p0⟩,⟨false,.il,.own,p1⟩],[⟨false,.il,.own,r⟩]⟩
theorem UA:∀(zp0:Bool)(p0:aG)(p1:List Int),bH qj Xf ⟨[(.ptr (0,0) []),(.ref (0,1) [])],[⟨true,aP,(.imm zp0),p0⟩,⟨false,.il,.own,p1⟩]⟩=(AP p0 p1).run fun r=>some (CS zp0 p0 p1 r):=fun _ _ _=>by kernel_rfl
def Xe (av:List AV) (rs:List Root):Tre au:=
 aB av fun a0_ av0=>
 aB av0 fun a1_ av1=>
 aJ av1<|
 aB rs fun r0_ rs0=>
 aB rs0 fun r1_ rs1=>
 aJ rs1<|
 dH (0,0) [] a0_<|
 fQ (0,1) [] a1_<|
 iL true aP r0_ fun m1 d2=>
 fI m1 fun z3=>
 iL false .il r1_ fun m4 d5=>
 asM .own m4<|
 .mat (qh d2 d5) fun r=>.ret (CS z3 d2 d5 r)
def Gv:Ctr:=dx [1] Xe
theorem UC:Contract Tryz.prog .none 182 Gv:=aC (V:=qj) aR (ak anB atl aH) Tryz.func182 (bM (n:=1) fun k hk=>by
 match k,hk with
 |0,_=>exact bP (id:=3) NU) fun _ _ _=>aI fun _ _=>aI fun _ _=>aZ<|aI fun _ _=>aI fun _ _=>aZ<|gy<|nR<|tRt fun _ _=>nQ fun _=>tRt fun _ _=>tM<|fun h=>by intros;subst_vars;exact aW (UA _ _ _) h
def jF (bJ:aG):(Int×(List (List Int)))→Tre ((Int×(List (List Int))) ⊕ (List (List Int))):=fun s3=>
 .mat (oL bJ) fun r1=>
 .cond (decide (s3.1<r1))
  (.mat (zy bJ.1 (bJ.2.2.1.length:Int) s3.1) fun r2=>
  .mat (qh bJ r2) fun r3=>
  .ite ((s3.2.length+1)*24≤bQ∧1≤24)<|
  .ret (.inl (aL .i64 (s3.1+1),s3.2++([r3]))))
  (.ret (.inr s3.2))
def DC (p0:aG):Tre (List (List Int)):=
 .mat (aS (jF p0) (0,[])) fun l4=>
 .ret l4
def rR (p0:aG):Option (List (List Int)):=(DC p0).run some
-- more
theorem awI{f:TF3}:EN f+1=(qF f:Int):=by
 unfold EN qF
 have h2:((2:Int) ^ f.1.toNat)=((2 ^ f.1.toNat:Nat):Int):=by push_cast;rfl
 rw [h2];omega
theorem akY{f:TF3}(hf:aQ f=true):iD f=some (qF f:Int):=by rw [aqR hf,awI]
theorem aAj{f:TF3}(hf:aQ f=true):qF f≤32:=by
 have:=dM hf
 exact wV (b:=f.1.toNat) (c:=5) (by omega)
theorem awp{f:TF3}(hf:aQ f=true){k:Nat}(hk:k≤1000){n:Nat}(hn:n≤1000000):zy f (k:Int) (n:Int)=some (Hu (qF f) k n):=by
 have hq:=J4 f
 have hq2:=aAj hf
 unfold zy NV
 rw [Tre.run_ite,if_pos ⟨rfl,by omega,rfl,by omega,by decide⟩,Int.toNat_natCast,bY (by omega) (by omega)]
 rw [ah (show aS (kF f) ((n:Int),(k:Int)-1,List.replicate k 0)=some (Hu (qF f) k n) from ?_),Tre.aN]
 have:=fH (step:=kF f) (fun t=>(((n/qF f ^ t:Nat):Int),(k:Int)-1-(t:Int),List.replicate (k-t) (0:Int)++Hu (qF f) t n)) k (Hu (qF f) k n) (fun t ht=>?_) ?_
 ·rw [Nat.pow_zero,Nat.div_one] at this
  simpa [Hu] using this
 ·have hml:=avN (qF f) t n
  have e1:(k:Int)-1-(t:Int)=((k-1-t:Nat):Int):=by omega
  have hget:(List.replicate (k-t) (0:Int)++Hu (qF f) t n)[k-1-t]?=some 0:=by
   rw [List.getElem?_append_left (by simp;omega),List.getElem?_replicate,if_pos (by omega)]
  have hset:∀y:Int,(List.replicate (k-t) (0:Int)++Hu (qF f) t n).set (k-1-t) y=List.replicate (k-(t+1)) 0++y::Hu (qF f) t n:=by
   intro y
   rw [show k-t=(k-(t+1))+1 by omega,List.replicate_succ',List.append_assoc,List.set_append_right _ _ (by simp;omega)]
   simp only [List.length_replicate]
   rw [show k-1-t-(k-(t+1))=0 by omega]
   rfl
  unfold kF
  dsimp only
  rw [e1,Tre.aD,decide_eq_true (by omega),cond_true,ah (akY hf),Tre.YE,if_neg (by omega),gu hget,ah (akY hf),Tre.YE,if_neg (by omega),Tre.aN,Int.toNat_natCast,hset]
  have hz:∀z:Nat,z≤1000000→aL .i64 (z:Int)=z:=fun z hz=>Aw (by omega)
  have hdiv:n/qF f ^ t≤n:=Nat.div_le_self _ _
  have hdiv2:n/qF f ^ t/qF f≤n/qF f ^ t:=Nat.div_le_self _ _
  rw [show Int.tmod ((n/qF f ^ t:Nat):Int) (qF f:Int)=((n/qF f ^ t%qF f:Nat):Int) from rfl,show Int.tdiv ((n/qF f ^ t:Nat):Int) (qF f:Int)=((n/qF f ^ t/qF f:Nat):Int) from rfl,hz _ (Nat.le_trans hdiv2 (Nat.le_trans hdiv hn)),bY (by omega) (by omega),Nat.div_div_eq_div_mul,←Nat.pow_succ,show ((k-1-t:Nat):Int)-1=(k:Int)-1-((t+1:Nat):Int) by omega]
  rfl
 ·unfold kF
  dsimp only
  rw [Tre.aD,decide_eq_false (by omega),cond_false,Tre.aN,Nat.sub_self]
  rfl
theorem apK{c:TRC}{n:Nat}{p:List Nat}(h:lX c n p)(hs:qF c.1 ^ c.2.2.1.length≤4096):oL c=some ((qF c.1 ^ c.2.2.1.length:Nat):Int):=by
 have hq:=J4 c.1
 have h10:=h.r10
 unfold oL Gz
 rw [ah (show aS (ko c) (1,0)=some ((qF c.1 ^ c.2.2.1.length:Nat):Int) from ?_),Tre.aN]
 refine fH (fun i=>(((qF c.1 ^ i:Nat):Int),(i:Int))) c.2.2.1.length _ (fun i hi=>?_) ?_
 ·have hp:qF c.1 ^ (i+1)≤4096:=Nat.le_trans (Nat.pow_le_pow_right hq hi) hs
  have e:((qF c.1 ^ i:Nat):Int)*(qF c.1:Int)=((qF c.1 ^ (i+1):Nat):Int):=by rw [Nat.pow_succ];push_cast;rfl
  unfold ko
  dsimp only
  rw [Tre.aD,decide_eq_true (by omega),cond_true,ah (akY h.hf),e,bY (by omega) (by omega),Tre.aN,aY (by omega)]
  have:Gb 4097 ((qF c.1 ^ (i+1):Nat):Int)=((qF c.1 ^ (i+1):Nat):Int):=by
   unfold Gb
   rw [decide_eq_false (by omega)];rfl
  rw [this]
 ·unfold ko
  exact dR
theorem asy{c:TRC}{n:Nat}{p:List Nat}(h:lX c n p)(hs:qF c.1 ^ c.2.2.1.length≤4096):rR c=some ((dA c).map (tX c)):=by
 have h10:=h.r10
 have hmsgs:dA c=(List.range (qF c.1 ^ c.2.2.1.length)).map (Hu (qF c.1) c.2.2.1.length):=avJ (J4 c.1) _
 have hml:(dA c).length=qF c.1 ^ c.2.2.1.length:=by rw [hmsgs];simp
 unfold rR DC
 rw [ah (show aS (jF c) (0,[])=some ((dA c).map (tX c)) from ?_),Tre.aN]
 refine fH (fun i=>((i:Int),((dA c).map (tX c)).take i)) (qF c.1 ^ c.2.2.1.length) _ (fun i hi=>?_) ?_
 ·have hx:(dA c)[i]?=some (Hu (qF c.1) c.2.2.1.length i):=by rw [hmsgs,List.getElem?_map,List.getElem?_range hi];rfl
  unfold jF
  dsimp only
  rw [ah (apK h hs),Tre.aD,decide_eq_true (by omega),cond_true,ah (awp h.hf (by omega) (by omega)),ah (awc h (lZ (List.mem_of_getElem? hx))),Tre.run_ite,if_pos (by unfold bQ;rw [List.length_take,List.length_map,hml];omega),Tre.aN,aY (by omega),List.take_add_one,List.getElem?_map,hx]
  rfl
 ·unfold jF
  dsimp only
  rw [ah (apK h hs),dR,Tre.aN,List.take_of_length_le (by rw [List.length_map,hml];omega)]
def rT:Env:=⟨tau,[(102,AU),(183,SF),(182,Gv)],[]⟩
def Jy:Code:=(Tryz.f103.body).getD .skip
def Ae (fD:Bool) (bJ:aG):(Int×(List (List Int)))→St:=fun x=>bT [(0,(.ptr (0,0) [])),(3,(.ref (5,0) [])),(4,(.i x.1))] [((0,0),some ⟨true,aP,(.imm fD),bJ⟩),((5,0),some ⟨false,(.sl .il),.own,x.2⟩)]
def zD (fD:Bool) (bJ:aG):(List (List Int))→Ex×St:=fun x=>(.exit 0,bT [(3,(.ref (5,0) []))] [((0,0),some ⟨true,aP,(.imm fD),bJ⟩),((5,0),some ⟨false,(.sl .il),.own,x⟩)])
def SQ (s:St):Tre (Ex×St):=
 dH (0,0) [] (s.tmps 0)<|
 fQ (5,0) [] (s.tmps 3)<|
 aF true .n (s.tmps 4) fun d4=>
 bq true aP (s.roots (0,0)) fun m6 d7=>
 fI m6 fun z8=>
 bq false (.sl .il) (s.roots (5,0)) fun m10 d11=>
 asM .own m10<|
 .mat (aS (jF d7) (d4,d11)) fun x=>.ret (zD z8 d7 x)
def nA:bF:=⟨([0,3,4],[(0,0),(5,0)]),([3],[(0,0),(5,0)]),SQ⟩
def zC:List (Nat×bF):=[(3,nA)]
theorem LD:∀(fD:Bool)(bJ:aG)(x:(Int×(List (List Int))))(c:St→Option (Ex×St)),den rT zC (aV Jy 0) (Ae fD bJ x) (bZ nA.kp nA.kx c)=(jF bJ x).run (cu (Ae fD bJ) (zD fD bJ) c):=fun _ _ _ _=>by
 kernel_rfl
theorem P6:bU rT zC (aV Jy 0) nA:=dB fun _ _ _=>gy<|nR<|aO fun _=>cO fun _ _=>nQ fun _=>cO fun _ _=>tM<|fun h _ e9 _ e5 e3 e2 e1=>cK (LD _ _) h (by subst_vars;exact aT rfl rfl ⟨e1,e2,e3,trivial⟩ ⟨e5,e9,trivial⟩)
def Zj:FnI:=fnI Tryz.f103 zC
def El (zp0:Bool) (p0:aG):(List (List Int))→au:=fun r=>⟨(.ref (1,0) []),[⟨true,aP,(.imm zp0),p0⟩],[⟨false,(.sl .il),.own,r⟩]⟩
theorem Xi:∀(zp0:Bool)(p0:aG),bH rT Zj ⟨[(.ptr (0,0) [])],[⟨true,aP,(.imm zp0),p0⟩]⟩=(DC p0).run fun r=>some (El zp0 p0 r):=fun _ _=>by kernel_rfl
def Zi (av:List AV) (rs:List Root):Tre au:=
 aB av fun a0_ av0=>
 aJ av0<|
 aB rs fun r0_ rs0=>
 aJ rs0<|
 dH (0,0) [] a0_<|
 iL true aP r0_ fun m1 d2=>
 fI m1 fun z3=>
 .mat (rR d2) fun r=>.ret (El z3 d2 r)
def Jz:Ctr:=dx [] Zi
theorem Xj:Contract Tryz.prog .none 103 Jz:=aC (V:=rT) aR (ak Jv atb (ak adA ax1 (ak UC ax0 aH))) Tryz.func103 (bM (n:=1) fun k hk=>by
 match k,hk with
 |0,_=>exact bP (id:=3) P6) fun _ _ _=>aI fun _ _=>aZ<|aI fun _ _=>aZ<|gy<|tRt fun _ _=>nQ fun _=>fun h=>by intros;subst_vars;exact aW (Xi _ _) h
def mF (jd:aG) (E9:(List (List Int))):(Int×(List aA))→Tre ((Int×(List aA)) ⊕ (List aA)):=fun s8=>
 .cond (decide (s8.1<(E9.length:Int)))
  (.ite (0≤s8.1∧s8.1<(E9.length:Int))<|
  .mat (E9[s8.1.toNat]?) fun _=>
  .mat (E9[s8.1.toNat]?) fun x5=>
  .mat (CV jd.1 x5) fun r6=>
  .ite ((s8.2.length+1)*32≤bQ∧1≤32)<|
  let v7:=s8.2++([(r6.1,(r6.2,()))])
  .ret (.inl (aL .i64 (s8.1+1),v7)))
  (.ret (.inr s8.2))
def Nz (p0:aG):Tre (Int×(List aA)):=
 .mat (zB p0) fun r1=>
 .cond (!r1)
  (.ret (1,[]))
  (.mat (oL p0) fun r2=>
  .cond (decide (r2>400))
   (.ret (3,[]))
   (.mat (rR p0) fun r3=>
   .mat (aS (mF p0 r3) (0,[])) fun l8=>
   .ret (0,l8)))
def tq (p0:aG):Option (Int×(List aA)):=(Nz p0).run some
-- more
theorem agV{c:TRC}{n:Nat}{p:List Nat}(h:lX c n p)(hs:qF c.1 ^ c.2.2.1.length≤400):tq c=some (0,(dA c).map fun m=>liftM c.1 (fF c m)):=by
 have h5:=h.h5
 have hml:(dA c).length=qF c.1 ^ c.2.2.1.length:=aqf _ _
 unfold tq Nz
 rw [ah (asu h),Tre.aD,Bool.not_true,cond_false,ah (apK h (by omega)),Tre.aD,decide_eq_false (by omega),cond_false,ah (asy h (by omega))]
 rw [ah (show aS (mF c ((dA c).map (tX c))) (0,[])=some ((dA c).map fun m=>liftM c.1 (fF c m)) from ?_),Tre.aN]
 refine fH (fun i=>((i:Int),((dA c).map fun m=>liftM c.1 (fF c m)).take i)) (dA c).length _ (fun i hi=>?_) ?_
 ·have hm:=List.getElem?_eq_getElem hi
  have hok:=lZ (List.mem_of_getElem? hm)
  obtain ⟨h1,h2,h3⟩:=fO h hok
  have hx:((dA c).map (tX c))[i]?=some (up (fF c (dA c)[i])):=by rw [List.getElem?_map,hm,h1];rfl
  unfold mF
  dsimp only
  rw [eB hx,Int.toNat_natCast,ah hx,ah (anK h.hf h2 (by omega)),Tre.run_ite,if_pos (by unfold bQ;rw [List.length_take,List.length_map];omega),Tre.aN,aY (by omega),List.take_add_one,List.getElem?_map,hm]
  rfl
 ·unfold mF
  dsimp only
  have hl:((dA c).map (tX c)).length=(dA c).length:=by simp
  rw [←hl,dR,Tre.aN,List.take_of_length_le (by simp)]
def y7:Env:=⟨tau,[(101,SI),(102,AU),(103,Jz),(85,SV)],[]⟩
def RL:Code:=(Tryz.f34.body).getD .skip
def F7 (auW:Bool) (jd:aG) (E9:(List (List Int))):(Int×(List aA))→St:=fun x=>bT [(1,(.ptr (3,0) [])),(4,(.ref (6,0) [])),(5,(.ref (7,0) [])),(6,(.i x.1))] [((3,0),some ⟨true,aP,(.imm auW),jd⟩),((6,0),some ⟨false,(.sl .il),.own,E9⟩),((7,0),some ⟨false,(.sl aK),.own,x.2⟩)]
def D5 (_:Bool) (_:aG) (_:(List (List Int))):(List aA)→Ex×St:=fun x=>(.exit 0,bT [(5,(.ref (7,0) []))] [((7,0),some ⟨false,(.sl aK),.own,x⟩)])
def YK (s:St):Tre (Ex×St):=
 dH (3,0) [] (s.tmps 1)<|
 fQ (6,0) [] (s.tmps 4)<|
 fQ (7,0) [] (s.tmps 5)<|
 aF true .n (s.tmps 6) fun d5=>
 bq true aP (s.roots (3,0)) fun m7 d8=>
 fI m7 fun z9=>
 bq false (.sl .il) (s.roots (6,0)) fun m11 d12=>
 asM .own m11<|
 bq false (.sl aK) (s.roots (7,0)) fun m14 d15=>
 asM .own m14<|
 .mat (aS (mF d8 d12) (d5,d15)) fun x=>.ret (D5 z9 d8 d12 x)
def rG:bF:=⟨([1,4,5,6],[(3,0),(6,0),(7,0)]),([5],[(7,0)]),YK⟩
def F6:List (Nat×bF):=[(8,rG)]
theorem RO:∀(auW:Bool)(jd:aG)(E9:(List (List Int)))(x:(Int×(List aA)))(c:St→Option (Ex×St)),den y7 F6 (aV RL 0) (F7 auW jd E9 x) (bZ rG.kp rG.kx c)=(mF jd E9 x).run (cu (F7 auW jd E9) (D5 auW jd E9) c):=fun _ _ _ _ _=>by
 kernel_rfl
theorem WL:bU y7 F6 (aV RL 0) rG:=dB fun _ _ _=>gy<|nR<|nR<|aO fun _=>cO fun _ _=>nQ fun _=>cO fun _ _=>tM<|cO fun _ _=>tM<|fun h _ e13 _ e10 _ e6 e4 e3 e2 e1=>cK (RO _ _ _) h (by subst_vars;exact aT rfl rfl ⟨e1,e2,e3,e4,trivial⟩ ⟨e6,e10,e13,trivial⟩)
def af0:FnI:=fnI Tryz.f34 F6
def Le (_:Bool) (_:aG):(Int×(List aA))→au:=fun r=>⟨(.tcons (.ref (1,0) []) (.tcons (.i r.1) .tnil)),[],[⟨false,(.sl aK),.own,r.2⟩]⟩
theorem adh:∀(zp0:Bool)(p0:aG),bH y7 af0 ⟨[(.imm zp0 aP p0)],[]⟩=(Nz p0).run fun r=>some (Le zp0 p0 r):=fun _ _=>by kernel_rfl
def afZ (av:List AV) (rs:List Root):Tre au:=
 aB av fun a0_ av0=>
 aJ av0<|
 aJ rs<|
 bB aP a0_ fun z2 d1=>
 .mat (tq d1) fun r=>.ret (Le z2 d1 r)
def RN:Ctr:=dx [] afZ
theorem adi:Contract Tryz.prog .none 34 RN:=aC (V:=y7) aR (ak adC axD (ak Jv atb (ak Xj axE (ak Zl awW aH)))) Tryz.func34 (bM (n:=1) fun k hk=>by
 match k,hk with
 |0,_=>exact bP (id:=8) WL) fun _ _ _=>aI fun _ _=>aZ<|aZ<|dF fun _ _=>fun h=>by intros;subst_vars;exact aW (adh _ _) h
def nL (aX:(List aA)) (bD:(List aA)):Int→Tre (Int ⊕ (Bool ⊕ Unit)):=fun s4=>
 .cond (decide (s4<(aX.length:Int)))
  (.ite (0≤s4∧s4<(aX.length:Int))<|
  .mat (aX[s4.toNat]?) fun x1=>
  .ite (0≤s4∧s4<(bD.length:Int))<|
  .mat (bD[s4.toNat]?) fun x2=>
  .mat (oI x1 x2) fun r3=>
  .cond (!r3)
   (.ret (.inr (.inl false)))
   (.ret (.inl (aL .i64 (s4+1)))))
  (.ret (.inr (.inr ())))
def Ww (p0:(List aA)) (p1:(List aA)):Tre Bool:=
 .cond (!decide ((p0.length:Int)=(p1.length:Int)))
  (.ret false)
  (.mat (aS (nL p0 p1) 0) fun l4=>
  .alt l4
   (fun a5=>
    .ret a5)
   (fun _=>
    .ret true))
def EG (p0:(List aA)) (p1:(List aA)):Option Bool:=(Ww p0 p1).run some
-- more
theorem agX{m:Int×List Int×Unit}(h:m.2.1.length≤1000000):oI m m=some true:=by
 unfold oI NC
 rw [Tre.aD,decide_eq_true rfl,cond_true,ah (show zG m.2.1 m.2.1=some true from by
  unfold zG
  rw [kX (by simp only [Bool.and_eq_true,decide_eq_true_eq];omega),decide_eq_true rfl]),Tre.aN]
theorem aho{l:List (Int×List Int×Unit)}(hl:l.length≤1000000)(h:∀m∈l,m.2.1.length≤1000000):EG l l=some true:=by
 unfold EG Ww
 rw [Tre.aD,decide_eq_true rfl,Bool.not_true,cond_false,ah (show aS (nL l l) 0=some (.inr ()) from ?_)]
 ·rfl
 refine fH (fun i=>(i:Int)) l.length _ (fun i hi=>?_) ?_
 ·have hx:=List.getElem?_eq_getElem hi
  unfold nL
  rw [eB hx,gu hx,ah (agX (h _ (List.mem_of_getElem? hx))),Tre.aD,Bool.not_true,cond_false,Tre.aN,aY (by omega)]
 ·unfold nL
  exact dR
def EH:Env:=⟨tau,[(26,F9)],[]⟩
def Yb:Code:=(Tryz.f35.body).getD .skip
def Ay (iG:Bool) (oQ:Bool) (aX:(List aA)) (bD:(List aA)):Int→St:=fun x=>bT [(0,(.imm iG (.sl aK) aX)),(1,(.imm oQ (.sl aK) bD)),(5,(.i x))] []
def rD (_:Bool) (_:Bool) (_:(List aA)) (_:(List aA)):(Bool ⊕ Unit)→Ex×St
 |.inl x=>(.ret,bT [(4,(.imm true .bool x))] [])
 |.inr _=>(.exit 0,bT [(4,.dead)] [])
def OO (s:St):Tre (Ex×St):=
 bB (.sl aK) (s.tmps 0) fun z3 d2=>
 bB (.sl aK) (s.tmps 1) fun z6 d5=>
 aF true .n (s.tmps 5) fun d8=>
 .mat (aS (nL d2 d5) d8) fun x=>.alt x (fun a0=>.ret (rD z3 z6 d2 d5 (.inl a0))) (fun b0=>.ret (rD z3 z6 d2 d5 (.inr b0)))
def qz:bF:=⟨([0,1,5],[]),([4],[]),OO⟩
def Nk:List (Nat×bF):=[(4,qz)]
theorem Wx:∀(iG oQ:Bool)(aX bD:(List aA))(x:Int)(c:St→Option (Ex×St)),den EH Nk (aV Yb 0) (Ay iG oQ aX bD x) (bZ qz.kp qz.kx c)=(nL aX bD x).run (cu (Ay iG oQ aX bD) (rD iG oQ aX bD) c):=fun _ _ _ _ _ _=>by
 kernel_rfl
theorem aaq:bU EH Nk (aV Yb 0) qz:=fq fun s e s' h=>by
 generalize hs:restrict qz.kp s=s1 at h
 have h:(OO s1).run some=some (e,s'):=h
 obtain ⟨z3,d2,e1,h_0⟩:=dJ h
 obtain ⟨z6,d5,e4,h_1⟩:=dJ h_0
 obtain ⟨d8,e7,h_2⟩:=bO h_1
 obtain ⟨y,hy,hz⟩:=iA h_2
 refine ⟨_,_,Ay z3 z6 d2 d5,rD z3 z6 d2 d5,nL d2 d5,d8,y,?_,hy,?_,Wx z3 z6 d2 d5⟩
 ·subst hs;exact aT (T:=[(0,(.imm z3 (.sl aK) d2)),(1,(.imm z6 (.sl aK) d5)),(5,(.i d8))]) (U:=[]) rfl rfl ⟨e1,e4,e7,trivial⟩ trivial
 ·rcases y with x|x<;>exact Option.some.inj hz
def aj1:FnI:=fnI Tryz.f35 Nk
def Rl (_:Bool) (_:Bool) (_:(List aA)) (_:(List aA)):Bool→au:=fun r=>⟨(.imm true .bool r),[],[]⟩
theorem ahQ:∀(zp0 zp1:Bool)(p0 p1:(List aA)),bH EH aj1 ⟨[(.imm zp0 (.sl aK) p0),(.imm zp1 (.sl aK) p1)],[]⟩=(Ww p0 p1).run fun r=>some (Rl zp0 zp1 p0 p1 r):=fun _ _ _ _=>by kernel_rfl
def aj0 (av:List AV) (rs:List Root):Tre au:=
 aB av fun a0_ av0=>
 aB av0 fun a1_ av1=>
 aJ av1<|
 aJ rs<|
 bB (.sl aK) a0_ fun z2 d1=>
 bB (.sl aK) a1_ fun z4 d3=>
 .mat (EG d1 d3) fun r=>.ret (Rl z2 z4 d1 d3 r)
def Yc:Ctr:=dx [] aj0
theorem ahR:Contract Tryz.prog .none 35 Yc:=aC (V:=EH) aR (ak OT awQ aH) Tryz.func35 (bM (n:=1) fun k hk=>by
 match k,hk with
 |0,_=>exact bP (id:=4) aaq) fun _ _ _=>aI fun _ _=>aI fun _ _=>aZ<|aZ<|dF fun _ _=>dF fun _ _=>fun h=>by intros;subst_vars;exact aW (ahQ _ _ _ _) h
def lY (p0:List Int) (p1:List Int):Tre (List Int):=
 .mat (wS p0) fun r1=>
 .ite (0≤r1∧r1<(p1.length:Int))<|
 .mat (p1[r1.toNat]?) fun x2=>
 .ite (0≤r1∧r1<(p1.length:Int))<|
 .mat (p1[r1.toNat]?) fun _=>
 let v4:=p1.set r1.toNat (aL .i64 (x2+1))
 .ret v4
def iH (p0:List Int) (p1:List Int):Option (List Int):=(lY p0 p1).run some
def rA:Env:=⟨tau,[(94,Wm)],[]⟩
def Ez:FnI:=fnI Tryz.f227 []
def oU (_:Bool) (_:List Int) (_:List Int):(List Int)→au:=fun r=>⟨.tnil,[⟨true,.il,.own,r⟩],[]⟩
theorem Di:∀(zp0:Bool)(p0 p1:List Int),bH rA Ez ⟨[(.imm zp0 .il p0),(.ptr (0,0) [])],[⟨true,.il,.own,p1⟩]⟩=(lY p0 p1).run fun r=>some (oU zp0 p0 p1 r):=fun _ _ _=>by kernel_rfl
def Ey (av:List AV) (rs:List Root):Tre au:=
 aB av fun a0_ av0=>
 aB av0 fun a1_ av1=>
 aJ av1<|
 aB rs fun r0_ rs0=>
 aJ rs0<|
 bB .il a0_ fun z2 d1=>
 dH (0,0) [] a1_<|
 iL true .il r0_ fun m3 d4=>
 asM .own m3<|
 .mat (iH d1 d4) fun r=>.ret (oU z2 d1 d4 r)
def rC:Ctr:=dx [] Ey
theorem Dj:Contract Tryz.prog .none 227 rC:=aC (V:=rA) aR (ak abC awZ aH) Tryz.func227 bn fun _ _ _=>aI fun _ _=>aI fun _ _=>aZ<|aI fun _ _=>aZ<|dF fun _ _=>gy<|tRt fun _ _=>tM<|fun h=>by intros;subst_vars;exact aW (Di _ _ _) h
def pJ (p0:List Int) (p1:aG) (p2:List Int):Tre (List Int):=
 .mat (kJ p1 p0) fun r1=>
 .mat (iH r1 p2) fun r2=>
 .ret r2
def gP (p0:List Int) (p1:aG) (p2:List Int):Option (List Int):=(pJ p0 p1 p2).run some
def vK:Env:=⟨tau,[(114,uX),(227,rC)],[]⟩
def JM:FnI:=fnI Tryz.f179 []
def sJ (_:Bool) (_:List Int) (p1:aG) (_:List Int):(List Int)→au:=fun r=>⟨.tnil,[⟨true,.fn,.own,(some (227,[(0,2)]):Option (Nat×List ay))⟩,⟨true,aP,(.imm true),p1⟩,⟨true,.il,.own,r⟩],[]⟩
theorem Hg:∀(zp0:Bool)(p0:List Int)(p1:aG)(p2:List Int),bH vK JM ⟨[(.imm zp0 .il p0),(.ptr (0,0) []),(.ptr (0,1) [])],[⟨true,.fn,.own,(some (227,[(0,2)]):Option (Nat×List ay))⟩,⟨true,aP,(.imm true),p1⟩,⟨true,.il,.own,p2⟩]⟩=(pJ p0 p1 p2).run fun r=>some (sJ zp0 p0 p1 p2 r):=fun _ _ _ _=>by kernel_rfl
def JL (av:List AV) (rs:List Root):Tre au:=
 aB av fun a0_ av0=>
 aB av0 fun a1_ av1=>
 aB av1 fun a2_ av2=>
 aJ av2<|
 aB rs fun r0_ rs0=>
 aB rs0 fun r1_ rs1=>
 aB rs1 fun r2_ rs2=>
 aJ rs2<|
 bB .il a0_ fun z2 d1=>
 dH (0,0) [] a1_<|
 dH (0,1) [] a2_<|
 iL true .fn r0_ fun m3 d4=>
 asM .own m3<|
 asD d4 (some (227,[(0,2)]):Option (Nat×List ay))<|
 iL true aP r1_ fun m5 d6=>
 asM (.imm true) m5<|
 iL true .il r2_ fun m7 d8=>
 asM .own m7<|
 .mat (gP d1 d6 d8) fun r=>.ret (sJ z2 d1 d6 d8 r)
def vL:Ctr:=dx [] JL
theorem Hl:Contract Tryz.prog .none 179 vL:=aC (V:=vK) aR (ak Ca atc (ak Dj ayf aH)) Tryz.func179 bn fun _ _ _=>aI fun _ _=>aI fun _ _=>aI fun _ _=>aZ<|aI fun _ _=>aI fun _ _=>aI fun _ _=>aZ<|dF fun _ _=>gy<|gy<|tRt fun _ _=>tM<|tD<|tRt fun _ _=>tM<|tRt fun _ _=>tM<|fun h=>by intros;subst_vars;exact aW (Hg _ _ _ _) h
def I7 (jM:(Int×(Int×Unit))):(Int×(List Int))→Tre ((Int×(List Int)) ⊕ (Int×(List Int))):=fun s4=>
 .cond (decide (s4.1 ≥ 0))
  (.ite (0≤s4.1∧s4.1<(s4.2.length:Int))<|
  .mat (s4.2[s4.1.toNat]?) fun x2=>
  .mat (eU jM) fun r3=>
  .cond (decide (x2=aL .i64 (r3-1)))
   (.ite (0≤s4.1∧s4.1<(s4.2.length:Int))<|
   .mat (s4.2[s4.1.toNat]?) fun _=>
   let v5:=s4.2.set s4.1.toNat 0
   .ret (.inl (aL .i64 (s4.1-1),v5)))
   (.ret (.inr (s4.1,s4.2))))
  (.ret (.inr (s4.1,s4.2)))
def Yn (bC:Int) (bK:aG) (bA:(Int×(Int×Unit))):((List Int)×(List Int))→Tre (((List Int)×(List Int)) ⊕ (List Int)):=fun s2=>
 .mat (gP s2.2 bK s2.1) fun r1=>
 .mat (aS (I7 bA) (aL .i64 (bC-1),s2.2)) fun l6=>
 .cond (decide (l6.1<0))
  (.ret (.inr r1))
  (.ite (0≤l6.1∧l6.1<(l6.2.length:Int))<|
  .mat (l6.2[l6.1.toNat]?) fun x7=>
  .ite (0≤l6.1∧l6.1<(l6.2.length:Int))<|
  .mat (l6.2[l6.1.toNat]?) fun _=>
  let v9:=l6.2.set l6.1.toNat (aL .i64 (x7+1))
  .ret (.inl (r1,v9)))
def ayy (p0:(Int×(Int×Unit))) (p1:Int) (p2:aG) (p3:List Int):Tre (List Int):=
 .ite ((.n:K)=.n∧0≤p1∧p1=p1∧p1*(8:Nat)≤140737488355328∧1≤8)<|
 .mat (aS (Yn p1 p2 p0) (p3,List.replicate p1.toNat (0:Int))) fun l10=>
 .ret l10
def aj7 (p0:(Int×(Int×Unit))) (p1:Int) (p2:aG) (p3:List Int):Option (List Int):=(ayy p0 p1 p2 p3).run some
def aax:Env:=⟨tau,[(179,vL),(154,qp)],[]⟩
def aj8:Code:=(Tryz.f121.body).getD .skip
def afG (aX:Int) (dL:aG) (lu:List Int) (jM:(Int×(Int×Unit))):(Int×(List Int))→St:=fun x=>bT [(1,(.i aX)),(2,(.fn 179 [(0,0),(0,1)])),(3,(.ptr (5,0) [])),(6,(.ref (8,0) [])),(7,(.i x.1))] [((0,0),some ⟨true,.fn,.own,(some (227,[(0,2)]):Option (Nat×List ay))⟩),((0,1),some ⟨true,aP,(.imm true),dL⟩),((0,2),some ⟨true,.il,.own,lu⟩),((5,0),some ⟨true,aM,.own,jM⟩),((8,0),some ⟨false,.il,.own,x.2⟩)]
def abJ (aX:Int) (dL:aG) (lu:List Int) (jM:(Int×(Int×Unit))):(Int×(List Int))→Ex×St:=fun x=>(.exit 2,bT [(1,(.i aX)),(2,(.fn 179 [(0,0),(0,1)])),(3,(.ptr (5,0) [])),(6,(.ref (8,0) [])),(7,(.i x.1))] [((0,0),some ⟨true,.fn,.own,(some (227,[(0,2)]):Option (Nat×List ay))⟩),((0,1),some ⟨true,aP,(.imm true),dL⟩),((0,2),some ⟨true,.il,.own,lu⟩),((5,0),some ⟨true,aM,.own,jM⟩),((8,0),some ⟨false,.il,.own,x.2⟩)])
def arQ (s:St):Tre (Ex×St):=
 aF true .n (s.tmps 1) fun d2=>
 xY 179 [(0,0),(0,1)] (s.tmps 2)<|
 dH (5,0) [] (s.tmps 3)<|
 fQ (8,0) [] (s.tmps 6)<|
 aF true .n (s.tmps 7) fun d7=>
 bq true .fn (s.roots (0,0)) fun m9 d10=>
 asM .own m9<|
 asD d10 (some (227,[(0,2)]):Option (Nat×List ay))<|
 bq true aP (s.roots (0,1)) fun m12 d13=>
 asM (.imm true) m12<|
 bq true .il (s.roots (0,2)) fun m15 d16=>
 asM .own m15<|
 bq true aM (s.roots (5,0)) fun m18 d19=>
 asM .own m18<|
 bq false .il (s.roots (8,0)) fun m21 d22=>
 asM .own m21<|
 .mat (aS (I7 d19) (d7,d22)) fun x=>.ret (abJ d2 d13 d16 d19 x)
def TH:bF:=⟨([1,2,3,6,7],[(0,0),(0,1),(0,2),(5,0),(8,0)]),([1,2,3,6,7],[(0,0),(0,1),(0,2),(5,0),(8,0)]),arQ⟩
def afF (bC:Int) (bK:aG) (bA:(Int×(Int×Unit))):((List Int)×(List Int))→St:=fun x=>bT [(1,(.i bC)),(2,(.fn 179 [(0,0),(0,1)])),(3,(.ptr (5,0) [])),(6,(.ref (8,0) []))] [((0,0),some ⟨true,.fn,.own,(some (227,[(0,2)]):Option (Nat×List ay))⟩),((0,1),some ⟨true,aP,(.imm true),bK⟩),((0,2),some ⟨true,.il,.own,x.1⟩),((5,0),some ⟨true,aM,.own,bA⟩),((8,0),some ⟨false,.il,.own,x.2⟩)]
def abI (_:Int) (bK:aG) (_:(Int×(Int×Unit))):(List Int)→Ex×St:=fun x=>(.ret,bT [] [((0,0),some ⟨true,.fn,.own,(some (227,[(0,2)]):Option (Nat×List ay))⟩),((0,1),some ⟨true,aP,(.imm true),bK⟩),((0,2),some ⟨true,.il,.own,x⟩)])
def arP (s:St):Tre (Ex×St):=
 aF true .n (s.tmps 1) fun d2=>
 xY 179 [(0,0),(0,1)] (s.tmps 2)<|
 dH (5,0) [] (s.tmps 3)<|
 fQ (8,0) [] (s.tmps 6)<|
 bq true .fn (s.roots (0,0)) fun m7 d8=>
 asM .own m7<|
 asD d8 (some (227,[(0,2)]):Option (Nat×List ay))<|
 bq true aP (s.roots (0,1)) fun m10 d11=>
 asM (.imm true) m10<|
 bq true .il (s.roots (0,2)) fun m13 d14=>
 asM .own m13<|
 bq true aM (s.roots (5,0)) fun m16 d17=>
 asM .own m16<|
 bq false .il (s.roots (8,0)) fun m19 d20=>
 asM .own m19<|
 .mat (aS (Yn d2 d11 d17) (d14,d20)) fun x=>.ret (abI d2 d11 d17 x)
def TG:bF:=⟨([1,2,3,6],[(0,0),(0,1),(0,2),(5,0),(8,0)]),([],[(0,0),(0,1),(0,2)]),arP⟩
def afE:List (Nat×bF):=[(4,TH),(2,TG)]
theorem akb:∀(aX:Int)(dL:aG)(lu:List Int)(jM:(Int×(Int×Unit)))(x:(Int×(List Int)))(c:St→Option (Ex×St)),den aax afE (aV aj8 1) (afG aX dL lu jM x) (bZ TH.kp TH.kx c)=(I7 jM x).run (cu (afG aX dL lu jM) (abJ aX dL lu jM) c):=fun _ _ _ _ _ _=>by
 kernel_rfl
theorem apd:bU aax afE (aV aj8 1) TH:=dB fun _ _ _=>aO fun _=>tFn<|gy<|nR<|aO fun _=>cO fun _ _=>tM<|tD<|cO fun _ _=>tM<|cO fun _ _=>tM<|cO fun _ _=>tM<|cO fun _ _=>tM<|fun h _ e20 _ e17 _ e14 _ e11 _ _ e8 e6 e5 e4 e3 e1=>cK (akb _ _ _ _) h (by subst_vars;exact aT rfl rfl ⟨e1,e3,e4,e5,e6,trivial⟩ ⟨e8,e11,e14,e17,e20,trivial⟩)
theorem aj9:∀(bC:Int)(bK:aG)(bA:(Int×(Int×Unit)))(x:((List Int)×(List Int)))(c:St→Option (Ex×St)),den aax afE (aV aj8 0) (afF bC bK bA x) (bZ TG.kp TG.kx c)=(Yn bC bK bA x).run (cu (afF bC bK bA) (abI bC bK bA) c):=fun _ _ _ _ _=>by
 kernel_rfl
theorem apc:bU aax afE (aV aj8 0) TG:=dB fun _ _ _=>aO fun _=>tFn<|gy<|nR<|cO fun _ _=>tM<|tD<|cO fun _ _=>tM<|cO fun _ _=>tM<|cO fun _ _=>tM<|cO fun _ _=>tM<|fun h _ e18 _ e15 _ e12 _ e9 _ _ e6 e5 e4 e3 e1=>cK (aj9 _ _ _) h (by subst_vars;exact aT rfl rfl ⟨e1,e3,e4,e5,trivial⟩ ⟨e6,e9,e12,e15,e18,trivial⟩)
def ayA:FnI:=fnI Tryz.f121 afE
def amx (_:(Int×(Int×Unit))) (_:Int) (p2:aG) (_:List Int):(List Int)→au:=fun r=>⟨.tnil,[⟨true,.fn,.own,(some (227,[(0,2)]):Option (Nat×List ay))⟩,⟨true,aP,(.imm true),p2⟩,⟨true,.il,.own,r⟩],[]⟩
theorem avP:∀(p0:(Int×(Int×Unit)))(p1:Int)(p2:aG)(p3:List Int),bH aax ayA ⟨[(.imm true aM p0),(.i p1),(.fn 179 [(0,0),(0,1)])],[⟨true,.fn,.own,(some (227,[(0,2)]):Option (Nat×List ay))⟩,⟨true,aP,(.imm true),p2⟩,⟨true,.il,.own,p3⟩]⟩=(ayy p0 p1 p2 p3).run fun r=>some (amx p0 p1 p2 p3 r):=fun _ _ _ _=>by kernel_rfl
def ayz (av:List AV) (rs:List Root):Tre au:=
 aB av fun a0_ av0=>
 aB av0 fun a1_ av1=>
 aB av1 fun a2_ av2=>
 aJ av2<|
 aB rs fun r0_ rs0=>
 aB rs0 fun r1_ rs1=>
 aB rs1 fun r2_ rs2=>
 aJ rs2<|
 aF true aM a0_ fun d1=>
 aF true .n a1_ fun d2=>
 xY 179 [(0,0),(0,1)] a2_<|
 iL true .fn r0_ fun m3 d4=>
 asM .own m3<|
 asD d4 (some (227,[(0,2)]):Option (Nat×List ay))<|
 iL true aP r1_ fun m5 d6=>
 asM (.imm true) m5<|
 iL true .il r2_ fun m7 d8=>
 asM .own m7<|
 .mat (aj7 d1 d2 d6 d8) fun r=>.ret (amx d1 d2 d6 d8 r)
def atV:Ctr:=dx [] ayz
theorem avQ:Contract Tryz.prog .none 121 atV:=aC (V:=aax) aR (ak Hl atj (ak ug ajz aH)) Tryz.func121 (bM (n:=2) fun k hk=>by
 match k,hk with
 |0,_=>exact bP (id:=2) apc
 |1,_=>exact bP (id:=4) apd) fun _ _ _=>aI fun _ _=>aI fun _ _=>aI fun _ _=>aZ<|aI fun _ _=>aI fun _ _=>aI fun _ _=>aZ<|aO fun _=>aO fun _=>tFn<|tRt fun _ _=>tM<|tD<|tRt fun _ _=>tM<|tRt fun _ _=>tM<|fun h=>by intros;subst_vars;exact aW (avP _ _ _ _) h
def ayB (p0:aG) (p1:List Int):Tre (List Int):=
 .mat (aj7 p0.1 (p0.2.2.1.length:Int) p0 p1) fun r1=>
 .ret r1
def akc (p0:aG) (p1:List Int):Option (List Int):=(ayB p0 p1).run some
def atW:Env:=⟨tau,[(121,atV)],[]⟩
def ayD:FnI:=fnI Tryz.f99 []
def amy (_:aG) (_:List Int):(List Int)→au:=fun r=>⟨.tnil,[⟨true,.il,.own,r⟩],[]⟩
theorem avR:∀(p0:aG)(p1:List Int),bH atW ayD ⟨[(.imm true aP p0),(.fn 227 [(0,0)])],[⟨true,.il,.own,p1⟩]⟩=(ayB p0 p1).run fun r=>some (amy p0 p1 r):=fun _ _=>by kernel_rfl
def ayC (av:List AV) (rs:List Root):Tre au:=
 aB av fun a0_ av0=>
 aB av0 fun a1_ av1=>
 aJ av1<|
 aB rs fun r0_ rs0=>
 aJ rs0<|
 aF true aP a0_ fun d1=>
 xY 227 [(0,0)] a1_<|
 iL true .il r0_ fun m2 d3=>
 asM .own m2<|
 .mat (akc d1 d3) fun r=>.ret (amy d1 d3 r)
def atX:Ctr:=dx [] ayC
theorem avS:Contract Tryz.prog .none 99 atX:=aC (V:=atW) aR (ak avQ atd aH) Tryz.func99 bn fun _ _ _=>aI fun _ _=>aI fun _ _=>aZ<|aI fun _ _=>aZ<|aO fun _=>tFn<|tRt fun _ _=>tM<|fun h=>by intros;subst_vars;exact aW (avR _ _) h
def wR (p0:aG):Tre (List Int):=
 let v1:=if p0.1.1<p0.2.1 then p0.1.1 else p0.2.1
 .ite ((.n:K)=.n∧0≤aL .i64 (v1+1)∧aL .i64 (v1+1)=aL .i64 (v1+1)∧aL .i64 (v1+1)*(8:Nat)≤140737488355328∧1≤8)<|
 .mat (akc p0 (List.replicate (aL .i64 (v1+1)).toNat (0:Int))) fun r2=>
 .ret r2
def mR (p0:aG):Option (List Int):=(wR p0).run some
-- more
theorem azp{f:TF3}(hf:aQ f=true)(i:Nat)(l:List Int)(x:Int)(hx:l[i]?=some x)(hl:l.length≤1000):(I7 f ((i:Int),l)).run some=some (cond (decide (x=(qF f:Int)-1)) (.inl ((i:Int)-1,l.set i 0)) (.inr ((i:Int),l))):=by
 have hq:=J4 f
 have hil:=(List.getElem?_eq_some_iff.1 hx).1
 have hd:=dM hf
 have hc:eU f=some (qF f:Int):=by
  unfold eU vH
  rw [Tre.run_ite,if_pos (by omega),Tre.aN,show f.1=((f.1.toNat:Nat):Int) by omega,amd (by omega)]
  rfl
 have hqi:qF f≤32:=wV (b:=f.1.toNat) (c:=5) (by omega)
 unfold I7
 dsimp only
 rw [Tre.aD,decide_eq_true (by omega),cond_true,gu hx,ah hc,bY (by omega) (by omega),Tre.aD]
 cases decide (x=(qF f:Int)-1)
 ·rfl
 ·rw [cond_true,cond_true,gu hx,Tre.aN,Int.toNat_natCast,bY (by omega) (by omega)]
theorem azo{f:TF3}(l:List Int):(I7 f (-1,l)).run some=some (.inr (-1,l)):=rfl
theorem auS{c:TRC}{n:Nat}{p:List Nat}(h:lX c n p)(I:List (List Int)→List Int→Prop)(F:List Int→List Int→List Int)
  (hs:∀(pre:List (List Int))(m g:List Int),m∈dA c→pre.length<(dA c).length→I pre g→gP m c g=some (F g m)∧I (pre++[m]) (F g m)) (g0:List Int) (h0:I [] g0) :
  ∃g,aj7 c.1 (c.2.2.1.length:Int) c g0=some g∧I (dA c) g:=by
 have hq:=J4 c.1
 have h10:=h.r10
 obtain ⟨st,hl,hI⟩:=amP (nx:=zY (qF c.1:Int)) (step:=Yn (c.2.2.1.length:Int) c c.1) (fun (g:List Int) (d:List Int)=>(g,d)) (fun g=>g) F I (all:=dA c) (by
  intro pre d g hd hn hlt hI
  obtain ⟨hdl,hdv⟩:=(Ye _ _ _).1 hd
  obtain ⟨hcl,hI2⟩:=hs pre d g hd hlt hI
  refine ⟨?_,hI2⟩
  unfold Yn
  dsimp only
  rw [ah hcl,bY (n:=(c.2.2.1.length:Int)-1) (by omega) (by omega)]
  have st4:=azp h.hf
  rcases abH (qF c.1:Int) d with hd2|⟨zs,cc,k,hcc,hd2⟩
  ·rw [hdl] at hd2
   have h4:=aiA (step:=I7 c.1) (M:=(qF c.1:Int)) (N:=1000) azo st4 c.2.2.1.length 0 (by omega)
   rw [List.replicate_zero,List.append_nil,←hd2] at h4
   rw [ah h4,Tre.aD,decide_eq_true (show (-1:Int)<0 by decide),cond_true,Tre.aN]
   have:zY (qF c.1:Int) d=none:=by rw [hd2];exact aaw _ _
   rw [this]
  ·have hlz:zs.length+k+1=c.2.2.1.length:=by rw [←hdl,hd2];simp;omega
   have h4:=aiz (step:=I7 c.1) (M:=(qF c.1:Int)) (N:=1000) (zs:=zs) st4 hcc k 0 (by omega)
   rw [List.replicate_zero,List.append_nil,←hd2,Nat.add_zero,show ((zs.length+k:Nat):Int)=(c.2.2.1.length:Int)-1 by omega] at h4
   have hqi:qF c.1≤32:=by have:=dM h.hf;exact wV (b:=c.1.1.toNat) (c:=5) (by omega)
   obtain ⟨kk,hkk,hkl⟩:=hdv cc (by rw [hd2];simp)
   have hnx:zY (qF c.1:Int) d=some (zs++(cc+1)::List.replicate k 0):=by rw [hd2];exact ai0 _ _ hcc _ _
   have hat:(zs++cc::List.replicate k 0)[zs.length]?=some cc:=by simp
   have hset:(zs++cc::List.replicate k 0).set zs.length (cc+1)=zs++(cc+1)::List.replicate k 0:=by simp
   rw [ah h4]
   dsimp only
   rw [Tre.aD,decide_eq_false (by omega),cond_false,gu hat,gu hat,Tre.aN,Int.toNat_natCast,bY (n:=cc+1) (by omega) (by omega),hset,hnx]) (aqO hq c.2.2.1.length) [] g0 rfl (TA _ _) h0
 refine ⟨st,?_,hI⟩
 unfold aj7 ayy
 rw [Tre.run_ite,if_pos ⟨rfl,by omega,rfl,by omega,by decide⟩,Int.toNat_natCast,ah hl,Tre.aN]
def JD(L:Nat)(rs:List Nat):List Int:=(List.range L).map fun r=>((rs.count r:Nat):Int)
theorem Xu(L:Nat)(rs:List Nat):(JD L rs).length=L:=by simp [JD]
theorem Ie{L:Nat}{rs:List Nat}{r:Nat}(h:r<L):(JD L rs)[r]?=some ((rs.count r:Nat):Int):=by simp [JD,h]
theorem alB{L:Nat}{rs:List Nat}{x:Nat}(_:x<L):(JD L rs).set x ((rs.count x:Nat)+1:Int)=JD L (rs++[x]):=by
 apply List.ext_getElem?
 intro r
 by_cases hr:r<L
 ·rw [Ie hr,List.count_append]
  by_cases hx:x=r
  ·subst hx
   rw [List.getElem?_set_self (by rw [Xu];exact hr),List.count_singleton_self]
   congr 1
  ·rw [List.getElem?_set_ne hx,Ie hr,List.count_singleton,if_neg (by simpa using hx)]
   rfl
 ·rw [List.getElem?_eq_none (by rw [List.length_set,Xu];omega),List.getElem?_eq_none (by rw [Xu];omega)]
def lQ (c:TRC) (m:List Int):Nat:=rkN (fF c m)
theorem apl{f:TF3}(hf:aQ f=true){L:List Nat}(h:inL (FOf f hf) L)(hl:L.length≤1000):rkN L≤f.1.toNat∧rkN L≤L.length:=by
 have hI:=Yz hf h hl
 refine ⟨?_,hI.le⟩
 obtain ⟨P,k,hR,hm,hs⟩:=hI
 have hall:∀a∈P,0≤a.1∧a.1<f.1.toNat:=by
  intro a ha
  refine ⟨Nat.zero_le _,?_⟩
  have hSp:Sp L a.2:=(hs a.2).2 (Sp.mem (by rw [←hm];exact List.mem_map.2 ⟨a,ha,rfl⟩))
  have hlt:a.2<2 ^ f.1.toNat:=by
   have key:∀v,Sp L v→v<2 ^ f.1.toNat:=by
    intro v hv
    induction hv with
    |zero=>exact Nat.two_pow_pos _
    |add hr _ ih=>exact Nat.xor_lt_two_pow (by have:=h _ hr;rwa [Xn] at this) ih
   exact key _ hSp
  have hb:=(hR.1 a ha).2.1
  rcases Nat.lt_or_ge a.1 f.1.toNat with h1|h1
  ·exact h1
  ·rw [Nat.testBit_lt_two_pow (Nat.lt_of_lt_of_le hlt (Nat.pow_le_pow_right (by decide) h1))] at hb
   cases hb
 have:=Abs.Xl P 0 f.1.toNat (hR.2.imp fun h=>h.1) hall
 unfold rkN
 rw [←hm,List.length_map]
 omega
theorem apR{c:TRC}{n:Nat}{p:List Nat}(h:lX c n p){m:List Int}(hm:okV c.1 c.2.2.1.length m){L:Nat}{rs:List Nat}(hL:lQ c m<L)(hr:rs.length≤100000):gP m c (JD L rs)=some (JD L (rs++[lQ c m])):=by
 obtain ⟨h1,h2,h3⟩:=fO h hm
 have h5:=h.h5
 have hcnt:rs.count (lQ c m)≤rs.length:=List.count_le_length
 have hc:iH (tX c m) (JD L rs)=some (JD L (rs++[lQ c m])):=by
  unfold iH lY
  rw [←h1,ah (show wS (up (fF c m))=some (lQ c m:Int) from aqd h.hf h2 (by omega)),gu (Ie hL),gu (Ie hL),Tre.aN,Int.toNat_natCast,bY (by omega) (by omega),alB hL]
 unfold gP pJ
 rw [ah (ap8 h hm),ah hc,Tre.aN]
def mnC(c:TRC):Nat:=min c.1.1.toNat c.2.1.toNat
theorem anU{c:TRC}{n:Nat}{p:List Nat}(h:lX c n p){m:List Int}(hm:okV c.1 c.2.2.1.length m):lQ c m<mnC c+1:=by
 obtain ⟨h1,h2,h3⟩:=fO h hm
 have h5:=h.h5
 have:=apl h.hf h2 (by omega)
 unfold lQ mnC
 rw [h.len,Int.toNat_natCast]
 omega
theorem apQ{c:TRC}{n:Nat}{p:List Nat}(h:lX c n p)(hs:(dA c).length≤4096):mR c=some (JD (mnC c+1) ((dA c).map (lQ c))):=by
 have hd:=dM h.hf
 have h1:=h.h1
 have h5:=h.h5
 have hl:=h.len
 have hmn:aL .i64 ((if c.1.1<c.2.1 then c.1.1 else c.2.1)+1)=((mnC c+1:Nat):Int):=by
  unfold mnC
  split
  ·rw [bY (by omega) (by omega)];omega
  ·rw [bY (by omega) (by omega)];omega
 have hz:List.replicate (mnC c+1) (0:Int)=JD (mnC c+1) []:=by
  apply List.ext_getElem?
  intro r
  rw [List.getElem?_replicate]
  by_cases hr:r<mnC c+1
  ·rw [if_pos hr,Ie hr];rfl
  ·rw [if_neg hr,List.getElem?_eq_none (by rw [Xu];omega)]
 have hst:∀(rs:List Nat)(r:Nat),r<mnC c+1→(JD (mnC c+1) rs).set r ((JD (mnC c+1) rs).getD r 0+1)=JD (mnC c+1) (rs++[r]):=by
  intro rs r hr
  rw [jX (Ie hr),alB hr]
 obtain ⟨g,hg,hI⟩:=auS h (fun pre g=>g=JD (mnC c+1) (pre.map (lQ c))) (fun g m=>g.set (lQ c m) (g.getD (lQ c m) 0+1)) (fun pre m g hm hlt hI=>by
  have hr:=anU h (lZ hm)
  subst hI
  rw [hst _ _ hr]
  exact ⟨apR h (lZ hm) hr (by rw [List.length_map];omega),by rw [List.map_append];rfl⟩) (JD (mnC c+1) []) rfl
 subst hI
 have he:akc c (JD (mnC c+1) [])=some (JD (mnC c+1) ((dA c).map (lQ c))):=by
  unfold akc ayB
  rw [ah hg,Tre.aN]
 have hmm:mnC c≤5:=by unfold mnC;omega
 unfold mR wR
 dsimp only
 rw [hmn,Tre.run_ite,if_pos ⟨rfl,by omega,rfl,by omega,by decide⟩,Int.toNat_natCast,hz,ah he,Tre.aN]
theorem atM{P:Nat→Prop}:∀n,P n→∃k,P k∧∀j,j<k→¬P j:=by
 intro n
 induction n using Nat.strongRecOn with
 |_ n ih=>
  intro hn
  by_cases h:∃j,j<n∧P j
  ·obtain ⟨j,hj,hp⟩:=h
   exact ih j hj hp
  ·exact ⟨n,hn,fun j hj hp=>h ⟨j,hj,hp⟩⟩
structure ajj(c:TRC)(r:Nat):Prop where
 pos:0<r
 has:∃m∈dA c,lQ c m=r
 low:∀m∈dA c,0<lQ c m→r≤lQ c m
theorem aqN{f:TF3}(hf:aQ f=true){L:List Nat}(h:inL (FOf f hf) L)(hl:L.length≤1000)(h0:rkN L=0):∀x∈L,x=0:=by
 obtain ⟨P,k,_,hm,hs⟩:=Yz hf h hl
 have hE:ech L=[]:=List.length_eq_zero_iff.1 h0
 intro x hx
 have:=(hs x).1 (Sp.mem hx)
 rw [hE] at this
 cases this with
 |zero=>rfl
 |add hr _=>cases hr
def Ce:Env:=⟨tau,[(99,atX)],[]⟩
def QY:FnI:=fnI Tryz.f185 []
def yL (_:aG):(List Int)→au:=fun r=>⟨(.ref (1,0) []),[],[⟨false,.il,.own,r⟩]⟩
theorem Pq:∀(p0:aG),bH Ce QY ⟨[(.imm true aP p0)],[]⟩=(wR p0).run fun r=>some (yL p0 r):=fun _=>by kernel_rfl
def QX (av:List AV) (rs:List Root):Tre au:=
 aB av fun a0_ av0=>
 aJ av0<|
 aJ rs<|
 aF true aP a0_ fun d1=>
 .mat (mR d1) fun r=>.ret (yL d1 r)
def Cg:Ctr:=dx [] QX
theorem Pt:Contract Tryz.prog .none 185 Cg:=aC (V:=Ce) aR (ak avS aw2 aH) Tryz.func185 bn fun _ _ _=>aI fun _ _=>aZ<|aZ<|aO fun _=>fun h=>by intros;subst_vars;exact aW (Pq _) h
def eZ (Et:(List aA)) (Ik:Int) (Il:aA):(Int×Int)→Tre ((Int×Int) ⊕ Int):=fun s10=>
 .cond (decide (s10.2<Ik))
  (.ite (0≤s10.2∧s10.2<(Et.length:Int))<|
  .mat (Et[s10.2.toNat]?) fun x4=>
  .mat (kH Il x4) fun r5=>
  let v6:=if r5<s10.1 then r5 else s10.1
  .ret (.inl (v6,aL .i64 (s10.2+1))))
  (.ret (.inr s10.1))
def fG (nH:(List aA)) (qK:(List aA)) (Qq:Int):(Int×Int)→Tre ((Int×Int) ⊕ Int):=fun s7=>
 .cond (decide (s7.2<Qq))
  (.ite (0≤s7.2∧s7.2<(qK.length:Int))<|
  .mat (qK[s7.2.toNat]?) fun x2=>
  .ite (0≤(0:Int)∧(0:Int)≤s7.2∧s7.2≤(nH.length:Int))<|
  let v3:=(nH.drop 0).take (s7.2-0).toNat
  .mat (aS (eZ v3 (v3.length:Int) x2) (s7.1,0)) fun l7=>
  .ret (.inl (l7,aL .i64 (s7.2+1))))
  (.ret (.inr s7.1))
def mQ (p0:(List aA)):Tre (Int×Int):=
 .mat (wD p0) fun r1=>
 .cond (!r1)
  (.ret (0,1))
  (.cond (decide ((p0.length:Int)=1))
   (.ret (0,4))
   (.mat (aS (fG p0 p0 (p0.length:Int)) (20,0)) fun l8=>
   .ret (l8,0)))
def fV (p0:(List aA)):Option (Int×Int):=(mQ p0).run some
-- more
theorem azm{a b:List Nat}(h:up a=up b):a=b:=by
 have:=congrArg (List.map Int.toNat) h
 rwa [up_toNat,up_toNat] at this
theorem atP{n:Nat}{u w:List Nat}(hu:u.length=n)(hw:w.length=n)(h:dY n u=dY n w):u=w:=by
 apply List.ext_getElem?
 intro i
 by_cases hi:i<n
 ·have h1:=List.getElem?_eq_getElem (show i<u.length by omega)
  have h2:=List.getElem?_eq_getElem (show i<w.length by omega)
  have h3:=sU (n:=n) h1
  rw [h,sU (n:=n) h2] at h3
  have h4:=congrArg (· >>> n) (Option.some.inj h3)
  simp only [aiY hi] at h4
  rw [h1,h2,h4]
 ·rw [List.getElem?_eq_none (by omega),List.getElem?_eq_none (by omega)]
theorem Zp{c:TRC}{n:Nat}{p:List Nat}(h:lX c n p)(hs:(dA c).length≤400):adU (eT c)=true:=by
 have h5:=h.h5
 have hlen:(eT c).length=(dA c).length:=by unfold eT;simp
 have hpos:1≤(dA c).length:=by rw [afz];exact Nat.pow_pos (J4 _)
 have hel:∀x∈eT c,agW x=true∧x.1=(n:Int)+c.1.1∧x.2.1.length=n:=by
  intro x hx
  obtain ⟨m,hm,rfl⟩:=List.mem_map.1 hx
  obtain ⟨h1,h2,h3⟩:=fO h (lZ hm)
  refine ⟨Yf h.hf h2 (by omega),by show ((fF c m).length:Int)+_=_;rw [h3],by show (up (dY (fF c m).length (fF c m))).length=_;rw [eX,iU,h3]⟩
 have hf:A8 (eT c)∈eT c:=List.mem_of_getElem? (aeu (by omega))
 unfold adU
 rw [Bool.and_eq_true,iT]
 refine ⟨by omega,(ajC _ _).2 fun j x hx=>?_⟩
 have hxe:=hel x (List.mem_of_getElem? hx)
 have hfe:=hel _ hf
 unfold alr
 rw [hxe.1,hxe.2.1,hfe.2.1,hxe.2.2,hfe.2.2,decide_eq_true rfl,decide_eq_true rfl]
 rw [Bool.not_true,Bool.false_or,Bool.false_or,Bool.false_or,List.any_eq_false]
 intro y hy he
 rw [decide_eq_true_eq] at he
 obtain ⟨j',hj'⟩:=List.getElem?_of_mem hy
 have hjj:j'<j:=by have:=(List.getElem?_eq_some_iff.1 hj').1;rw [List.length_take] at this;omega
 rw [List.getElem?_take_of_lt (by omega)] at hj'
 unfold eT at hx hj'
 rw [List.getElem?_map] at hx hj'
 obtain ⟨m,hm,rfl⟩:=Option.map_eq_some_iff.1 hx
 obtain ⟨m',hm',rfl⟩:=Option.map_eq_some_iff.1 hj'
 obtain ⟨_,_,h3⟩:=fO h (lZ (List.mem_of_getElem? hm))
 obtain ⟨_,_,h3'⟩:=fO h (lZ (List.mem_of_getElem? hm'))
 have he':up (dY (fF c m).length (fF c m))=up (dY (fF c m').length (fF c m')):=he
 rw [h3,h3'] at he'
 have hww:=atP h3 h3' (azm he')
 have hmm:=word_inj h (lZ (List.mem_of_getElem? hm)) (lZ (List.mem_of_getElem? hm')) hww
 subst hmm
 obtain ⟨l1,e1⟩:=List.getElem?_eq_some_iff.1 hm
 obtain ⟨l2,e2⟩:=List.getElem?_eq_some_iff.1 hm'
 have:=(List.nodup_iff_pairwise_ne.1 (TA (qF c.1) c.2.2.1.length))
 have:=List.pairwise_iff_getElem.1 this j' j l2 l1 hjj
 exact this (by show (dA c)[j']=(dA c)[j];rw [e1,e2])
def Ul(a d:Int):Int:=if d<a then d else a
theorem avM:∀(l:List Int)(a:Int),l.foldl Ul a≤a∧∀d∈l,l.foldl Ul a≤d:=by
 intro l
 induction l with
 |nil=>intro a;exact ⟨Int.le_refl _,fun d h=>absurd h List.not_mem_nil⟩
 |cons x l ih=>
  intro a
  obtain ⟨h1,h2⟩:=ih (Ul a x)
  have h3:Ul a x≤a∧Ul a x≤x:=by unfold Ul;split<;>omega
  refine ⟨Int.le_trans h1 h3.1,fun d hd=>?_⟩
  rcases List.mem_cons.1 hd with rfl|hd
  ·exact Int.le_trans h1 h3.2
  ·exact h2 d hd
theorem avL{b:Int}:∀(l:List Int)(a:Int),b≤a→(∀d∈l,b≤d)→b≤l.foldl Ul a:=by
 intro l
 induction l with
 |nil=>intro a h _;exact h
 |cons x l ih=>
  intro a h hd
  refine ih _ ?_ fun d hd'=>hd d (.tail _ hd')
  have:=hd x (.head _)
  unfold Ul;split<;>omega
def abo (c:TRC) (i j:Nat):Int:=2*(rkN (rY (fF c ((dA c).getD i [])) (fF c ((dA c).getD j []))):Int)
def Dq (c:TRC) (i:Nat):List Int:=(List.range i).flatMap fun a=>(List.range a).map (abo c a)
theorem ayu{c:TRC}{n:Nat}{p:List Nat}(h:lX c n p)(hs:(dA c).length≤400)(h2:(dA c).length≠1):fV (eT c)=some ((Dq c (dA c).length).foldl Ul 20,0):=by
 have h5:=h.h5
 have hlen:(eT c).length=(dA c).length:=by unfold eT;simp
 have hget:∀i,i<(dA c).length→(eT c)[i]?=some (liftM c.1 (fF c ((dA c).getD i []))):=by
  intro i hi
  have:=List.getElem?_eq_getElem hi
  unfold eT
  rw [List.getElem?_map,jX this,this];rfl
 have hmem:∀i,i<(dA c).length→(dA c).getD i []∈dA c:=by
  intro i hi
  have:=List.getElem?_eq_getElem hi
  rw [jX this];exact List.mem_of_getElem? this
 have hsh:adS (eT c):=⟨by omega,fun x hx=>by
  obtain ⟨m,hm,rfl⟩:=List.mem_map.1 hx
  obtain ⟨_,_,h3⟩:=fO h (lZ hm)
  show (up (dY (fF c m).length (fF c m))).length≤_
  rw [eX,iU,h3];omega⟩
 unfold fV mQ
 rw [ah (KU _ hsh),Zp h hs,Tre.aD,Bool.not_true,cond_false,Tre.aD,decide_eq_false (by omega),cond_false]
 rw [ah (show aS (fG (eT c) (eT c) ((eT c).length:Int)) (20,0)=some ((Dq c (dA c).length).foldl Ul 20) from ?_),Tre.aN]
 refine fH (fun i=>((Dq c i).foldl Ul 20,(i:Int))) (dA c).length _ (fun i hi=>?_) ?_
 ·have hti:((eT c).take i).length=i:=by rw [List.length_take];omega
  have hin:aS (eZ ((eT c).take i) (((eT c).take i).length:Int) (liftM c.1 (fF c ((dA c).getD i [])))) ((Dq c i).foldl Ul 20,0)=some ((Dq c (i+1)).foldl Ul 20):=by
   refine fH (fun j=>((((List.range j).map (abo c i)).foldl Ul ((Dq c i).foldl Ul 20)),(j:Int))) i _ (fun j hj=>?_) ?_
   ·have hx:((eT c).take i)[j]?=some (liftM c.1 (fF c ((dA c).getD j []))):=by rw [List.getElem?_take_of_lt hj];exact hget j (by omega)
    obtain ⟨_,a2,a3⟩:=fO h (lZ (hmem i hi))
    obtain ⟨_,b2,b3⟩:=fO h (lZ (hmem j (by omega)))
    unfold eZ
    dsimp only
    rw [eB hx,ah (al6 h.hf a2 b2 (by omega) (by omega)),Tre.aN,aY (by omega),List.range_succ,List.map_append,List.foldl_append]
    rfl
   ·unfold eZ
    dsimp only
    rw [hti,dR,Tre.aN]
    unfold Dq
    rw [List.range_succ,List.flatMap_append,List.foldl_append]
    simp
  have hd:((eT c).drop 0).take (((i:Int)-0).toNat)=(eT c).take i:=by rw [List.drop_zero,show ((i:Int)-0).toNat=i by omega]
  unfold fG
  dsimp only
  rw [eB (hget i hi),Tre.run_ite,if_pos ⟨Int.le_refl _,by omega,by omega⟩,hd,ah hin,Tre.aN,aY (by omega)]
 ·unfold fG
  dsimp only
  rw [hlen,dR,Tre.aN]
theorem atS{c:TRC}{n:Nat}{p:List Nat}(h:lX c n p)(h1:(dA c).length=1):fV (eT c)=some (0,4):=by
 have h5:=h.h5
 have hlen:(eT c).length=(dA c).length:=by unfold eT;simp
 have hsh:adS (eT c):=⟨by omega,fun x hx=>by
  obtain ⟨m,hm,rfl⟩:=List.mem_map.1 hx
  obtain ⟨_,_,h3⟩:=fO h (lZ hm)
  show (up (dY (fF c m).length (fF c m))).length≤_
  rw [eX,iU,h3];omega⟩
 unfold fV mQ
 rw [ah (KU _ hsh),Zp h (by omega),Tre.aD,Bool.not_true,cond_false,Tre.aD,decide_eq_true (by omega),cond_true,Tre.aN]
theorem aji{u:List Nat}:∀x∈rY u u,x=0:=by
 intro x hx
 obtain ⟨i,hi⟩:=List.getElem?_of_mem hx
 have hl:=(List.getElem?_eq_some_iff.1 hi).1
 rw [GX rfl] at hl
 have h1:=List.getElem?_eq_getElem hl
 rw [Tg h1 h1] at hi
 rw [←Option.some.inj hi,Nat.xor_self]
theorem awL{u w:List Nat}(hl:u.length=w.length)(h:∀x∈rY u w,x=0):u=w:=by
 apply List.ext_getElem?
 intro i
 by_cases hi:i<u.length
 ·have h1:=List.getElem?_eq_getElem hi
  have h2:=List.getElem?_eq_getElem (show i<w.length by omega)
  have h3:=h _ (List.mem_of_getElem? (Tg h1 h2))
  rw [h1,h2]
  congr 1
  have h4:=congrArg (u[i] ^^^ ·) h3
  simp only [GY,Nat.xor_zero] at h4
  exact h4.symm
 ·rw [List.getElem?_eq_none (by omega),List.getElem?_eq_none (by omega)]
theorem amQ{c:TRC}{n:Nat}{p:List Nat}(h:lX c n p){r:Nat}(hr:ajj c r):(Dq c (dA c).length).foldl Ul 20=2*(r:Int):=by
 have h5:=h.h5
 have hmem:∀i,i<(dA c).length→(dA c).getD i []∈dA c:=by
  intro i hi
  have:=List.getElem?_eq_getElem hi
  rw [jX this];exact List.mem_of_getElem? this
 obtain ⟨m,hm,hmr⟩:=hr.has
 have hr5:r≤5:=by
  obtain ⟨_,b2,b3⟩:=fO h (lZ hm)
  have:=(apl h.hf b2 (by omega)).2
  unfold lQ at hmr
  omega
 have hpair:∀i j,i<(dA c).length→j<(dA c).length→i≠j→2*(r:Int)≤abo c i j:=by
  intro i j hi hj hij
  have mi:=lZ (hmem i hi)
  have mj:=lZ (hmem j hj)
  have hx:=awM h.hf mi mj
  have hw:=ag5 h mi mj
  obtain ⟨_,a2,a3⟩:=fO h mi
  obtain ⟨_,b2,b3⟩:=fO h mj
  have hpos:0<lQ c (C8 ((dA c).getD i []) ((dA c).getD j [])):=by
   rcases Nat.eq_zero_or_pos (lQ c (C8 ((dA c).getD i []) ((dA c).getD j []))) with h0|h0
   ·exfalso
    unfold lQ at h0
    rw [hw] at h0
    have hz:=aqN h.hf (adV (Xn h.hf) a2 b2) (by rw [GX (by omega)];omega) h0
    have he:=word_inj h mi mj (awL (by omega) hz)
    have h1:=List.getElem?_eq_getElem hi
    have h2:=List.getElem?_eq_getElem hj
    rw [jX h1,jX h2] at he
    have hnd:=List.nodup_iff_pairwise_ne.1 (TA (qF c.1) c.2.2.1.length)
    rcases Nat.lt_or_gt_of_ne hij with hlt|hlt
    ·exact List.pairwise_iff_getElem.1 hnd i j hi hj hlt he
    ·exact List.pairwise_iff_getElem.1 hnd j i hj hi hlt he.symm
   ·exact h0
  have:=hr.low _ (apb hx) hpos
  unfold lQ at this
  rw [hw] at this
  unfold abo
  omega
 have hall:∀d∈Dq c (dA c).length,2*(r:Int)≤d:=by
  intro d hd
  unfold Dq at hd
  obtain ⟨a,ha,hd⟩:=List.mem_flatMap.1 hd
  obtain ⟨b,hb,rfl⟩:=List.mem_map.1 hd
  have:=List.mem_range.1 ha
  have:=List.mem_range.1 hb
  exact hpair a b (by omega) (by omega) (by omega)
 refine Int.le_antisymm ?_ (avL _ _ (by omega) hall)
-- a word of the least rank, and the word 0
 have hz:okV c.1 c.2.2.1.length (List.replicate c.2.2.1.length 0):=C9 _
 obtain ⟨i,hi⟩:=List.getElem?_of_mem hm
 obtain ⟨j,hj⟩:=List.getElem?_of_mem (apb hz)
 have hil:=(List.getElem?_eq_some_iff.1 hi).1
 have hjl:=(List.getElem?_eq_some_iff.1 hj).1
 have hd:∀a b:Nat,(dA c)[a]?=some m→(dA c)[b]?=some (List.replicate c.2.2.1.length 0)→abo c a b=2*(r:Int)∧abo c b a=2*(r:Int):=by
  intro a b ha hb
  have mo:=lZ hm
  have e1:C8 m (List.replicate c.2.2.1.length 0)=m:=by
   unfold C8
   apply List.ext_getElem?
   intro q
   rw [List.getElem?_map]
   by_cases hq:q<c.2.2.1.length
   ·have hqm:q<m.length:=by rw [mo.1];exact hq
    have h1:=List.getElem?_eq_getElem hqm
    rw [List.getElem?_zip_eq_some.2 (show m[q]?=some (m[q],(0:Int)).1∧(List.replicate c.2.2.1.length (0:Int))[q]?=some (m[q],(0:Int)).2 from ⟨h1,by rw [List.getElem?_replicate,if_pos hq]⟩),h1]
    show some (jT .i64 m[q] 0)=_
    rw [LM h.hf (mo.2 _ (List.mem_of_getElem? h1))]
   ·rw [List.getElem?_eq_none (by simp;omega),List.getElem?_eq_none (by rw [mo.1];omega)]
    rfl
  have e2:=ag5 h mo hz
  rw [e1] at e2
  have e3:∀u w:List Nat,rY u w=rY w u:=by
   intro u
   induction u with
   |nil=>intro w;simp [rY]
   |cons x u ih=>
    intro w
    cases w with
    |nil=>simp [rY]
    |cons y w=>
     have:=ih w
     unfold rY at this ⊢
     simp only [List.zip_cons_cons,List.map_cons]
     rw [this,Nat.xor_comm]
  unfold abo
  rw [jX ha,jX hb,e3 (fF c (List.replicate c.2.2.1.length 0)),←e2]
  unfold lQ at hmr
  rw [hmr]
  exact ⟨rfl,rfl⟩
 have hij:i≠j:=by
  intro hij
  subst hij
  rw [hi] at hj
  have hd':=(hd i i hi (by rw [hi];exact hj)).1
  have mo:=lZ hm
  obtain ⟨_,a2,a3⟩:=fO h mo
  have:rkN (rY (fF c m) (fF c m))=0:=by
   have hI:=Yz h.hf (adV (Xn h.hf) a2 a2) (by rw [GX rfl];omega)
   have:=aen (ars aji (rows:=rY (fF c m) (fF c m)))
   unfold rkN
   rw [this];rfl
  unfold abo at hd'
  rw [jX hi,this] at hd'
  have:=hr.pos
  omega
 have hin:2*(r:Int)∈Dq c (dA c).length:=by
  unfold Dq
  rcases Nat.lt_or_gt_of_ne hij with hlt|hlt
  ·exact List.mem_flatMap.2 ⟨j,List.mem_range.2 hjl,List.mem_map.2 ⟨i,List.mem_range.2 hlt,(hd i j hi hj).2⟩⟩
  ·exact List.mem_flatMap.2 ⟨i,List.mem_range.2 hil,List.mem_map.2 ⟨j,List.mem_range.2 hlt,(hd i j hi hj).1⟩⟩
 exact (avM _ _).2 _ hin
theorem least_some{c:TRC}{n:Nat}{p:List Nat}(h:lX c n p)(h0:c.2.2.1.length≠0):∃r,ajj c r:=by
 have h5:=h.h5
 have hu:=ag4 h.hf c.2.2.1.length 0
 have hz:okV c.1 c.2.2.1.length (List.replicate c.2.2.1.length 0):=C9 _
 obtain ⟨_,a2,a3⟩:=fO h hu
 have hpos:0<lQ c (JB c.2.2.1.length 0):=by
  rcases Nat.eq_zero_or_pos (lQ c (JB c.2.2.1.length 0)) with hw|hw
  ·exfalso
   have hzero:=aqN h.hf a2 (by omega) hw
   obtain ⟨_,b2,b3⟩:=fO h hz
-- the word of 0 is 0 as well
   have hb:∀x∈fF c (List.replicate c.2.2.1.length 0),x=0:=by
    have e:=ag5 h hz hz
    have e1:C8 (List.replicate c.2.2.1.length 0) (List.replicate c.2.2.1.length 0)=List.replicate c.2.2.1.length 0:=by
     unfold C8
     rw [List.zip_replicate',List.map_replicate]
     rfl
    rw [e1] at e
    rw [e]
    exact aji
   have he:fF c (JB c.2.2.1.length 0)=fF c (List.replicate c.2.2.1.length 0):=by
    rw [List.eq_replicate_iff.2 ⟨a3,hzero⟩,List.eq_replicate_iff.2 ⟨b3,hb⟩]
   have:=word_inj h hu hz he
   have:=congrArg (·[0]?) this
   unfold JB at this
   simp only [List.getElem?_set,List.getElem?_replicate,List.length_replicate] at this
   rw [if_pos (by trivial),if_pos (by omega),if_pos (by omega)] at this
   cases this
  ·exact hw
 obtain ⟨r,⟨h1,h2⟩,h3⟩:=atM (P:=fun r=>0<r∧∃m∈dA c,lQ c m=r) _ ⟨hpos,_,apb hu,rfl⟩
 refine ⟨r,h1,h2,fun m hm hm0=>?_⟩
 rcases Nat.lt_or_ge (lQ c m) r with hlt|hge
 ·exact absurd ⟨hm0,m,hm,rfl⟩ (h3 _ hlt)
 ·exact hge
def fZ:Env:=⟨tau,[(104,OE),(93,uW)],[]⟩
def kP:Code:=(Tryz.f36.body).getD .skip
def ru (ag6:Bool) (ag7:Bool) (anV:Bool) (anW:Bool) (jH:(List aA)) (L9:(List aA)) (Ma:Int) (kM:Int) (Et:(List aA)) (Ik:Int) (Il:aA):(Int×Int)→St:=fun x=>bT [(0,(.imm ag6 (.sl aK) jH)),(4,(.i x.1)),(6,(.ptr (8,0) [])),(17,(.imm ag7 (.sl aK) L9)),(18,(.i Ma)),(19,(.i kM)),(26,(.imm anV (.sl aK) Et)),(27,(.i Ik)),(28,(.i x.2))] [((8,0),some ⟨true,aK,(.imm anW),Il⟩)]
def qw (ag6:Bool) (ag7:Bool) (_:Bool) (_:Bool) (jH:(List aA)) (L9:(List aA)) (Ma:Int) (kM:Int) (_:(List aA)) (_:Int) (_:aA):Int→Ex×St:=fun x=>(.exit 3,bT [(0,(.imm ag6 (.sl aK) jH)),(4,(.i x)),(17,(.imm ag7 (.sl aK) L9)),(18,(.i Ma)),(19,(.i kM))] [])
def FH (s:St):Tre (Ex×St):=
 bB (.sl aK) (s.tmps 0) fun z3 d2=>
 aF true .n (s.tmps 4) fun d5=>
 dH (8,0) [] (s.tmps 6)<|
 bB (.sl aK) (s.tmps 17) fun z9 d8=>
 aF true .n (s.tmps 18) fun d11=>
 aF true .n (s.tmps 19) fun d13=>
 bB (.sl aK) (s.tmps 26) fun z16 d15=>
 aF true .n (s.tmps 27) fun d18=>
 aF true .n (s.tmps 28) fun d20=>
 bq true aK (s.roots (8,0)) fun m22 d23=>
 fI m22 fun z24=>
 .mat (aS (eZ d15 d18 d23) (d5,d20)) fun x=>.ret (qw z3 z9 z16 z24 d2 d8 d11 d13 d15 d18 d23 x)
def iQ:bF:=⟨([0,4,6,17,18,19,26,27,28],[(8,0)]),([0,4,17,18,19],[]),FH⟩
def sI (ag8:Bool) (abf:Bool) (nH:(List aA)) (qK:(List aA)) (Qq:Int):(Int×Int)→St:=fun x=>bT [(0,(.imm ag8 (.sl aK) nH)),(4,(.i x.1)),(17,(.imm abf (.sl aK) qK)),(18,(.i Qq)),(19,(.i x.2))] []
def rz (_:Bool) (_:Bool) (_:(List aA)) (_:(List aA)) (_:Int):Int→Ex×St:=fun x=>(.exit 1,bT [(4,(.i x))] [])
def Hf (s:St):Tre (Ex×St):=
 bB (.sl aK) (s.tmps 0) fun z3 d2=>
 aF true .n (s.tmps 4) fun d5=>
 bB (.sl aK) (s.tmps 17) fun z8 d7=>
 aF true .n (s.tmps 18) fun d10=>
 aF true .n (s.tmps 19) fun d12=>
 .mat (aS (fG d2 d7 d10) (d5,d12)) fun x=>.ret (rz z3 z8 d2 d7 d10 x)
def jh:bF:=⟨([0,4,17,18,19],[]),([4],[]),Hf⟩
def iP:List (Nat×bF):=[(10,iQ),(7,jh)]
theorem BX:∀(ag6 ag7 anV anW:Bool)(jH L9:(List aA))(Ma kM:Int)(Et:(List aA))(Ik:Int)(Il:aA)(x:(Int×Int))(c:St→Option (Ex×St)),den fZ iP (aV kP 1) (ru ag6 ag7 anV anW jH L9 Ma kM Et Ik Il x) (bZ iQ.kp iQ.kx c)=(eZ Et Ik Il x).run (cu (ru ag6 ag7 anV anW jH L9 Ma kM Et Ik Il) (qw ag6 ag7 anV anW jH L9 Ma kM Et Ik Il) c):=fun _ _ _ _ _ _ _ _ _ _ _ _ _=>by
 kernel_rfl
theorem Ew:bU fZ iP (aV kP 1) iQ:=dB fun _ _ _=>dF fun _ _=>aO fun _=>gy<|dF fun _ _=>aO fun _=>aO fun _=>dF fun _ _=>aO fun _=>aO fun _=>cO fun _ _=>nQ fun _=>fun h _ e21 e19 e17 e14 e12 e10 e7 e6 e4 e1=>cK (BX _ _ _ _ _ _ _ _ _ _ _) h (by subst_vars;exact aT rfl rfl ⟨e1,e4,e6,e7,e10,e12,e14,e17,e19,trivial⟩ ⟨e21,trivial⟩)
theorem Dh:∀(ag8 abf:Bool)(nH qK:(List aA))(Qq:Int)(x:(Int×Int))(c:St→Option (Ex×St)),den fZ iP (aV kP 0) (sI ag8 abf nH qK Qq x) (bZ jh.kp jh.kx c)=(fG nH qK Qq x).run (cu (sI ag8 abf nH qK Qq) (rz ag8 abf nH qK Qq) c):=fun _ _ _ _ _ _ _=>by
 kernel_rfl
theorem FI:bU fZ iP (aV kP 0) jh:=dB fun _ _ _=>dF fun _ _=>aO fun _=>dF fun _ _=>aO fun _=>aO fun _=>fun h e11 e9 e6 e4 e1=>cK (Dh _ _ _ _ _) h (by subst_vars;exact aT rfl rfl ⟨e1,e4,e6,e9,e11,trivial⟩ trivial)
def ML:FnI:=fnI Tryz.f36 iP
def vJ (_:Bool) (_:(List aA)):(Int×Int)→au:=fun r=>⟨(.tcons (.i r.1) (.tcons (.i r.2) .tnil)),[],[]⟩
theorem KH:∀(zp0:Bool)(p0:(List aA)),bH fZ ML ⟨[(.imm zp0 (.sl aK) p0)],[]⟩=(mQ p0).run fun r=>some (vJ zp0 p0 r):=fun _ _=>by kernel_rfl
def MK (av:List AV) (rs:List Root):Tre au:=
 aB av fun a0_ av0=>
 aJ av0<|
 aJ rs<|
 bB (.sl aK) a0_ fun z2 d1=>
 .mat (fV d1) fun r=>.ret (vJ z2 d1 r)
def yF:Ctr:=dx [] MK
theorem KI:Contract Tryz.prog .none 36 yF:=aC (V:=fZ) aR (ak aad axF (ak BZ awY aH)) Tryz.func36 (bM (n:=2) fun k hk=>by
 match k,hk with
 |0,_=>exact bP (id:=7) FI
 |1,_=>exact bP (id:=10) Ew) fun _ _ _=>aI fun _ _=>aZ<|aZ<|dF fun _ _=>fun h=>by intros;subst_vars;exact aW (KH _ _) h
def DX (p0:aG):Tre Bool:=
 let v1:=aL .i64 (p0.1.1*(p0.2.2.1.length:Int))
 .ret (decide (v1≤12))
def Pm (p0:aG):Option Bool:=(DX p0).run some
def jo(p0:aG):Bool:=
 let v1:=aL .i64 (p0.1.1*(p0.2.2.1.length:Int))
 decide (v1≤12)
theorem JQ(p0:aG):Pm p0=some (jo p0):=rfl
def zV:Env:=⟨tau,[(98,Dn)],[]⟩
def Pp:FnI:=fnI Tryz.f105 []
def xL (_:Bool) (_:aG):Bool→au:=fun r=>⟨(.imm true .bool r),[],[]⟩
theorem MV:∀(zp0:Bool)(p0:aG),bH zV Pp ⟨[(.imm zp0 aP p0)],[]⟩=(DX p0).run fun r=>some (xL zp0 p0 r):=fun _ _=>by kernel_rfl
def Pn (av:List AV) (rs:List Root):Tre au:=
 aB av fun a0_ av0=>
 aJ av0<|
 aJ rs<|
 bB aP a0_ fun z2 d1=>
 .ret (xL z2 d1 (jo d1))
def zW:Ctr:=dx [] Pn
theorem MW:Contract Tryz.prog .none 105 zW:=aC (V:=zV) aR (ak K4 aw1 aH) Tryz.func105 bn fun _ _ _=>aI fun _ _=>aZ<|aZ<|dF fun _ _=>fun h=>by intros;subst_vars;exact yt (MV _ _) (JQ _) h
def gD (bC:Int) (eH:List Int):Int→Tre (Int ⊕ (Int ⊕ Unit)):=fun s2=>
 .cond (decide (s2<bC))
  (.ite (0≤s2∧s2<(eH.length:Int))<|
  .mat (eH[s2.toNat]?) fun x2=>
  .cond (decide (s2>0))
   (.cond (decide (x2>0))
    (.ret (.inr (.inl s2)))
    (.ret (.inl (aL .i64 (s2+1)))))
   (.ret (.inl (aL .i64 (s2+1)))))
  (.ret (.inr (.inr ())))
def Aq (p0:aG):Tre Int:=
 .mat (mR p0) fun r1=>
 .mat (aS (gD (r1.length:Int) r1) 0) fun l3=>
 .alt l3
  (fun a4=>
   .ret a4)
  (fun _=>
   .ret 0)
def pO (p0:aG):Option Int:=(Aq p0).run some
-- more
theorem atN{c:TRC}{n:Nat}{p:List Nat}(h:lX c n p)(hs:(dA c).length≤4096){r:Nat}(hr:ajj c r):pO c=some (r:Int):=by
 obtain ⟨m,hm,hmr⟩:=hr.has
 have hlt:=anU h (lZ hm)
 rw [hmr] at hlt
 have hpos:=hr.pos
 have h5:=h.h5
 have hmm:mnC c≤5:=by unfold mnC;rw [h.len,Int.toNat_natCast];omega
 have hcl:∀q,((dA c).map (lQ c)).count q≤4096:=fun q=>Nat.le_trans List.count_le_length (by rw [List.length_map];exact hs)
 unfold pO Aq
 rw [ah (apQ h hs),ah (show aS (gD ((JD (mnC c+1) ((dA c).map (lQ c))).length:Int) (JD (mnC c+1) ((dA c).map (lQ c)))) 0=some (.inl (r:Int)) from ?_)]
 ·rfl
 refine fH (fun i=>(i:Int)) r _ (fun i hi=>?_) ?_
 ·unfold gD
  rw [eB (Ie (show i<mnC c+1 by omega)),Tre.aD]
  by_cases h0:i=0
  ·subst h0
   rw [decide_eq_false (by omega),cond_false,Tre.aN,aY (by omega)]
  ·have hz:((dA c).map (lQ c)).count i=0:=by
    rw [List.count_eq_zero]
    intro hmem
    obtain ⟨m',hm',he⟩:=List.mem_map.1 hmem
    have:=hr.low m' hm' (by omega)
    omega
   rw [decide_eq_true (by omega),cond_true,Tre.aD,hz,decide_eq_false (by decide),cond_false,Tre.aN,aY (by omega)]
 ·have hc:0<((dA c).map (lQ c)).count r:=List.count_pos_iff.2 (List.mem_map.2 ⟨m,hm,hmr⟩)
  unfold gD
  rw [eB (Ie hlt),Tre.aD,decide_eq_true (by omega),cond_true,Tre.aD,decide_eq_true (by omega),cond_true,Tre.aN]
def pQ:Env:=⟨tau,[(185,Cg)],[]⟩
def FJ:Code:=(Tryz.f106.body).getD .skip
def pR (bC:Int) (eH:List Int):Int→St:=fun x=>bT [(6,(.ref (8,0) [])),(7,(.i bC)),(8,(.i x))] [((8,0),some ⟨false,.il,.own,eH⟩)]
def jZ (_:Int) (_:List Int):(Int ⊕ Unit)→Ex×St
 |.inl x=>(.ret,bT [(2,(.i x))] [])
 |.inr _=>(.exit 0,bT [(2,.dead)] [])
def zX (s:St):Tre (Ex×St):=
 fQ (8,0) [] (s.tmps 6)<|
 aF true .n (s.tmps 7) fun d3=>
 aF true .n (s.tmps 8) fun d5=>
 bq false .il (s.roots (8,0)) fun m7 d8=>
 asM .own m7<|
 .mat (aS (gD d3 d8) d5) fun x=>.alt x (fun a0=>.ret (jZ d3 d8 (.inl a0))) (fun b0=>.ret (jZ d3 d8 (.inr b0)))
def jq:bF:=⟨([6,7,8],[(8,0)]),([2],[]),zX⟩
def wQ:List (Nat×bF):=[(2,jq)]
theorem JR:∀(bC:Int)(eH:List Int)(x:Int)(c:St→Option (Ex×St)),den pQ wQ (aV FJ 0) (pR bC eH x) (bZ jq.kp jq.kx c)=(gD bC eH x).run (cu (pR bC eH) (jZ bC eH) c):=fun _ _ _ _=>by
 kernel_rfl
theorem MX:bU pQ wQ (aV FJ 0) jq:=fq fun s e s' h=>by
 generalize hs:restrict jq.kp s=s1 at h
 have h:(zX s1).run some=some (e,s'):=h
 obtain ⟨e1,h_0⟩:=ad7 h
 obtain ⟨d3,e2,h_1⟩:=bO h_0
 obtain ⟨d5,e4,h_2⟩:=bO h_1
 obtain ⟨m7,d8,e6,h_3⟩:=gG h_2
 obtain ⟨rfl,h_4⟩:=vD h_3
 obtain ⟨y,hy,hz⟩:=iA h_4
 refine ⟨_,_,pR d3 d8,jZ d3 d8,gD d3 d8,d5,y,?_,hy,?_,JR d3 d8⟩
 ·subst hs;exact aT (T:=[(6,(.ref (8,0) [])),(7,(.i d3)),(8,(.i d5))]) (U:=[((8,0),some ⟨false,.il,.own,d8⟩)]) rfl rfl ⟨e1,e2,e4,trivial⟩ ⟨e6,trivial⟩
 ·rcases y with x|x<;>exact Option.some.inj hz
def V8:FnI:=fnI Tryz.f106 wQ
def Cb (_:aG):Int→au:=fun r=>⟨(.i r),[],[]⟩
theorem Ud:∀(p0:aG),bH pQ V8 ⟨[(.imm true aP p0)],[]⟩=(Aq p0).run fun r=>some (Cb p0 r):=fun _=>by kernel_rfl
def V7 (av:List AV) (rs:List Root):Tre au:=
 aB av fun a0_ av0=>
 aJ av0<|
 aJ rs<|
 aF true aP a0_ fun d1=>
 .mat (pO d1) fun r=>.ret (Cb d1 r)
def FK:Ctr:=dx [] V7
theorem Ue:Contract Tryz.prog .none 106 FK:=aC (V:=pQ) aR (ak Pt ax3 aH) Tryz.func106 (bM (n:=1) fun k hk=>by
 match k,hk with
 |0,_=>exact bP (id:=2) MX) fun _ _ _=>aI fun _ _=>aZ<|aZ<|aO fun _=>fun h=>by intros;subst_vars;exact aW (Ud _) h
def IJ (p0:aG):Tre (Int×Int):=
 .mat (vQ p0) fun r1=>
 .cond (!r1)
  (.ret (0,1))
  (.cond (decide ((p0.2.2.1.length:Int)=0))
   (.ret (0,4))
   (.cond (!(jo p0))
    (.ret (0,3))
    (.mat (pO p0) fun r2=>
    .ret (r2,0))))
def qH (p0:aG):Option (Int×Int):=(IJ p0).run some
-- more
theorem ahK{c:TRC}{n:Nat}{p:List Nat}(h:lX c n p)(hs:c.1.1*(c.2.2.1.length:Int)≤12)(hm:(dA c).length≤4096)(h0:c.2.2.1.length≠0){r:Nat}(hr:ajj c r):qH c=some ((r:Int),0):=by
 have hd:=dM h.hf
 have hw:aL .i64 (c.1.1*(c.2.2.1.length:Int))=c.1.1*(c.2.2.1.length:Int):=bY (by have:0≤c.1.1*(c.2.2.1.length:Int):=Int.mul_nonneg (by omega) (by omega);omega) (by omega)
 have hl:jo c=true:=by
  unfold jo
  rw [hw,decide_eq_true hs]
 unfold qH IJ
 rw [ah (J2 h),Tre.aD,Bool.not_true,cond_false,Tre.aD,decide_eq_false (by omega),cond_false,hl,Tre.aD,Bool.not_true,cond_false,ah (atN h hm hr),Tre.aN]
theorem ac9{c:TRC}{n:Nat}{p:List Nat}(h:lX c n p)(h0:c.2.2.1.length=0):qH c=some (0,4):=by
 unfold qH IJ
 rw [ah (J2 h),Tre.aD,Bool.not_true,cond_false,Tre.aD,decide_eq_true (by omega),cond_true,Tre.aN]
def UO:Env:=⟨tau,[(97,JV),(105,zW),(106,FK)],[]⟩
def ahz:FnI:=fnI Tryz.f37 []
def Ow (_:aG):(Int×Int)→au:=fun r=>⟨(.tcons (.i r.1) (.tcons (.i r.2) .tnil)),[],[]⟩
theorem aeI:∀(p0:aG),bH UO ahz ⟨[(.imm true aP p0)],[]⟩=(IJ p0).run fun r=>some (Ow p0 r):=fun _=>by kernel_rfl
def ahy (av:List AV) (rs:List Root):Tre au:=
 aB av fun a0_ av0=>
 aJ av0<|
 aJ rs<|
 aF true aP a0_ fun d1=>
 .mat (qH d1) fun r=>.ret (Ow d1 r)
def UQ:Ctr:=dx [] ahy
theorem aeJ:Contract Tryz.prog .none 37 UQ:=aC (V:=UO) aR (ak Q5 aw0 (ak MW axG (ak Ue axH aH))) Tryz.func37 bn fun _ _ _=>aI fun _ _=>aZ<|aZ<|aO fun _=>fun h=>by intros;subst_vars;exact aW (aeI _) h
def Wu (p0:List Int) (p1:List Int):Tre Bool:=
 .cond (xO p0)
  (.ret true)
  (.cond (xO p1)
   (.ret true)
   (.mat (Cu p1 5) fun r1=>
   .mat (NA p0 5) fun r2=>
   .mat (F8 p0 r1 (aL .i64 (1+r2))) fun r3=>
   .mat (F8 p1 r1 (aL .i64 (1+r2))) fun r4=>
   .mat (pI r1 r3) fun r5=>
   .mat (pI r1 r4) fun r6=>
   .mat (y5 r1 r3) fun r7=>
   .cond (!decide (r5.2.1=r7.2.1))
    (.ret false)
    (.cond (!decide (r5.2.1=0))
     (.ret false)
     (.cond (!decide (r6.2.1=0))
      (.ret false)
      (.mat (oI (r5.1,(r5.2.2,())) (r7.1,(r7.2.2,()))) fun r8=>
      .cond (!r8)
       (.ret false)
       (.mat (Ct (r7.1,(r7.2.2,()))) fun r9=>
       .cond (!r9)
        (.ret false)
        (.mat (qx r1 (aL .i64 (1+r2)) (r7.1,(r7.2.2,()))) fun r10=>
        .mat (sG (r7.1,(r7.2.2,())) (r6.1,(r6.2.2,()))) fun r11=>
        .mat (oC r1 r3 r4) fun r12=>
        .cond (!decide (r10.1=0))
         (.ret false)
         (.mat (Ni r10.2 r3) fun r13=>
         .cond (!r13)
          (.ret false)
          (.cond (!decide (r11.2=0))
           (.ret false)
           (.cond (!decide (r12.2=0))
            (.ret false)
            (.cond (!decide (r11.1=aL .i64 (2*r12.1)))
             (.ret false)
             (.mat (Jd p0) fun r14=>
             .mat (yG r14) fun r15=>
             .mat (tq r14) fun r16=>
             .cond (!decide (r15.1=r16.1))
              (.ret false)
              (.mat (EG r15.2 r16.2) fun r17=>
              .cond (!r17)
               (.ret false)
               (.cond (!decide (r15.1=0))
                (.ret (decide (r15.1=3)))
                (.mat (fV r16.2) fun r18=>
                .mat (qH r14) fun r19=>
                .cond (decide ((r14.2.2.1.length:Int)=0))
                 (.cond (decide (r18.2=4))
                  (.ret (decide (r19.2=4)))
                  (.ret false))
                 (.cond (decide (r18.2=0))
                  (.cond (decide (r19.2=0))
                   (.ret (decide (r18.1=aL .i64 (2*r19.1))))
                   (.ret false))
                  (.ret false)))))))))))))))))
def Nh (p0:List Int) (p1:List Int):Option Bool:=(Wu p0 p1).run some
-- law
theorem alv{xs:List Int}(h:(K.sl (.int .u8)).wf xs):∀x∈xs,0≤x∧x≤255:=fun x hx=>by
 have h1:(Lit.int .u8 x).wf=true:=h.2 x hx
 simp [Lit.wf,IntKind.min,IntKind.max,IntKind.signed,IntKind.bits] at h1
 omega
theorem afk(p0 p1:List Int)(h0:(K.sl (.int .u8)).wf p0)(h1:(K.sl (.int .u8)).wf p1):Nh p0 p1=some true:=by
 unfold Nh Wu
 rw [Tre.aD]
 by_cases hb0:xO p0=true
 ·rw [hb0];rfl
 rw [Bool.not_eq_true] at hb0
 rw [hb0,cond_false,Tre.aD]
 by_cases hb1:xO p1=true
 ·rw [hb1];rfl
 rw [Bool.not_eq_true] at hb1
 rw [hb1,cond_false]
 have hl0:p0.length≤5000:=by unfold xO at hb0;simp at hb0;omega
 have hl1:p1.length≤5000:=by unfold xO at hb1;simp at hb1;omega
 have hy0:=alv h0
 have hy1:=alv h1
 obtain ⟨f,hfF,hf,_,_⟩:=apj hl1 hy1 (m:=5) (by decide) (by decide)
 have hd:=dM hf
 obtain ⟨b,hb,hbr⟩:=ar1 hl0 hy0 5
 obtain ⟨N,hN⟩:∃N:Nat,aL .i64 (1+b)=(N:Int)∧1≤N∧N≤5:=⟨(1+b).toNat,by rw [bY (by omega) (by omega)];omega,by omega,by omega⟩
 have hN1:=hN.2.1
 have hN5:=hN.2.2
 obtain ⟨U,hU,hUl,hUi⟩:=ai4 hl0 hy0 hf (M:=N) hN1 (by omega)
 obtain ⟨W,hW,hWl,hWi⟩:=ai4 hl1 hy1 hf (M:=N) hN1 (by omega)
 obtain ⟨u,rfl,hu⟩:=ajS hf hUi
 obtain ⟨w,rfl,hw⟩:=ajS hf hWi
 rw [amb] at hUl hWl
 rw [ah (show Cu p1 5=some f from hfF),ah hb,hN.1,ah hU,ah hW]
 rw [ah (show pI f (Uk u)=some _ from X5 hf hu (by omega) (by omega))]
 rw [ah (show pI f (Uk w)=some _ from X5 hf hw (by omega) (by omega))]
 rw [ah (show y5 f (Uk u)=some _ from akX hf hu (by omega) (by omega))]
 have hlu:(liftM f u).2.1.length≤5:=by show (up (dY u.length u)).length≤5;rw [eX,iU];omega
 have hsp:Ct (liftM f u)=some true:=by
  unfold Ct aaP
  rw [ah (WY _),Tre.aN,Yf hf hu (by omega)]
 dsimp only
 rw [Tre.aD,decide_eq_true rfl,Bool.not_true,cond_false,Tre.aD,cond_false,Tre.aD,cond_false]
 rw [ah (show oI ((liftM f u).1,(liftM f u).2.1,()) ((liftM f u).1,(liftM f u).2.1,())=some true from agX (m:=liftM f u) (by omega)),Tre.aD,Bool.not_true,cond_false]
 rw [ah (show Ct ((liftM f u).1,(liftM f u).2.1,())=some true from hsp),Tre.aD,Bool.not_true,cond_false]
 have hun:=ao3 hf hu (by omega) (by omega)
 rw [hUl] at hun
 rw [ah (show qx f (N:Int) ((liftM f u).1,(liftM f u).2.1,())=some (0,Uk u) from hun)]
 rw [ah (show sG ((liftM f u).1,(liftM f u).2.1,()) ((liftM f w).1,(liftM f w).2.1,())=some _ from aoZ hf hu hw (by omega) (by omega))]
 rw [ah (show oC f (Uk u) (Uk w)=some _ from ajV hf hu hw (by omega) (by omega) (by omega))]
 have hrk:=(aiX hf hu hw (by omega) (by omega)).2.2
 dsimp only
 rw [Tre.aD,decide_eq_true (show (0:Int)=0 from rfl),Bool.not_true,cond_false,ah (arv (by rw [amb];omega)),Tre.aD,Bool.not_true,cond_false,Tre.aD,cond_false,Tre.aD,cond_false,Tre.aD,bY (by omega) (by omega),decide_eq_true rfl,Bool.not_true,cond_false]
 obtain ⟨c,hc,⟨n,p,hP⟩,hc4,hc2⟩:=ar0 hl0 hy0
 have hdc:=dM hP.hf
 have hprod:c.1.1*(c.2.2.1.length:Int)≤8:=by
  have:c.1.1*(c.2.2.1.length:Int)≤4*(c.2.2.1.length:Int):=Int.mul_le_mul_of_nonneg_right hc4 (by omega)
  omega
 have hq:qF c.1 ^ c.2.2.1.length≤256:=by
  have h1:qF c.1≤16:=wV (b:=c.1.1.toNat) (c:=4) (by omega)
  have h2:qF c.1 ^ c.2.2.1.length≤qF c.1 ^ 2:=Nat.pow_le_pow_right (J4 _) hc2
  have h3:qF c.1 ^ 2≤16 ^ 2:=Nat.pow_le_pow_left h1 2
  omega
 have hml:(dA c).length=qF c.1 ^ c.2.2.1.length:=afz c
 have hsl:∀m∈eT c,m.2.1.length≤1000000:=by
  intro x hx
  obtain ⟨m,hm,rfl⟩:=List.mem_map.1 hx
  obtain ⟨_,_,h3⟩:=fO hP (lZ hm)
  have:=hP.h5
  show (up (dY (fF c m).length (fF c m))).length≤_
  rw [eX,iU,h3];omega
 rw [ah hc,ah (afe hP hprod),ah (show tq c=some (0,eT c) from agV hP (by omega))]
 dsimp only
 rw [Tre.aD,decide_eq_true (show (0:Int)=0 from rfl),Bool.not_true,cond_false,ah (aho (by unfold eT;rw [List.length_map];omega) hsl),Tre.aD,Bool.not_true,cond_false,Tre.aD,cond_false]
 by_cases h0:c.2.2.1.length=0
 ·rw [ah (atS hP (by rw [hml,h0,Nat.pow_zero])),ah (ac9 hP h0),Tre.aD,decide_eq_true (by omega)]
  rfl
 ·obtain ⟨r,hr⟩:=least_some hP h0
  have h1:(dA c).length≠1:=by
   have hq2:2≤qF c.1:=by
    have:2 ^ 1≤2 ^ c.1.1.toNat:=wV (by omega)
    exact this
   have:qF c.1 ^ 1≤qF c.1 ^ c.2.2.1.length:=Nat.pow_le_pow_right (J4 _) (by omega)
   rw [Nat.pow_one] at this
   omega
  have hr5:r≤5:=by
   obtain ⟨m,hm,hmr⟩:=hr.has
   obtain ⟨_,b2,b3⟩:=fO hP (lZ hm)
   have:=(apl hP.hf b2 (by have:=hP.h5;omega)).1
   unfold lQ at hmr
   omega
  rw [ah (ayu hP (by omega) h1),ah (ahK hP (by omega) (by omega) h0 hr),Tre.aD,decide_eq_false (by omega),cond_false,amQ hP hr]
  dsimp only
  rw [bY (by omega) (by omega)]
  simp [Tre.aD,Tre.aN]
def X9:Env:=⟨tau,[(20,aiV),(21,abV),(22,af4),(23,af7),(24,XL),(25,YJ),(26,F9),(27,abR),(28,OA),(29,Qy),(30,KW),(31,afn),(32,abT),(33,QN),(34,RN),(35,Yc),(36,yF),(37,UQ)],[]⟩
def ajX:FnI:=fnI Tryz.f4 []
def Rk (_:Bool) (_:Bool) (_:List Int) (_:List Int):Bool→au:=fun r=>⟨(.imm true .bool r),[],[]⟩
theorem ahO:∀(zp0 zp1:Bool)(p0 p1:List Int),bH X9 ajX ⟨[(.imm zp0 (.sl (.int .u8)) p0),(.imm zp1 (.sl (.int .u8)) p1)],[]⟩=(Wu p0 p1).run fun r=>some (Rk zp0 zp1 p0 p1 r):=fun _ _ _ _=>by kernel_rfl
def ajW (av:List AV) (rs:List Root):Tre au:=
 aB av fun a0_ av0=>
 aB av0 fun a1_ av1=>
 aJ av1<|
 aJ rs<|
 bB (.sl (.int .u8)) a0_ fun z2 d1=>
 bB (.sl (.int .u8)) a1_ fun z4 d3=>
 .mat (Nh d1 d3) fun r=>.ret (Rk z2 z4 d1 d3 r)
def ajY:Ctr:=dx [] ajW
theorem ahP:Contract Tryz.prog .none 4 ajY:=aC (V:=X9) aR (ak ao5 azy (ak akA azz (ak am5 azA (ak am7 azB (ak ahB azC (ak ah2 azD (ak OT awQ (ak aku azE (ak Z5 azF (ak acA azG (ak XQ azH (ak amh azI (ak aky azJ (ak acH azK (ak adi azL (ak ahR azM (ak KI azN (ak aeJ azO aH)))))))))))))))))) Tryz.func4 bn fun _ _ _=>aI fun _ _=>aI fun _ _=>aZ<|aZ<|dF fun _ _=>dF fun _ _=>fun h=>by intros;subst_vars;exact aW (ahO _ _ _ _) h
end Go.Proofs.YtmilokkchghpjaaGreat
