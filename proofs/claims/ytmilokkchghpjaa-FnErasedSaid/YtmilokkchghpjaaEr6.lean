/- Part 6 of the proof of FnErased. -/
import Derived.Test.YtmilokkchghpjaaEr5
set_option maxRecDepth 100000
noncomputable section
namespace Go.Proofs.Ytmilokkchghpjaa
open Go Go.Abs Go.Proofs
def Bf (aQ:List Int) (bq:Int):(Int×(List Int))→Tre ((Int×(List Int)) ⊕ (List Int)):=fun s3=>
 .cond (decide (s3.1<bq))
  (.ite (0≤s3.1∧s3.1<(aQ.length:Int))<|
  .mat (aQ[s3.1.toNat]?) fun x2=>
  .ite (0≤s3.1∧s3.1<(s3.2.length:Int))<|
  .mat (s3.2[s3.1.toNat]?) fun x3=>
  .ite (0≤s3.1∧s3.1<(s3.2.length:Int))<|
  .mat (s3.2[s3.1.toNat]?) fun _=>
  let v5:=s3.2.set s3.1.toNat (iF .i64 x3 x2)
  .ret (.inl (aF .i64 (s3.1+1),v5)))
  (.ret (.inr s3.2))
def ajc (p0:List Int) (p1:List Int):Tre (List Int):=
 .mat (oM p0) fun r1=>
 .mat (aO (Bf p1 (p1.length:Int)) (0,r1)) fun l6=>
 .ret l6
def Tz (p0:List Int) (p1:List Int):Option (List Int):=(ajc p0 p1).run some
-- more
theorem aqZ{f:TF3}(hf:aG f=true){pts w m:List Nat}(hw:inL (FOf f hf) w)(hl:w.length=pts.length)(hwl:w.length≤1000):Tz (aR w) (aR (pts.map ((FOf f hf).lp m)))=some (aR ((FOf f hf).MH pts w m)):=by
 have hel:=(FOf f hf).QF (m:=m) hl
 have hst:∀i,i<w.length→(((FOf f hf).MH pts w m).take i++w.drop i)[i]?=some (cf w i)∧(pts.map ((FOf f hf).lp m))[i]?=some ((FOf f hf).lp m (cf pts i))∧(((FOf f hf).MH pts w m).take i++w.drop i).set i (cf w i^^^(FOf f hf).lp m (cf pts i))=((FOf f hf).MH pts w m).take (i+1)++w.drop (i+1):=by
  intro i hi
  have hti:(((FOf f hf).MH pts w m).take i).length=i:=by rw [List.length_take];omega
  have hwi:=jH hi
  have hpi:=jH (show i<pts.length by omega)
  have hei:((FOf f hf).MH pts w m)[i]?=some (cf w i^^^(FOf f hf).lp m (cf pts i)):=by
   unfold FO.MH
   rw [List.getElem?_map,List.getElem?_zip_eq_some.2 (show pts[i]?=some (cf pts i,cf w i).1∧w[i]?=some (cf pts i,cf w i).2 from ⟨hpi,hwi⟩)]
   rfl
  have hd:w.drop i=cf w i::w.drop (i+1):=by
   obtain ⟨h1,h2⟩:=List.getElem?_eq_some_iff.1 hwi
   rw [List.drop_eq_getElem_cons h1,h2]
  refine ⟨by rw [List.getElem?_append_right (by omega),hti,Nat.sub_self,hd];rfl,by rw [List.getElem?_map,hpi];rfl,?_⟩
  rw [List.set_append_right _ _ (by omega),hti,Nat.sub_self,hd,List.set_cons_zero,List.take_add_one,hei,Option.toList_some,List.append_assoc]
  rfl
 unfold Tz ajc
 rw [ah (show oM (aR w)=some (aR w) from NP (by rw [aN];omega))]
 rw [ah (show aO (Bf (aR (pts.map ((FOf f hf).lp m))) ((aR (pts.map ((FOf f hf).lp m))).length:Int)) (0,aR w)=some (aR ((FOf f hf).MH pts w m)) from ?_),Tre.aI]
 refine dZ (fun i=>((i:Int),aR (((FOf f hf).MH pts w m).take i++w.drop i))) w.length _ (fun i hi=>?_) ?_
 ·obtain ⟨h1,h2,h3⟩:=hst i hi
  unfold Bf
  dsimp only
  rw [fU (fT h2),jg (fT h1),jg (fT h1),OI hf (vH hw i) ((FOf f hf).YI _ _),Int.toNat_natCast,←LA,h3,Tre.aI,aU (by omega)]
 ·unfold Bf
  dsimp only
  rw [aN,List.length_map,←hl,eY,Tre.aI,List.drop_length,List.append_nil,List.take_of_length_le (by omega)]
def TA:Env:=⟨tau,[(59,kr)],[]⟩
def ah0:Code:=(Try.f55.body).getD .skip
def U6 (dQ:Bool) (aQ:List Int) (bq:Int):(Int×(List Int))→St:=fun x=>bX [(5,(.ref (7,0) [])),(10,(.imm dQ .il aQ)),(11,(.i bq)),(12,(.i x.1))] [((7,0),some ⟨false,.il,.own,x.2⟩)]
def RB (_:Bool) (_:List Int) (_:Int):(List Int)→Ex×St:=fun x=>(.exit 0,bX [(5,(.ref (7,0) []))] [((7,0),some ⟨false,.il,.own,x⟩)])
def ajd (s:St):Tre (Ex×St):=
 dW (7,0) [] (s.tmps 5)<|
 bG .il (s.tmps 10) fun z4 d3=>
 aA true .n (s.tmps 11) fun d6=>
 aA true .n (s.tmps 12) fun d8=>
 aX false .il (s.roots (7,0)) fun m10 d11=>
 asM .own m10<|
 .mat (aO (Bf d3 d6) (d8,d11)) fun x=>.ret (RB z4 d3 d6 x)
def EL:bD:=⟨([5,10,11,12],[(7,0)]),([5],[(7,0)]),ajd⟩
def aaB:List (Nat×bD):=[(3,EL)]
theorem ac5:∀(dQ:Bool)(aQ:List Int)(bq:Int)(x:(Int×(List Int)))(c:St→Option (Ex×St)),den TA aaB (aV ah0 0) (U6 dQ aQ bq x) (cu EL.kp EL.kx c)=(Bf aQ bq x).run (cB (U6 dQ aQ bq) (RB dQ aQ bq) c):=fun _ _ _ _ _=>by
 kernel_rfl
theorem agX:bU TA aaB (aV ah0 0) EL:=dh fun _ _ _=>jk<|dM fun _ _=>aH fun _=>aH fun _=>bN fun _ _=>tM<|fun h _ e9 e7 e5 e2 e1=>bS (ac5 _ _ _) h (by subst_vars;exact aP rfl rfl ⟨e1,e2,e5,e7,trivial⟩ ⟨e9,trivial⟩)
def aqQ:FnI:=fnI Try.f55 aaB
def abU (_:Bool) (_:Bool) (_:List Int) (_:List Int):(List Int)→ay:=fun r=>⟨(.ref (1,0) []),[],[⟨false,.il,.own,r⟩]⟩
theorem anW:∀(zp0 zp1:Bool)(p0 p1:List Int),bR TA aqQ ⟨[(.imm zp0 .il p0),(.imm zp1 .il p1)],[]⟩=(ajc p0 p1).run fun r=>some (abU zp0 zp1 p0 p1 r):=fun _ _ _ _=>by kernel_rfl
def aqP (av:List AV) (rs:List Root):Tre ay:=
 aD av fun a0_ av0=>
 aD av0 fun a1_ av1=>
 aM av1<|
 aM rs<|
 bG .il a0_ fun z2 d1=>
 bG .il a1_ fun z4 d3=>
 .mat (Tz d1 d3) fun r=>.ret (abU z2 z4 d1 d3 r)
def ah1:Ctr:=dO [] aqP
theorem anX:Contract Try.prog .none 55 ah1:=aC (V:=TA) aW (ak mW apd aJ) Try.func55 (bL (n:=1) fun k hk=>by
 match k,hk with
 |0,_=>exact bO (id:=3) agX) fun _ _ _=>aK fun _ _=>aK fun _ _=>bA<|bA<|dM fun _ _=>dM fun _ _=>fun h=>by intros;subst_vars;exact bB (anW _ _ _ _) h
def aeW (p0:List Int):Tre Int:=
 .mat (XE p0) fun r1=>
 .ret (r1.length:Int)
def NH (p0:List Int):Option Int:=(aeW p0).run some
-- more
theorem avp{f:TF3}(hf:aG f=true){L:List Nat}(h:inL (FOf f hf) L)(hl:L.length≤1000):NH (aR L)=some (rkN L:Int):=by
 have h5:=(rA hf).2
 unfold NH aeW
 rw [ah (show XE (aR L)=some _ from kG (aju hf h hl (by omega))),Tre.aI,ap1]
def aeX:Env:=⟨tau,[(48,xR),(25,jf)],[]⟩
def an0:FnI:=fnI Try.f54 []
def Yn (_:Bool) (_:List Int):Int→ay:=fun r=>⟨(.i r),[],[]⟩
theorem alm:∀(zp0:Bool)(p0:List Int),bR aeX an0 ⟨[(.imm zp0 .il p0)],[]⟩=(aeW p0).run fun r=>some (Yn zp0 p0 r):=fun _ _=>by kernel_rfl
def anZ (av:List AV) (rs:List Root):Tre ay:=
 aD av fun a0_ av0=>
 aM av0<|
 aM rs<|
 bG .il a0_ fun z2 d1=>
 .mat (NH d1) fun r=>.ret (Yn z2 d1 r)
def aeY:Ctr:=dO [] anZ
theorem aln:Contract Try.prog .none 54 aeY:=aC (V:=aeX) aW (ak zo ak0 (ak jw abN aJ)) Try.func54 bP fun _ _ _=>aK fun _ _=>bA<|bA<|dM fun _ _=>fun h=>by intros;subst_vars;exact bB (alm _ _) h
def gW (su:Int) (QN:Int) (BM:(Int×(Int×Unit))):(Int×(List Int))→Tre ((Int×(List Int)) ⊕ (List Int)):=fun s7=>
 .cond (decide (s7.1<QN))
  (.mat (gG BM su s7.1) fun r2=>
  .ite ((s7.2.length+1)*8≤bE∧1≤8)<|
  .ret (.inl (aF .i64 (s7.1+1),s7.2++([r2]))))
  (.ret (.inr s7.2))
def gH (Bz:Int) (IL:Int) (yE:aS) (BA:(Int×(Int×Unit))):(Int×(List Int))→Tre ((Int×(List Int)) ⊕ (List Int)):=fun s12=>
 .cond (decide (s12.1<IL))
  (.ite (0≤Bz∧Bz<(yE.2.1.length:Int))<|
  .mat (yE.2.1[Bz.toNat]?) fun x5=>
  .mat (gG BA x5 s12.1) fun r6=>
  .ite ((s12.2.length+1)*8≤bE∧1≤8)<|
  .ret (.inl (aF .i64 (s12.1+1),s12.2++([r6]))))
  (.ret (.inr s12.2))
def gV (bq:Int) (dx:List Int) (cZ:Int) (eZ:aS) (FD:(Int×(Int×Unit))):(Int×(List (List Int)))→Tre ((Int×(List (List Int))) ⊕ (List (List Int))):=fun s3=>
 .cond (decide (s3.1<cZ))
  (.ite (0≤s3.1∧s3.1<(dx.length:Int))<|
  .mat (dx[s3.1.toNat]?) fun x1=>
  .mat (aO (gW x1 (aF .i64 (bq+1)) FD) (0,[])) fun l3=>
  let v4:=aF .i64 (bq+eZ.2.2.1)
  .mat (aO (gH s3.1 v4 eZ FD) (0,l3)) fun l7=>
  .ite ((s3.2.length+1)*24≤bE∧1≤24)<|
  .ret (.inl (aF .i64 (s3.1+1),s3.2++([l7]))))
  (.ret (.inr s3.2))
def wM (p0:aS) (p1:List Int):Tre (Bool×(List Int)):=
 .mat (aO (gV (eH p0) p1 (p1.length:Int) p0 p0.1) (0,[])) fun l8=>
 let v9:=aF .i64 (2*(eH p0))
 let v10:=aF .i64 ((aF .i64 (v9+1))+p0.2.2.1)
 .mat (kK p0.1 v10 l8) fun r11=>
 .alt r11
  (fun _=>
   .ret (false,[]))
  (fun b13=>
   .ite (0<b13.length)<|
   let v14:=aF .i64 ((eH p0)+1)
   .ite (0≤(0:Int)∧(0:Int)≤v14∧v14≤(b13.length:Int))<|
   let v15:=(b13.drop 0).take (v14-0).toNat
   .mat (RO v15) fun r16=>
   .ite (0≤v14∧v14≤(b13.length:Int)∧(b13.length:Int)≤(b13.length:Int))<|
   let v17:=(b13.drop v14.toNat).take ((b13.length:Int)-v14).toNat
   .mat (RO v17) fun r18=>
   .cond (decide ((r16.length:Int)=0))
    (.ret (false,[]))
    (.mat (jK p0.1 r18 r16 false) fun r19=>
    .cond (decide ((r19.2.length:Int)>0))
     (.ret (false,[]))
     (.cond (decide ((r19.1.length:Int)>p0.2.2.1))
      (.ret (false,[]))
      (let v20:=aF .i64 (p0.2.2.1-(r19.1.length:Int))
      .ite (0≤v20∧(r19.1.length+v20.toNat)*8≤bE∧1≤8)<|
      let v21:=r19.1++List.replicate v20.toNat 0
      .mat (nG p0 v21) fun r22=>
      .mat (Tz p1 r22) fun r23=>
      .mat (NH r23) fun r24=>
      .ret (decide (r24≤(eH p0)),v21)))))
def iI (p0:aS) (p1:List Int):Option (Bool×(List Int)):=(wM p0 p1).run some
-- more
theorem aiE(F:FO)(n x:Nat):F.KF (n+1) x=F.KF n x++[F.sqn n x]:=by
 unfold FO.KF
 rw [List.range_succ,List.map_append]
 rfl
theorem adP{F:FO}{k:Nat}{A:List Nat}(h:inL F A):inL F (rU k A):=zu h fun x hx=>by rw [(List.mem_replicate.1 hx).2];exact F.zlt
def VT {f:TF3} (hf:aG f=true) (P W:List Nat) (k t:Nat):Option (List Nat):=by
 classical
 exact if (JW f (2*t+1+k) (Pd hf t k P W)).length=2*t+1+k then none else if h:∃m,OJ hf P W k t m then some (Classical.choose h) else none
theorem aqm{f:TF3}{hf:aG f=true}{P W:List Nat}{k t:Nat}(h:(JW f (2*t+1+k) (Pd hf t k P W)).length=2*t+1+k):VT hf P W k t=none:=by
 unfold VT;rw [if_pos h]
theorem Tp{f:TF3}{hf:aG f=true}{P W:List Nat}{k t:Nat}(h:∀m,¬OJ hf P W k t m):VT hf P W k t=none:=by
 unfold VT
 split
 ·rfl
 ·rw [dif_neg fun ⟨m,hm⟩=>h m hm]
theorem ahO{f:TF3}{hf:aG f=true}{P W:List Nat}{k t:Nat}{m:List Nat}(h:(JW f (2*t+1+k) (Pd hf t k P W)).length≠2*t+1+k)(hm:OJ hf P W k t m)(hu:∀m',OJ hf P W k t m'→m'=m):VT hf P W k t=some m:=by
 unfold VT
 rw [if_neg h,dif_pos ⟨m,hm⟩,hu _ (Classical.choose_spec (⟨m,hm⟩:∃m,OJ hf P W k t m))]
theorem aqn{f:TF3}{hf:aG f=true}{P W:List Nat}{k t:Nat}{m:List Nat}(h:VT hf P W k t=some m):OJ hf P W k t m:=by
 unfold VT at h
 split at h
 ·cases h
 ·split at h
  ·rename_i h1
   rw [←Option.some.inj h]
   exact Classical.choose_spec h1
  ·cases h
theorem aof{f:TF3}{P:List Nat}{k:Nat}(hk:k≤P.length)(hn:P.length≤1000):eH (f,aR P,(k:Int),())=(((P.length-k)/2:Nat):Int):=by
 unfold eH
 dsimp only
 rw [aN,show aF .i64 ((P.length:Int)-(k:Int))=((P.length-k:Nat):Int) by rw [dG (by omega) (by omega)];omega]
 rw [show Int.tdiv ((P.length-k:Nat):Int) 2=(((P.length-k)/2:Nat):Int) from (Int.ofNat_tdiv (P.length-k) 2).symm]
 exact xU (by omega)
theorem ait{f:TF3}(hf:aG f=true){P W:List Nat}{t k:Nat}(hl:W.length=P.length):(Pd hf t k P W).length=P.length:=by
 unfold Pd
 rw [List.length_map,List.length_zip,hl,Nat.min_self]
theorem arL{f:TF3}(hf:aG f=true){P W:List Nat}{t k i:Nat}(hl:W.length=P.length)(hi:i<P.length):(Pd hf t k P W)[i]?=some (aR (ajP hf t k (cf P i) (cf W i))):=by
 unfold Pd
 rw [List.getElem?_map,List.getElem?_zip_eq_some.2 (show P[i]?=some (cf P i,cf W i).1∧W[i]?=some (cf P i,cf W i).2 from ⟨jH hi,jH (by omega)⟩)]
 rfl
theorem aq0{f:TF3}(hf:aG f=true){P W:List Nat}{k t:Nat}(hP:inL (FOf f hf) P)(hW:inL (FOf f hf) W)(hl:W.length=P.length)(hn:P.length≤1000)(hk:k≤1000)(ht:t≤1000) :
  aO (gV (t:Int) (aR W) ((aR W).length:Int) (f,aR P,(k:Int),()) f) (0,[])=some (Pd hf t k P W):=by
 have hrl:=ait hf (t:=t) (k:=k) hl
 refine dZ (fun i=>((i:Int),(Pd hf t k P W).take i)) P.length _ (fun i hi=>?_) ?_
 ·have hwi:=jH (show i<W.length by omega)
  have hpi:=jH hi
  have ht1:aF .i64 ((t:Int)+1)=((t+1:Nat):Int):=aU (by omega)
  have htk:aF .i64 ((t:Int)+(k:Int))=((t+k:Nat):Int):=by rw [dG (by omega) (by omega)];omega
  have h1:aO (gW (cf W i:Int) ((t+1:Nat):Int) f) (0,[])=some (aR ((FOf f hf).KF (t+1) (cf W i))):=by
   refine dZ (fun j=>((j:Int),aR ((FOf f hf).KF j (cf W i)))) (t+1) _ (fun j hj=>?_) ?_
   ·unfold gW
    dsimp only
    rw [Tre.aB,decide_eq_true (by omega),cond_true,ah (afd hf (vH hW i) j),Tre.run_ite,if_pos (by rw [aN,FO.Hz];unfold bE;omega),Tre.aI,aU (by omega),aiE,nK]
    rfl
   ·unfold gW
    dsimp only
    rw [eY,Tre.aI]
  have h2:aO (gH (i:Int) ((t+k:Nat):Int) (f,aR P,(k:Int),()) f) (0,aR ((FOf f hf).KF (t+1) (cf W i)))=some (aR (ajP hf t k (cf P i) (cf W i))):=by
   have h0:aR ((FOf f hf).KF (t+1) (cf W i))=aR ((FOf f hf).KF (t+1) (cf W i)++(FOf f hf).KF 0 (cf P i)):=by
    rw [show (FOf f hf).KF 0 (cf P i)=[] from rfl,List.append_nil]
   rw [h0]
   refine dZ (fun j=>((j:Int),aR ((FOf f hf).KF (t+1) (cf W i)++(FOf f hf).KF j (cf P i)))) (t+k) _ (fun j hj=>?_) ?_
   ·unfold gH
    dsimp only
    rw [Tre.aB,decide_eq_true (by omega),cond_true,jg (fT hpi),ah (afd hf (vH hP i) j),Tre.run_ite,if_pos (by rw [aN,List.length_append,FO.Hz,FO.Hz];unfold bE;omega),Tre.aI,aU (by omega),aiE _ j,←List.append_assoc,nK (_++_) [_]]
    rfl
   ·unfold gH
    dsimp only
    rw [eY,Tre.aI]
    rfl
  unfold gV
  dsimp only
  rw [fU (fT hwi),ht1,ah h1,htk,ah h2,Tre.run_ite,if_pos (by rw [List.length_take];unfold bE;omega),Tre.aI,aU (by omega),List.take_add_one,arL hf hl hi]
  rfl
 ·unfold gV
  dsimp only
  rw [aN,hl,eY,Tre.aI,List.take_of_length_le (by omega)]
theorem aoe{V N:List Nat}{t:Nat}(h:V.length=t+1):((aR (V++N)).drop 0).take (((t+1:Nat):Int)-0).toNat=aR V∧((aR (V++N)).drop ((t+1:Nat):Int).toNat).take (((aR (V++N)).length:Int)-((t+1:Nat):Int)).toNat=aR N:=by
 have hl:(aR V).length=t+1:=by rw [aN,h]
 rw [List.drop_zero,show (((t+1:Nat):Int)-0).toNat=t+1 by omega,Int.toNat_natCast,aN,List.length_append,h,nK]
 refine ⟨by rw [List.take_append_of_le_length (by omega),List.take_of_length_le (by omega)],?_⟩
 rw [List.drop_append_of_le_length (by omega),List.drop_of_length_le (by omega),List.nil_append,List.take_of_length_le (by rw [aN];omega)]
theorem afb{f:TF3}(hf:aG f=true){P W:List Nat}{k:Nat}(hi:FO.oK P)(hP:inL (FOf f hf) P)(hW:inL (FOf f hf) W)(hl:W.length=P.length)(hn:P.length≤10)(hk:1≤k)(hkn:k≤P.length) :
  (∃m,VT hf P W k ((P.length-k)/2)=some m∧iI (f,aR P,(k:Int),()) (aR W)=some (true,aR m))∨(VT hf P W k ((P.length-k)/2)=none∧∃M,iI (f,aR P,(k:Int),()) (aR W)=some (false,M)):=by
 generalize ht:(P.length-k)/2=t
 have hr:eH (f,aR P,(k:Int),())=(t:Int):=by rw [aof hkn (by omega),ht]
 have h2t:2*t+k≤P.length:=by omega
 have hrows:=aq0 hf hP hW hl (by omega) (show k≤1000 by omega) (show t≤1000 by omega)
 have hgr:=amj hf (t:=t) (k:=k) hP hW
 have hrl:=ait hf (t:=t) (k:=k) hl
 have h9:aF .i64 (2*(t:Int))=((2*t:Nat):Int):=by rw [dG (by omega) (by omega)];omega
 have h10:aF .i64 (((2*t:Nat):Int)+1)=((2*t+1:Nat):Int):=aU (by omega)
 have h11:aF .i64 (((2*t+1:Nat):Int)+(k:Int))=((2*t+1+k:Nat):Int):=by rw [dG (by omega) (by omega)];omega
 have ht1:aF .i64 ((t:Int)+1)=((t+1:Nat):Int):=aU (by omega)
 unfold iI wM
 dsimp only
 rw [hr,ah hrows,h9,h10,h11]
 rcases aob hf (show 2*t+1+k≤1000 by omega) hgr (by omega) with ⟨hfull,hke⟩|⟨hnf,x,hke,hker⟩
 ·exact .inr ⟨aqm hfull,[],by rw [ah hke];rfl⟩
 obtain ⟨V,N,rfl,hV,hN,hVi,hNi,hx,ho⟩:=aq6 hf hP hW hker
 have hall:∀m,OJ hf P W k t m→_:=fun m hm=>ao7 hf hi hP hW hl (by omega) hk h2t hm hV hN hVi hNi hx ho
 obtain ⟨hp1,hp2⟩:=aoe (N:=N) hV
 have hxl:(aR (V++N)).length=2*t+1+k:=by rw [aN,List.length_append];omega
 have hvt:=mo V
 have hnt:=mo N
 rw [ah hke,Tre.ap2,Tre.run_ite,if_pos (by omega),ht1,Tre.run_ite,if_pos (by omega),hp1,ah (alH (by omega)),Tre.run_ite,if_pos (by omega),hp2,ah (alH (by omega)),Tre.aB]
 by_cases hv0:dF V=[]
 ·refine .inr ⟨Tp fun m hm=>(hall m hm).1 hv0,[],?_⟩
  rw [decide_eq_true (by rw [aN,hv0];rfl)];rfl
 have hvpos:=List.length_pos_iff.2 hv0
 obtain ⟨A,R,hd1,hd2,hd3,hd4⟩:=WO hf (sJ hNi) (sJ hVi) hv0 (qx V) (qx N) (by omega) (by omega)
 rw [decide_eq_false (by rw [aN];omega),cond_false,ah hd1,Tre.aB]
 by_cases hR:R=[]
 ·rw [decide_eq_false (by rw [hR];show ¬((0:Nat):Int)>0;decide),cond_false,Tre.aB]
  by_cases hA:A.length≤k
  ·have hw20:aF .i64 ((k:Int)-((aR A).length:Int))=((k-A.length:Nat):Int):=by rw [aN,dG (by omega) (by omega)];omega
   have hpad:aR A++List.replicate (k-A.length) (0:Int)=aR (rU k A):=by unfold rU;rw [nK,wS]
   have hMi:=adP (k:=k) hd2.ia
   have hMl:(rU k A).length=k:=LG hA
   have hel:=(FOf f hf).QF (m:=rU k A) hl
   rw [decide_eq_false (by rw [aN];omega),cond_false,hw20,Int.toNat_natCast,Tre.run_ite,if_pos ⟨by omega,by rw [aN];unfold bE;omega,by omega⟩,hpad]
   rw [ah (an8 hf hMi (by omega) hP (by omega) _),ah (aqZ hf hW hl (by omega)),ah (avp hf ((FOf f hf).adF hW) (by omega)),Tre.aI]
   by_cases hrk:rkN ((FOf f hf).MH P W (rU k A))≤t
   ·refine .inl ⟨rU k A,ahO hnf ⟨hMl,hMi,hrk⟩ fun m' hm'=>?_,by rw [decide_eq_true (by omega)]⟩
    obtain ⟨he,_⟩:=(hall m' hm').2 A R hd2 hd3
    rw [he,GD hm'.1]
   ·refine .inr ⟨Tp fun m hm=>hrk ?_,_,by rw [decide_eq_false (by omega)]⟩
    obtain ⟨he,_⟩:=(hall m hm).2 A R hd2 hd3
    rw [he,GD hm.1]
    exact hm.2.2
  ·refine .inr ⟨Tp fun m hm=>hA ?_,[],?_⟩
   ·obtain ⟨he,_⟩:=(hall m hm).2 A R hd2 hd3
    have:=mo m
    rw [he]
    have:=hm.1
    omega
   ·rw [decide_eq_true (by rw [aN];omega)];rfl
 ·have hRp:=List.length_pos_iff.2 hR
  refine .inr ⟨Tp fun m hm=>hR ((hall m hm).2 A R hd2 hd3).2,[],?_⟩
  rw [decide_eq_true (by rw [aN];omega)];rfl
def fE:Env:=⟨tau,[(51,CO),(52,lX),(53,I9),(35,alr),(34,AX),(25,jf),(56,CJ),(55,ah1),(54,aeY)],[(1000002,[((17,0),[],false)])]⟩
def iJ:Code:=(Try.f28.body).getD .skip
def vM (Xx:Bool) (aoZ:Bool) (ao0:Bool) (qW:List Int) (wI:Int) (wJ:Int) (su:Int) (V4:List Int) (V5:Int) (wK:Int) (QN:Int) (V6:aS) (BM:(Int×(Int×Unit))) (Nh:(List (List Int))):(Int×(List Int))→St:=fun x=>bX [(1,(.imm Xx .il qW)),(2,(.ptr (4,0) [])),(6,(.ptr (8,0) [])),(7,(.i wI)),(8,(.ref (10,0) [])),(9,(.i wJ)),(10,(.i su)),(11,(.ref (13,0) [])),(24,(.imm aoZ .il V4)),(25,(.i V5)),(26,(.i wK)),(33,(.i QN)),(34,(.i x.1))] [((4,0),some ⟨true,bJ,(.imm ao0),V6⟩),((8,0),some ⟨true,aL,.own,BM⟩),((10,0),some ⟨false,(.sl .il),.own,Nh⟩),((13,0),some ⟨false,.il,.own,x.2⟩)]
def uQ (Xx:Bool) (aoZ:Bool) (ao0:Bool) (qW:List Int) (wI:Int) (wJ:Int) (_:Int) (V4:List Int) (V5:Int) (wK:Int) (_:Int) (V6:aS) (BM:(Int×(Int×Unit))) (Nh:(List (List Int))):(List Int)→Ex×St:=fun x=>(.exit 2,bX [(1,(.imm Xx .il qW)),(2,(.ptr (4,0) [])),(6,(.ptr (8,0) [])),(7,(.i wI)),(8,(.ref (10,0) [])),(9,(.i wJ)),(11,(.ref (13,0) [])),(24,(.imm aoZ .il V4)),(25,(.i V5)),(26,(.i wK))] [((4,0),some ⟨true,bJ,(.imm ao0),V6⟩),((8,0),some ⟨true,aL,.own,BM⟩),((10,0),some ⟨false,(.sl .il),.own,Nh⟩),((13,0),some ⟨false,.il,.own,x⟩)])
def K9 (s:St):Tre (Ex×St):=
 bG .il (s.tmps 1) fun z3 d2=>
 dH (4,0) [] (s.tmps 2)<|
 dH (8,0) [] (s.tmps 6)<|
 aA true .n (s.tmps 7) fun d7=>
 dW (10,0) [] (s.tmps 8)<|
 aA true .n (s.tmps 9) fun d10=>
 aA true .n (s.tmps 10) fun d12=>
 dW (13,0) [] (s.tmps 11)<|
 bG .il (s.tmps 24) fun z16 d15=>
 aA true .n (s.tmps 25) fun d18=>
 aA true .n (s.tmps 26) fun d20=>
 aA true .n (s.tmps 33) fun d22=>
 aA true .n (s.tmps 34) fun d24=>
 aX true bJ (s.roots (4,0)) fun m26 d27=>
 fB m26 fun z28=>
 aX true aL (s.roots (8,0)) fun m30 d31=>
 asM .own m30<|
 aX false (.sl .il) (s.roots (10,0)) fun m33 d34=>
 asM .own m33<|
 aX false .il (s.roots (13,0)) fun m36 d37=>
 asM .own m36<|
 .mat (aO (gW d12 d22 d31) (d24,d37)) fun x=>.ret (uQ z3 z16 z28 d2 d7 d10 d12 d15 d18 d20 d22 d27 d31 d34 x)
def kQ:bD:=⟨([1,2,6,7,8,9,10,11,24,25,26,33,34],[(4,0),(8,0),(10,0),(13,0)]),([1,2,6,7,8,9,11,24,25,26],[(4,0),(8,0),(10,0),(13,0)]),K9⟩
def uO (agu:Bool) (agv:Bool) (agw:Bool) (MI:List Int) (MJ:Int) (Bz:Int) (MK:List Int) (ML:Int) (MN:Int) (IL:Int) (yE:aS) (BA:(Int×(Int×Unit))) (Fz:(List (List Int))):(Int×(List Int))→St:=fun x=>bX [(1,(.imm agu .il MI)),(2,(.ptr (4,0) [])),(6,(.ptr (8,0) [])),(7,(.i MJ)),(8,(.ref (10,0) [])),(9,(.i Bz)),(11,(.ref (13,0) [])),(24,(.imm agv .il MK)),(25,(.i ML)),(26,(.i MN)),(48,(.i IL)),(49,(.i x.1))] [((4,0),some ⟨true,bJ,(.imm agw),yE⟩),((8,0),some ⟨true,aL,.own,BA⟩),((10,0),some ⟨false,(.sl .il),.own,Fz⟩),((13,0),some ⟨false,.il,.own,x.2⟩)]
def sG (agu:Bool) (agv:Bool) (agw:Bool) (MI:List Int) (MJ:Int) (_:Int) (MK:List Int) (ML:Int) (MN:Int) (_:Int) (yE:aS) (BA:(Int×(Int×Unit))) (Fz:(List (List Int))):(List Int)→Ex×St:=fun x=>(.exit 4,bX [(1,(.imm agu .il MI)),(2,(.ptr (4,0) [])),(6,(.ptr (8,0) [])),(7,(.i MJ)),(8,(.ref (10,0) [])),(11,(.ref (13,0) [])),(24,(.imm agv .il MK)),(25,(.i ML)),(26,(.i MN))] [((4,0),some ⟨true,bJ,(.imm agw),yE⟩),((8,0),some ⟨true,aL,.own,BA⟩),((10,0),some ⟨false,(.sl .il),.own,Fz⟩),((13,0),some ⟨false,.il,.own,x⟩)])
def J5 (s:St):Tre (Ex×St):=
 bG .il (s.tmps 1) fun z3 d2=>
 dH (4,0) [] (s.tmps 2)<|
 dH (8,0) [] (s.tmps 6)<|
 aA true .n (s.tmps 7) fun d7=>
 dW (10,0) [] (s.tmps 8)<|
 aA true .n (s.tmps 9) fun d10=>
 dW (13,0) [] (s.tmps 11)<|
 bG .il (s.tmps 24) fun z14 d13=>
 aA true .n (s.tmps 25) fun d16=>
 aA true .n (s.tmps 26) fun d18=>
 aA true .n (s.tmps 48) fun d20=>
 aA true .n (s.tmps 49) fun d22=>
 aX true bJ (s.roots (4,0)) fun m24 d25=>
 fB m24 fun z26=>
 aX true aL (s.roots (8,0)) fun m28 d29=>
 asM .own m28<|
 aX false (.sl .il) (s.roots (10,0)) fun m31 d32=>
 asM .own m31<|
 aX false .il (s.roots (13,0)) fun m34 d35=>
 asM .own m34<|
 .mat (aO (gH d10 d20 d25 d29) (d22,d35)) fun x=>.ret (sG z3 z14 z26 d2 d7 d10 d13 d16 d18 d20 d25 d29 d32 x)
def jS:bD:=⟨([1,2,6,7,8,9,11,24,25,26,48,49],[(4,0),(8,0),(10,0),(13,0)]),([1,2,6,7,8,11,24,25,26],[(4,0),(8,0),(10,0),(13,0)]),J5⟩
def vL (dQ:Bool) (HY:Bool) (aoX:Bool) (aQ:List Int) (bq:Int) (dx:List Int) (cZ:Int) (eZ:aS) (FD:(Int×(Int×Unit))):(Int×(List (List Int)))→St:=fun x=>bX [(1,(.imm dQ .il aQ)),(2,(.ptr (4,0) [])),(6,(.ptr (8,0) [])),(7,(.i bq)),(8,(.ref (10,0) [])),(24,(.imm HY .il dx)),(25,(.i cZ)),(26,(.i x.1))] [((4,0),some ⟨true,bJ,(.imm aoX),eZ⟩),((8,0),some ⟨true,aL,.own,FD⟩),((10,0),some ⟨false,(.sl .il),.own,x.2⟩)]
def uP (dQ:Bool) (_:Bool) (aoX:Bool) (aQ:List Int) (bq:Int) (_:List Int) (_:Int) (eZ:aS) (FD:(Int×(Int×Unit))):(List (List Int))→Ex×St:=fun x=>(.exit 0,bX [(1,(.imm dQ .il aQ)),(2,(.ptr (4,0) [])),(6,(.ptr (8,0) [])),(7,(.i bq)),(8,(.ref (10,0) []))] [((4,0),some ⟨true,bJ,(.imm aoX),eZ⟩),((8,0),some ⟨true,aL,.own,FD⟩),((10,0),some ⟨false,(.sl .il),.own,x⟩)])
def K8 (s:St):Tre (Ex×St):=
 bG .il (s.tmps 1) fun z3 d2=>
 dH (4,0) [] (s.tmps 2)<|
 dH (8,0) [] (s.tmps 6)<|
 aA true .n (s.tmps 7) fun d7=>
 dW (10,0) [] (s.tmps 8)<|
 bG .il (s.tmps 24) fun z11 d10=>
 aA true .n (s.tmps 25) fun d13=>
 aA true .n (s.tmps 26) fun d15=>
 aX true bJ (s.roots (4,0)) fun m17 d18=>
 fB m17 fun z19=>
 aX true aL (s.roots (8,0)) fun m21 d22=>
 asM .own m21<|
 aX false (.sl .il) (s.roots (10,0)) fun m24 d25=>
 asM .own m24<|
 .mat (aO (gV d7 d10 d13 d18 d22) (d15,d25)) fun x=>.ret (uP z3 z11 z19 d2 d7 d10 d13 d18 d22 x)
def kP:bD:=⟨([1,2,6,7,8,24,25,26],[(4,0),(8,0),(10,0)]),([1,2,6,7,8],[(4,0),(8,0),(10,0)]),K8⟩
def gq:List (Nat×bD):=[(7,kQ),(12,jS),(3,kP)]
theorem Gf:∀(Xx aoZ ao0:Bool)(qW:List Int)(wI wJ su:Int)(V4:List Int)(V5 wK QN:Int)(V6:aS)(BM:(Int×(Int×Unit)))(Nh:(List (List Int)))(x:(Int×(List Int)))(c:St→Option (Ex×St)),den fE gq (aV iJ 1) (vM Xx aoZ ao0 qW wI wJ su V4 V5 wK QN V6 BM Nh x) (cu kQ.kp kQ.kx c)=(gW su QN BM x).run (cB (vM Xx aoZ ao0 qW wI wJ su V4 V5 wK QN V6 BM Nh) (uQ Xx aoZ ao0 qW wI wJ su V4 V5 wK QN V6 BM Nh) c):=fun _ _ _ _ _ _ _ _ _ _ _ _ _ _ _ _=>by
 kernel_rfl
theorem J7:bU fE gq (aV iJ 1) kQ:=dh fun _ _ _=>dM fun _ _=>fJ<|fJ<|aH fun _=>jk<|aH fun _=>aH fun _=>jk<|dM fun _ _=>aH fun _=>aH fun _=>aH fun _=>aH fun _=>bN fun _ _=>ku fun _=>bN fun _ _=>tM<|bN fun _ _=>tM<|bN fun _ _=>tM<|fun h _ e35 _ e32 _ e29 _ e25 e23 e21 e19 e17 e14 e13 e11 e9 e8 e6 e5 e4 e1=>bS (Gf _ _ _ _ _ _ _ _ _ _ _ _ _ _) h (by subst_vars;exact aP rfl rfl ⟨e1,e4,e5,e6,e8,e9,e11,e13,e14,e17,e19,e21,e23,trivial⟩ ⟨e25,e29,e32,e35,trivial⟩)
theorem EJ:∀(agu agv agw:Bool)(MI:List Int)(MJ Bz:Int)(MK:List Int)(ML MN IL:Int)(yE:aS)(BA:(Int×(Int×Unit)))(Fz:(List (List Int)))(x:(Int×(List Int)))(c:St→Option (Ex×St)),den fE gq (aV iJ 2) (uO agu agv agw MI MJ Bz MK ML MN IL yE BA Fz x) (cu jS.kp jS.kx c)=(gH Bz IL yE BA x).run (cB (uO agu agv agw MI MJ Bz MK ML MN IL yE BA Fz) (sG agu agv agw MI MJ Bz MK ML MN IL yE BA Fz) c):=fun _ _ _ _ _ _ _ _ _ _ _ _ _ _ _=>by
 kernel_rfl
theorem Ih:bU fE gq (aV iJ 2) jS:=dh fun _ _ _=>dM fun _ _=>fJ<|fJ<|aH fun _=>jk<|aH fun _=>jk<|dM fun _ _=>aH fun _=>aH fun _=>aH fun _=>aH fun _=>bN fun _ _=>ku fun _=>bN fun _ _=>tM<|bN fun _ _=>tM<|bN fun _ _=>tM<|fun h _ e33 _ e30 _ e27 _ e23 e21 e19 e17 e15 e12 e11 e9 e8 e6 e5 e4 e1=>bS (EJ _ _ _ _ _ _ _ _ _ _ _ _ _) h (by subst_vars;exact aP rfl rfl ⟨e1,e4,e5,e6,e8,e9,e11,e12,e15,e17,e19,e21,trivial⟩ ⟨e23,e27,e30,e33,trivial⟩)
theorem Gd:∀(dQ HY aoX:Bool)(aQ:List Int)(bq:Int)(dx:List Int)(cZ:Int)(eZ:aS)(FD:(Int×(Int×Unit)))(x:(Int×(List (List Int))))(c:St→Option (Ex×St)),den fE gq (aV iJ 0) (vL dQ HY aoX aQ bq dx cZ eZ FD x) (cu kP.kp kP.kx c)=(gV bq dx cZ eZ FD x).run (cB (vL dQ HY aoX aQ bq dx cZ eZ FD) (uP dQ HY aoX aQ bq dx cZ eZ FD) c):=fun _ _ _ _ _ _ _ _ _ _ _=>by
 kernel_rfl
theorem J6:bU fE gq (aV iJ 0) kP:=dh fun _ _ _=>dM fun _ _=>fJ<|fJ<|aH fun _=>jk<|dM fun _ _=>aH fun _=>aH fun _=>bN fun _ _=>ku fun _=>bN fun _ _=>tM<|bN fun _ _=>tM<|fun h _ e23 _ e20 _ e16 e14 e12 e9 e8 e6 e5 e4 e1=>bS (Gd _ _ _ _ _ _ _ _ _) h (by subst_vars;exact aP rfl rfl ⟨e1,e4,e5,e6,e8,e9,e12,e14,trivial⟩ ⟨e16,e20,e23,trivial⟩)
def Rj:FnI:=fnI Try.f28 gq
def yS (_:Bool) (_:Bool) (_:aS) (_:List Int):(Bool×(List Int))→ay:=fun r=>⟨(.tcons (.ref (1,0) []) (.tcons (.imm true .bool r.1) .tnil)),[],[⟨false,.il,.own,r.2⟩]⟩
theorem PO:∀(zp0 zp1:Bool)(p0:aS)(p1:List Int),bR fE Rj ⟨[(.imm zp0 bJ p0),(.imm zp1 .il p1)],[]⟩=(wM p0 p1).run fun r=>some (yS zp0 zp1 p0 p1 r):=fun _ _ _ _=>by kernel_rfl
def Ri (av:List AV) (rs:List Root):Tre ay:=
 aD av fun a0_ av0=>
 aD av0 fun a1_ av1=>
 aM av1<|
 aM rs<|
 bG bJ a0_ fun z2 d1=>
 bG .il a1_ fun z4 d3=>
 .mat (iI d1 d3) fun r=>.ret (yS z2 z4 d1 d3 r)
def sF:Ctr:=dO [] Ri
theorem Ag:Contract Try.prog .none 28 sF:=aC (V:=fE) aW (ak PW ayu (ak nE ak1 (ak Wj ayv (ak aqY apb (ak I6 awj (ak jw abN (ak PU ayy (ak anX ayx (ak aln ayw aJ))))))))) Try.func28 (bL (n:=3) fun k hk=>by
 match k,hk with
 |0,_=>exact bO (id:=3) J6
 |1,_=>exact bO (id:=7) J7
 |2,_=>exact bO (id:=12) Ih) fun _ _ _=>aK fun _ _=>aK fun _ _=>bA<|bA<|dM fun _ _=>dM fun _ _=>fun h=>by intros;subst_vars;exact bB (PO _ _ _ _) h
-- more
def kI (u6:List Int) (QM:Int) (qV:aS) (Ng:List Int):(Int×(List Int)×(List Int))→Tre ((Int×(List Int)×(List Int)) ⊕ ((List Int)×(List Int))):=fun s6=>
 .cond (decide (s6.1<QM))
  (.ite (0≤s6.1∧s6.1<(Ng.length:Int))<|
  .mat (Ng[s6.1.toNat]?) fun x3=>
  .mat (arY qV.2.1 x3) fun r4=>
  .ite ((s6.2.1.length+1)*8≤bE∧1≤8)<|
  .mat (arY u6 x3) fun r5=>
  .ite ((s6.2.2.length+1)*8≤bE∧1≤8)<|
  .ret (.inl (aF .i64 (s6.1+1),s6.2.1++([r4]),s6.2.2++([r5]))))
  (.ret (.inr (s6.2.1,s6.2.2)))
def yH (p0:aS) (p1:List Int) (p2:aZ):Tre (Int×(List Int)):=
 .mat (iK p0 p1 p2 (p0.2.1.length:Int)) fun r1=>
 .cond (!decide (r1=0))
  (.ret (r1,[]))
  (.mat (rH p2) fun r2=>
  .mat (aO (kI p1 (r2.2.length:Int) p0 r2.2) (0,[],[])) fun l6=>
  .mat (iI (p0.1,(l6.1,p0.2.2)) l6.2) fun r7=>
  .cond (!r7.1)
   (.ret (6,[]))
   (.ret (0,r7.2)))
def gD (p0:aS) (p1:List Int) (p2:aZ):Option (Int×(List Int)):=(yH p0 p1 p2).run some
-- more
theorem axK{F:FO}{P:List Nat}(hP:inL F P)(d:Nat):∀(l:List Nat)(i:Nat),(∀x∈l,x∈P)→fH d i l<F.q:=by
 intro l
 induction l with
 |nil=>intro i _;exact F.zlt
 |cons x l ih=>
  intro i hs
  unfold fH
  refine F.xlt _ _ ?_ (ih _ fun y hy=>hs y (.tail _ hy))
  cases d.testBit i
  ·exact F.zlt
  ·exact hP x (hs x (List.mem_cons_self ..))
theorem aud(d:Nat):∀(l:List Nat)(i:Nat),fH d i l=FO.lI ((List.range l.length).map fun j=>d.testBit (i+j)) l:=by
 intro l
 induction l with
 |nil=>intro i;rfl
 |cons x l ih=>
  intro i
  rw [List.length_cons,List.range_succ_eq_map,List.map_cons,List.map_map]
  unfold fH FO.lI
  rw [ih (i+1),Nat.add_zero]
  congr 2
  refine List.map_congr_left fun j _=>?_
  show d.testBit (i+1+j)=d.testBit (i+(j+1))
  congr 1
  omega
theorem aiB{P D:List Nat}(hP:FO.oK P)(hD:iG D D)(hb:∀d∈D,d<2 ^ P.length):FO.oK (D.map fun d=>fH d 0 P):=by
 intro bs hl h0
 rw [List.length_map] at hl
 rw [FO.agf (φ:=fun d=>fH d 0 P) (abA P 0) (fun a b=>amL a b P 0)] at h0
 have h1:FO.lI bs D=0:=by
  have hlt:FO.lI bs D<2 ^ P.length:=by
   have:∀(bs:List Bool)(D:List Nat),(∀d∈D,d<2 ^ P.length)→FO.lI bs D<2 ^ P.length:=by
    intro bs
    induction bs with
    |nil=>intro D _;exact Nat.two_pow_pos _
    |cons b bs ih=>
     intro D hb
     cases D with
     |nil=>exact Nat.two_pow_pos _
     |cons x D=>
      refine Nat.xor_lt_two_pow ?_ (ih D fun d hd=>hb d (.tail _ hd))
      cases b
      ·exact Nat.two_pow_pos _
      ·exact hb x (List.mem_cons_self ..)
   exact this bs D hb
  refine E8 hlt fun q hq=>?_
  rw [aud] at h0
  have:=hP _ (by simp) h0 ((FO.lI bs D).testBit (0+q)) (List.mem_map.2 ⟨q,List.mem_range.2 hq,rfl⟩)
  rwa [Nat.zero_add] at this
 exact alC hD rfl bs hl h1
theorem ap9{F:FO}{P:List Nat}(hF:F.q≤2 ^ 62)(hP:inL F P)(hl:P.length≤64){d:Nat}(hd:d<2 ^ 63):arY (aR P) (d:Int)=some ((fH d 0 P:Nat):Int):=by
 unfold arY
 rw [NP (by rw [aN];omega),adM,ar1 (b:=62) hd (by omega) hl fun n hn=>Nat.lt_of_lt_of_le (hP n hn) hF]
theorem ajp{f:TF3}(hf:aG f=true){P W D:List Nat}{k:Nat}(hP:inL (FOf f hf) P)(hW:inL (FOf f hf) W)(hl:P.length≤64)(hw:W.length≤64)(hd:∀d∈D,d<2 ^ 63)(hD:D.length≤1000) :
  aO (kI (aR W) ((up D).length:Int) (f,aR P,(k:Int),()) (up D)) (0,[],[])=some (aR (D.map fun d=>fH d 0 P),aR (D.map fun d=>fH d 0 W)):=by
 have hF:(FOf f hf).q≤2 ^ 62:=by rw [Iu];exact Nat.pow_le_pow_right (by decide) (by have:=(rA hf).2;omega)
 refine dZ (fun i=>((i:Int),aR ((D.take i).map fun d=>fH d 0 P),aR ((D.take i).map fun d=>fH d 0 W))) D.length _ (fun i hi=>?_) ?_
 ·have hg:D[i]?=some D[i]:=List.getElem?_eq_getElem hi
  have hdi:=hd _ (List.getElem_mem hi)
  unfold kI
  dsimp only
  rw [fU (VD hg),ah (ap9 hF hP hl hdi),Tre.run_ite,if_pos (by rw [aN,List.length_map,List.length_take];unfold bE;omega),ah (ap9 hF hW hw hdi),Tre.run_ite,if_pos (by rw [aN,List.length_map,List.length_take];unfold bE;omega),Tre.aI,aU (by omega),List.take_add_one,hg,Option.toList_some,List.map_append,List.map_append,nK,nK]
  rfl
 ·unfold kI
  dsimp only
  rw [fC,eY,Tre.aI,List.take_length]
theorem Dj{f:TF3}{hf:aG f=true}{P:List Nat}(hP:inL (FOf f hf) P)(D:List Nat):inL (FOf f hf) (D.map fun d=>fH d 0 P):=fun x hx=>by
 obtain ⟨d,_,rfl⟩:=List.mem_map.1 hx
 exact axK hP d P 0 fun _ h=>h
theorem an9{f:TF3}(hf:aG f=true){P W ns D:List Nat}{k:Nat}(h:abQ (f,aR P,(k:Int),()) (aR W) ((P.length:Int),up ns,()) (P.length:Int)=0)(hi:FO.oK P)(hP:inL (FOf f hf) P)(hW:inL (FOf f hf) W)(hl:W.length=P.length)(hp1:1≤P.length)(hn:P.length≤5)(hk1:1≤k)(hle:k+ns.length≤P.length)(hns:∀r∈ns,r<2 ^ P.length)(hE:iG ns ns)
  (hD1:iG (aa5 (oZ ns) ns P.length) D) (hD3:D.length+ns.length=P.length) (hD4:∀d∈D,d<2 ^ P.length) (hD5:iG D D) :
  (∃m,VT hf (D.map fun d=>fH d 0 P) (D.map fun d=>fH d 0 W) k (((D.map fun d=>fH d 0 P).length-k)/2)=some m∧gD (f,aR P,(k:Int),()) (aR W) ((P.length:Int),up ns,())=some (0,aR m)) ∨
  (VT hf (D.map fun d=>fH d 0 P) (D.map fun d=>fH d 0 W) k (((D.map fun d=>fH d 0 P).length-k)/2)=none∧gD (f,aR P,(k:Int),()) (aR W) ((P.length:Int),up ns,())=some (6,[])):=by
 have hd63:∀d∈D,d<2 ^ 63:=fun d hd=>Nat.lt_of_lt_of_le (hD4 d hd) (Nat.pow_le_pow_right (by decide) (by omega))
 have hpl:(D.map fun d=>fH d 0 P).length=D.length:=List.length_map ..
 have hwl:(D.map fun d=>fH d 0 W).length=(D.map fun d=>fH d 0 P).length:=by rw [List.length_map,List.length_map]
 have hin:=aiB hi hD5 hD4
 unfold gD yH
 dsimp only
 rw [aN,ah (TH _ _ _ _ (by rw [aN];omega) (by show (up ns).length≤1048576;rw [fC];omega)),Tre.aB,h,decide_eq_true rfl,Bool.not_true,cond_false,ah (ati hp1 hn hE hns (by omega) hD1)]
 dsimp only
 rw [ah (ajp hf (k:=k) hP hW (by omega) (by omega) hd63 (by omega))]
 rcases afb hf hin (Dj hP D) (Dj hW D) hwl (by omega) hk1 (by omega) with ⟨m,h1,h2⟩|⟨h1,M,h2⟩
 ·exact .inl ⟨m,h1,by rw [ah h2];rfl⟩
 ·exact .inr ⟨h1,by rw [ah h2];rfl⟩
def tO:Env:=⟨tau,[(25,jf),(24,oU),(26,Ji),(27,ah5),(28,sF)],[]⟩
def KM:Code:=(Try.f9.body).getD .skip
def Cq (abE:Bool) (aoY:Bool) (u6:List Int) (QM:Int) (qV:aS) (Ng:List Int):(Int×(List Int)×(List Int))→St:=fun x=>bX [(1,(.imm abE .il u6)),(3,(.ptr (5,0) [])),(9,(.ref (11,0) [])),(10,(.ref (12,0) [])),(29,(.ref (30,0) [])),(30,(.i QM)),(31,(.i x.1))] [((5,0),some ⟨true,bJ,(.imm aoY),qV⟩),((11,0),some ⟨false,.il,.own,x.2.1⟩),((12,0),some ⟨false,.il,.own,x.2.2⟩),((30,0),some ⟨false,.il,.own,Ng⟩)]
def zT (_:Bool) (aoY:Bool) (_:List Int) (_:Int) (qV:aS) (_:List Int):((List Int)×(List Int))→Ex×St:=fun x=>(.exit 0,bX [(3,(.ptr (5,0) [])),(9,(.ref (11,0) [])),(10,(.ref (12,0) []))] [((5,0),some ⟨true,bJ,(.imm aoY),qV⟩),((11,0),some ⟨false,.il,.own,x.1⟩),((12,0),some ⟨false,.il,.own,x.2⟩)])
def T9 (s:St):Tre (Ex×St):=
 bG .il (s.tmps 1) fun z3 d2=>
 dH (5,0) [] (s.tmps 3)<|
 dW (11,0) [] (s.tmps 9)<|
 dW (12,0) [] (s.tmps 10)<|
 dW (30,0) [] (s.tmps 29)<|
 aA true .n (s.tmps 30) fun d9=>
 aA true .n (s.tmps 31) fun d11=>
 aX true bJ (s.roots (5,0)) fun m13 d14=>
 fB m13 fun z15=>
 aX false .il (s.roots (11,0)) fun m17 d18=>
 asM .own m17<|
 aX false .il (s.roots (12,0)) fun m20 d21=>
 asM .own m20<|
 aX false .il (s.roots (30,0)) fun m23 d24=>
 asM .own m23<|
 .mat (aO (kI d2 d9 d14 d24) (d11,d18,d21)) fun x=>.ret (zT z3 z15 d2 d9 d14 d24 x)
def oh:bD:=⟨([1,3,9,10,29,30,31],[(5,0),(11,0),(12,0),(30,0)]),([3,9,10],[(5,0),(11,0),(12,0)]),T9⟩
def AQ:List (Nat×bD):=[(6,oh)]
theorem Nj:∀(abE aoY:Bool)(u6:List Int)(QM:Int)(qV:aS)(Ng:List Int)(x:(Int×(List Int)×(List Int)))(c:St→Option (Ex×St)),den tO AQ (aV KM 0) (Cq abE aoY u6 QM qV Ng x) (cu oh.kp oh.kx c)=(kI u6 QM qV Ng x).run (cB (Cq abE aoY u6 QM qV Ng) (zT abE aoY u6 QM qV Ng) c):=fun _ _ _ _ _ _ _ _=>by
 kernel_rfl
theorem QT:bU tO AQ (aV KM 0) oh:=dh fun _ _ _=>dM fun _ _=>fJ<|jk<|jk<|jk<|aH fun _=>aH fun _=>bN fun _ _=>ku fun _=>bN fun _ _=>tM<|bN fun _ _=>tM<|bN fun _ _=>tM<|fun h _ e22 _ e19 _ e16 _ e12 e10 e8 e7 e6 e5 e4 e1=>bS (Nj _ _ _ _ _ _) h (by subst_vars;exact aP rfl rfl ⟨e1,e4,e5,e6,e7,e8,e10,trivial⟩ ⟨e12,e16,e19,e22,trivial⟩)
def aad:FnI:=fnI Try.f9 AQ
def FN (_:Bool) (_:Bool) (_:Bool) (_:aS) (_:List Int) (_:aZ):(Int×(List Int))→ay:=fun r=>⟨(.tcons (.ref (1,0) []) (.tcons (.i r.1) .tnil)),[],[⟨false,.il,.own,r.2⟩]⟩
theorem XP:∀(zp0 zp1 zp2:Bool)(p0:aS)(p1:List Int)(p2:aZ),bR tO aad ⟨[(.imm zp0 bJ p0),(.imm zp1 .il p1),(.imm zp2 bQ p2)],[]⟩=(yH p0 p1 p2).run fun r=>some (FN zp0 zp1 zp2 p0 p1 p2 r):=fun _ _ _ _ _ _=>by kernel_rfl
def aac (av:List AV) (rs:List Root):Tre ay:=
 aD av fun a0_ av0=>
 aD av0 fun a1_ av1=>
 aD av1 fun a2_ av2=>
 aM av2<|
 aM rs<|
 bG bJ a0_ fun z2 d1=>
 bG .il a1_ fun z4 d3=>
 bG bQ a2_ fun z6 d5=>
 .mat (gD d1 d3 d5) fun r=>.ret (FN z2 z4 z6 d1 d3 d5 r)
def KN:Ctr:=dO [] aac
theorem XQ:Contract Try.prog .none 9 KN:=aC (V:=tO) aW (ak jw abN (ak vN awf (ak Wu ayh (ak an4 ayi (ak Ag awg aJ))))) Try.func9 (bL (n:=1) fun k hk=>by
 match k,hk with
 |0,_=>exact bO (id:=6) QT) fun _ _ _=>aK fun _ _=>aK fun _ _=>aK fun _ _=>bA<|bA<|dM fun _ _=>dM fun _ _=>dM fun _ _=>fun h=>by intros;subst_vars;exact bB (XP _ _ _ _ _ _) h
def gF (aQ:List Int) (bq:Int) (cZ:(Int×(Int×Unit))):(Int×(List Int))→Tre ((Int×(List Int)) ⊕ (List Int)):=fun s3=>
 .cond (decide (s3.1<bq))
  (.ite (0≤s3.1∧s3.1<(aQ.length:Int))<|
  .mat (aQ[s3.1.toNat]?) fun x1=>
  .mat (qz cZ s3.2 x1) fun r2=>
  .cond (!decide (r2=0))
   (.mat (iY cZ ([r2,1]) s3.2) fun r3=>
   .ret (.inl (aF .i64 (s3.1+1),r3)))
   (.ret (.inl (aF .i64 (s3.1+1),s3.2))))
  (.ret (.inr s3.2))
def vo (p0:(Int×(Int×Unit))) (p1:List Int):Tre (List Int):=
 .mat (aO (gF p1 (p1.length:Int) p0) (0,[1])) fun l4=>
 .ret l4
def mJ (p0:(Int×(Int×Unit))) (p1:List Int):Option (List Int):=(vo p0 p1).run some
-- more
def kE(F:FO)(out:List Nat)(x:Nat):List Nat:=if F.lp out x=0 then out else dF (F.jZ [F.lp out x,1] out)
def jF(F:FO)(xs:List Nat):List Nat:=xs.foldl (kE F) [1]
theorem ana{F:FO}{out:List Nat}{n x:Nat}(h:inL F out∧out.length≤n+1∧out≠[]):inL F (kE F out x)∧(kE F out x).length≤n+2:=by
 unfold kE
 split
 ·exact ⟨h.1,by omega⟩
 ·have h1:=F.AJ [F.lp out x,1] out (by simp) h.2.2
  have h2:=mo (F.jZ [F.lp out x,1] out)
  simp only [List.length_cons,List.length_nil] at h1
  exact ⟨sJ (RP _ _),by omega⟩
theorem am9{F:FO}{out:List Nat}{x:Nat}(hi:inL F out)(h:Fu out)(hn:out≠[]):Fu (kE F out x)∧kE F out x≠[]:=by
 unfold kE
 split
 ·exact ⟨h,hn⟩
 ·refine ⟨qx _,fun h0=>?_⟩
  have:=F.agF (V:=[F.lp out x,1]) (fun y hy=>by
   rcases List.mem_cons.1 hy with rfl|hy
   ·exact F.YI _ _
   ·rw [List.mem_singleton.1 hy];exact F.hq) hi (by simp) hn (by simp [cf]) (h hn)
  rw [h0] at this
  simp only [List.length_nil,List.length_cons] at this
  have:=List.length_pos_iff.2 hn
  omega
theorem adD(F:FO):∀(xs:List Nat),inL F (jF F xs)∧(jF F xs).length≤xs.length+1∧Fu (jF F xs)∧jF F xs≠[]:=by
 have key:∀(xs out:List Nat)(n:Nat),inL F out→out.length≤n+1→Fu out→out≠[]→inL F (xs.foldl (kE F) out)∧(xs.foldl (kE F) out).length≤n+xs.length+1∧Fu (xs.foldl (kE F) out)∧xs.foldl (kE F) out≠[]:=by
  intro xs
  induction xs with
  |nil=>intro out n h1 h2 h3 h4;exact ⟨h1,by simpa using h2,h3,h4⟩
  |cons x xs ih=>
   intro out n h1 h2 h3 h4
   obtain ⟨a,b⟩:=ana (x:=x) ⟨h1,h2,h4⟩
   obtain ⟨c,d⟩:=am9 (x:=x) h1 h3 h4
   obtain ⟨e1,e2,e3,e4⟩:=ih (kE F out x) (n+1) a (by omega) c d
   exact ⟨e1,by simp only [List.foldl_cons,List.length_cons];omega,e3,e4⟩
 intro xs
 have:=key xs [1] 0 (fun y hy=>by rw [List.mem_singleton.1 hy];exact F.hq) (by simp) (fun _=>by simp [cf]) (by simp)
 refine ⟨this.1,?_,this.2.2⟩
 have h2:=this.2.1
 unfold jF
 omega
theorem aqe{F:FO}{xs:List Nat}{i:Nat}(hi:i<xs.length):jF F (xs.take (i+1))=kE F (jF F (xs.take i)) (cf xs i):=by
 unfold jF
 rw [List.take_add_one,jH hi,Option.toList_some,List.foldl_append]
 rfl
theorem auW{f:TF3}(hf:aG f=true){xs:List Nat}(hx:inL (FOf f hf) xs)(hl:xs.length≤100):mJ f (aR xs)=some (aR (jF (FOf f hf) xs)):=by
 unfold mJ vo
 rw [ah (show aO (gF (aR xs) ((aR xs).length:Int) f) (0,[1])=some (aR (jF (FOf f hf) xs)) from ?_),Tre.aI]
 refine dZ (fun i=>((i:Int),aR (jF (FOf f hf) (xs.take i)))) xs.length _ (fun i hi=>?_) ?_
 ·obtain ⟨a1,a2,_,_⟩:=adD (FOf f hf) (xs.take i)
  rw [List.length_take] at a2
  have hv:=(FOf f hf).YI (jF (FOf f hf) (xs.take i)) (cf xs i)
  unfold gF
  dsimp only
  rw [fU (fT (jH hi)),ah (aib hf a1 (by omega) (vH hx i)),Tre.aB,aqe hi]
  unfold kE
  by_cases h0:(FOf f hf).lp (jF (FOf f hf) (xs.take i)) (cf xs i)=0
  ·rw [decide_eq_true (by omega),Bool.not_true,cond_false,Tre.aI,aU (by omega),if_pos h0]
  ·rw [decide_eq_false (by omega),Bool.not_false,cond_true,if_neg h0]
   have hc:=ab1 hf (P:=[(FOf f hf).lp (jF (FOf f hf) (xs.take i)) (cf xs i),1]) (Q:=jF (FOf f hf) (xs.take i)) (fun y hy=>by
    rcases List.mem_cons.1 hy with rfl|hy
    ·exact hv
    ·rw [List.mem_singleton.1 hy];exact (FOf f hf).hq) a1 (by simp) (by omega)
   rw [ah (show iY f [(((FOf f hf).lp (jF (FOf f hf) (xs.take i)) (cf xs i):Nat):Int),1] (aR (jF (FOf f hf) (xs.take i)))=_ from hc),Tre.aI,aU (by omega)]
 ·unfold gF
  dsimp only
  rw [aN,eY,Tre.aI,List.take_length]
def mK:Env:=⟨tau,[(57,DU),(58,yJ)],[]⟩
def zU:Code:=(Try.f32.body).getD .skip
def uK (dQ:Bool) (aQ:List Int) (bq:Int) (cZ:(Int×(Int×Unit))):(Int×(List Int))→St:=fun x=>bX [(2,(.ptr (4,0) [])),(5,(.ref (7,0) [])),(10,(.imm dQ .il aQ)),(11,(.i bq)),(12,(.i x.1))] [((4,0),some ⟨true,aL,.own,cZ⟩),((7,0),some ⟨false,.il,.own,x.2⟩)]
def sD (_:Bool) (_:List Int) (_:Int) (_:(Int×(Int×Unit))):(List Int)→Ex×St:=fun x=>(.exit 0,bX [(5,(.ref (7,0) []))] [((7,0),some ⟨false,.il,.own,x⟩)])
def JX (s:St):Tre (Ex×St):=
 dH (4,0) [] (s.tmps 2)<|
 dW (7,0) [] (s.tmps 5)<|
 bG .il (s.tmps 10) fun z5 d4=>
 aA true .n (s.tmps 11) fun d7=>
 aA true .n (s.tmps 12) fun d9=>
 aX true aL (s.roots (4,0)) fun m11 d12=>
 asM .own m11<|
 aX false .il (s.roots (7,0)) fun m14 d15=>
 asM .own m14<|
 .mat (aO (gF d4 d7 d12) (d9,d15)) fun x=>.ret (sD z5 d4 d7 d12 x)
def jR:bD:=⟨([2,5,10,11,12],[(4,0),(7,0)]),([5],[(7,0)]),JX⟩
def qX:List (Nat×bD):=[(3,jR)]
theorem EI:∀(dQ:Bool)(aQ:List Int)(bq:Int)(cZ:(Int×(Int×Unit)))(x:(Int×(List Int)))(c:St→Option (Ex×St)),den mK qX (aV zU 0) (uK dQ aQ bq cZ x) (cu jR.kp jR.kx c)=(gF aQ bq cZ x).run (cB (uK dQ aQ bq cZ) (sD dQ aQ bq cZ) c):=fun _ _ _ _ _ _=>by
 kernel_rfl
theorem Ic:bU mK qX (aV zU 0) jR:=dh fun _ _ _=>fJ<|jk<|dM fun _ _=>aH fun _=>aH fun _=>bN fun _ _=>tM<|bN fun _ _=>tM<|fun h _ e13 _ e10 e8 e6 e3 e2 e1=>bS (EI _ _ _ _) h (by subst_vars;exact aP rfl rfl ⟨e1,e2,e3,e6,e8,trivial⟩ ⟨e10,e13,trivial⟩)
def Px:FnI:=fnI Try.f32 qX
def xH (_:Bool) (_:(Int×(Int×Unit))) (_:List Int):(List Int)→ay:=fun r=>⟨(.ref (1,0) []),[],[⟨false,.il,.own,r⟩]⟩
theorem Nk:∀(zp0:Bool)(p0:(Int×(Int×Unit)))(p1:List Int),bR mK Px ⟨[(.imm true aL p0),(.imm zp0 .il p1)],[]⟩=(vo p0 p1).run fun r=>some (xH zp0 p0 p1 r):=fun _ _ _=>by kernel_rfl
def Pw (av:List AV) (rs:List Root):Tre ay:=
 aD av fun a0_ av0=>
 aD av0 fun a1_ av1=>
 aM av1<|
 aM rs<|
 aA true aL a0_ fun d1=>
 bG .il a1_ fun z3 d2=>
 .mat (mJ d1 d2) fun r=>.ret (xH z3 d1 d2 r)
def zV:Ctr:=dO [] Pw
theorem Nl:Contract Try.prog .none 32 zV:=aC (V:=mK) aW (ak K6 awn (ak FQ awo aJ)) Try.func32 (bL (n:=1) fun k hk=>by
 match k,hk with
 |0,_=>exact bO (id:=3) Ic) fun _ _ _=>aK fun _ _=>aK fun _ _=>bA<|bA<|aH fun _=>dM fun _ _=>fun h=>by intros;subst_vars;exact bB (Nk _ _ _) h
def yI (p0:aS) (p1:List Int) (p2:aZ):Tre (Int×(List Int)):=
 .mat (iK p0 p1 p2 p0.1.1) fun r1=>
 .cond (!decide (r1=0))
  (.ret (r1,[]))
  (.mat (mJ p0.1 p2.2.1) fun r2=>
  let v3:=aF .i64 (p0.2.2.1+(p2.2.1.length:Int))
  .mat (oP p0.1 r2 p1) fun r4=>
  .mat (iI (p0.1,(p0.2.1,(v3,()))) r4) fun r5=>
  .cond (!r5.1)
   (.ret (6,[]))
   (.mat (qI r5.2) fun r6=>
   .alt r6
    (fun a7=>
     .mat (jK p0.1 a7 r2 false) fun r9=>
     .cond (decide ((r9.2.length:Int)>0))
      (.ret (6,[]))
      (.cond (decide ((r9.1.length:Int)>p0.2.2.1))
       (.ret (6,[]))
       (let v10:=aF .i64 (p0.2.2.1-(r9.1.length:Int))
       .ite (0≤v10∧(r9.1.length+v10.toNat)*8≤bE∧1≤8)<|
       let v11:=r9.1++List.replicate v10.toNat 0
       .ret (0,v11))))
    (fun b8=>
     .mat (jK p0.1 ((b8.2.2.drop b8.1).take b8.2.1) r2 false) fun r12=>
     .cond (decide ((r12.2.length:Int)>0))
      (.ret (6,[]))
      (.cond (decide ((r12.1.length:Int)>p0.2.2.1))
       (.ret (6,[]))
       (let v13:=aF .i64 (p0.2.2.1-(r12.1.length:Int))
       .ite (0≤v13∧(r12.1.length+v13.toNat)*8≤bE∧1≤8)<|
       let v14:=r12.1++List.replicate v13.toNat 0
       .ret (0,v14))))))
def dV (p0:aS) (p1:List Int) (p2:aZ):Option (Int×(List Int)):=(yI p0 p1 p2).run some
-- more
theorem aqO{f:TF3}(hf:aG f=true){N V A R:List Nat}{k:Nat}(hk:k≤1000)(hN:inL (FOf f hf) N)(hV:inL (FOf f hf) V)(hn:V≠[])(htV:Fu V)(htN:Fu N)(hNl:N.length≤100)(hVl:V.length≤100)(hd:Ms (FOf f hf) N V A R)(hR:R.length<V.length) :
  (Tre.mat (jK f (aR N) (aR V) false) fun r9=>Tre.cond (decide ((r9.2.length:Int)>0)) (Tre.ret ((6:Int),([]:List Int))) (Tre.cond (decide ((r9.1.length:Int)>(k:Int))) (Tre.ret (6,[])) (Tre.ite (0≤aF .i64 ((k:Int)-(r9.1.length:Int))∧(r9.1.length+(aF .i64 ((k:Int)-(r9.1.length:Int))).toNat)*8≤bE∧1≤8) (Tre.ret (0,r9.1++List.replicate (aF .i64 ((k:Int)-(r9.1.length:Int))).toNat 0))))).run some=some (if R=[]∧A.length≤k then (0,aR (rU k A)) else (6,[])):=by
 obtain ⟨A',R',h1,h2,h3,h4⟩:=WO hf hN hV hn htV htN hNl hVl
 obtain ⟨rfl,rfl⟩:=Ms.azm hd h2 hV hn htV hR h3
 rw [ah h1,Tre.aB]
 by_cases hR0:R=[]
 case neg=>
  have:=List.length_pos_iff.2 hR0
  rw [decide_eq_true (by rw [aN];omega),cond_true,Tre.aI,if_neg fun h=>hR0 h.1]
 rw [decide_eq_false (by rw [hR0];show ¬((0:Nat):Int)>0;decide),cond_false,Tre.aB]
 by_cases hA:A.length≤k
 case neg=>rw [decide_eq_true (by rw [aN];omega),cond_true,Tre.aI,if_neg fun h=>hA h.2]
 have hw:aF .i64 ((k:Int)-((aR A).length:Int))=((k-A.length:Nat):Int):=by rw [aN,dG (by omega) (by omega)];omega
 have hpad:aR A++List.replicate (k-A.length) (0:Int)=aR (rU k A):=by unfold rU;rw [nK,wS]
 rw [decide_eq_false (by rw [aN];omega),cond_false]
 dsimp only
 rw [hw,Int.toNat_natCast,Tre.run_ite,if_pos ⟨by omega,by rw [aN];unfold bE;omega,by omega⟩,Tre.aI,hpad,if_pos ⟨hR0,hA⟩]
theorem ath{f:TF3}(hf:aG f=true){P W ns:List Nat}{k:Nat}(h:abQ (f,aR P,(k:Int),()) (aR W) (f.1,aR ns,()) f.1=0)(hi:FO.oK P)(hP:inL (FOf f hf) P)(hW:inL (FOf f hf) W)(hl:W.length=P.length)(hn:P.length≤5)(hk1:1≤k)(hle:k+ns.length≤P.length)(hX:inL (FOf f hf) ns) :
  (∃M A R,VT hf P (W.map ((FOf f hf).lp (jF (FOf f hf) ns))) (k+ns.length) ((P.length-(k+ns.length))/2)=some M∧Ms (FOf f hf) (dF M) (jF (FOf f hf) ns) A R∧R.length<(jF (FOf f hf) ns).length∧dV (f,aR P,(k:Int),()) (aR W) (f.1,aR ns,())=some (if R=[]∧A.length≤k then (0,aR (rU k A)) else (6,[]))) ∨
  (VT hf P (W.map ((FOf f hf).lp (jF (FOf f hf) ns))) (k+ns.length) ((P.length-(k+ns.length))/2)=none∧dV (f,aR P,(k:Int),()) (aR W) (f.1,aR ns,())=some (6,[])):=by
 obtain ⟨ha1,ha2,ha3,ha4⟩:=adD (FOf f hf) ns
 have hwr:aF .i64 ((k:Int)+((aR ns).length:Int))=((k+ns.length:Nat):Int):=by rw [aN,dG (by omega) (by omega)];omega
 have hWm:inL (FOf f hf) (W.map ((FOf f hf).lp (jF (FOf f hf) ns))):=fun x hx=>by
  obtain ⟨y,_,rfl⟩:=List.mem_map.1 hx
  exact (FOf f hf).YI _ _
 have hWl:(W.map ((FOf f hf).lp (jF (FOf f hf) ns))).length=P.length:=by rw [List.length_map,hl]
 unfold dV yI
 rw [ah (TH _ _ _ _ (by rw [aN];omega) (by show (aR ns).length≤1048576;rw [aN];omega)),Tre.aB,h,decide_eq_true rfl,Bool.not_true,cond_false]
 dsimp only
 rw [ah (auW hf hX (by omega)),hwr,ah (aff hf ha1 (by omega) hW (by omega))]
 rcases afb hf hi hP hWm hWl (by omega) (show 1≤k+ns.length by omega) (by omega) with ⟨m,h1,h2⟩|⟨h1,M,h2⟩
 ·left
  have hnear:=aqn h1
  have hml:=hnear.1
  have hmt:=mo m
  obtain ⟨A,R,_,hd,hR,_⟩:=WO hf (sJ hnear.2.1) ha1 ha4 ha3 (qx m) (by omega) (by omega)
  obtain ⟨r,hr1,hr2⟩:=aaK (l:=m) (by omega)
  have htl:=aqO hf (k:=k) (by omega) (sJ hnear.2.1) ha1 ha4 ha3 (qx m) (by omega) (by omega) hd hR
  refine ⟨m,A,R,h1,hd,hR,?_⟩
  rw [ah h2,Tre.aB,Bool.not_true,cond_false,ah hr1]
  cases r with
  |inl a=>rw [Tre.avA,show a=aR (dF m) from hr2];exact htl
  |inr b=>rw [Tre.ap2,show (b.2.2.drop b.1).take b.2.1=aR (dF m) from hr2];exact htl
 ·exact .inr ⟨h1,by rw [ah h2];rfl⟩
def KO:Env:=⟨tau,[(24,oU),(32,zV),(25,jf),(33,Ba),(28,sF),(35,BP),(34,AX)],[(1000002,[((13,0),[],false),((14,0),[],false)])]⟩
def aaf:FnI:=fnI Try.f14 []
def FP (_:Bool) (_:Bool) (_:Bool) (_:aS) (_:List Int) (_:aZ):(Int×(List Int))→ay:=fun r=>⟨(.tcons (.ref (1,0) []) (.tcons (.i r.1) .tnil)),[],[⟨false,.il,.own,r.2⟩]⟩
theorem XR:∀(zp0 zp1 zp2:Bool)(p0:aS)(p1:List Int)(p2:aZ),bR KO aaf ⟨[(.imm zp0 bJ p0),(.imm zp1 .il p1),(.imm zp2 bQ p2)],[]⟩=(yI p0 p1 p2).run fun r=>some (FP zp0 zp1 zp2 p0 p1 p2 r):=fun _ _ _ _ _ _=>by kernel_rfl
def aae (av:List AV) (rs:List Root):Tre ay:=
 aD av fun a0_ av0=>
 aD av0 fun a1_ av1=>
 aD av1 fun a2_ av2=>
 aM av2<|
 aM rs<|
 bG bJ a0_ fun z2 d1=>
 bG .il a1_ fun z4 d3=>
 bG bQ a2_ fun z6 d5=>
 .mat (dV d1 d3 d5) fun r=>.ret (FP z2 z4 z6 d1 d3 d5 r)
def KP:Ctr:=dO [] aae
theorem XT:Contract Try.prog .none 14 KP:=aC (V:=KO) aW (ak vN awf (ak Nl ayk (ak jw abN (ak Jd awi (ak Ag awg (ak Gv apb (ak I6 awj aJ))))))) Try.func14 bP fun _ _ _=>aK fun _ _=>aK fun _ _=>aK fun _ _=>bA<|bA<|dM fun _ _=>dM fun _ _=>dM fun _ _=>fun h=>by intros;subst_vars;exact bB (XR _ _ _ _ _ _) h
def jU (eB:aZ):(Int×Int×aY)→Tre ((Int×Int×aY) ⊕ (Int×aY)):=fun s8=>
 .cond (decide (s8.2.1<(eB.2.1.length:Int)))
  (.mat (jr 2 s8.2.2) fun r1=>
  .cond r1.1
   (.ite (0≤s8.2.1∧s8.2.1<(eB.2.1.length:Int))<|
   .mat (eB.2.1[s8.2.1.toNat]?) fun x2=>
   .ret (.inl (iF .i64 s8.1 x2,aF .i64 (s8.2.1+1),r1.2)))
   (.ret (.inl (s8.1,aF .i64 (s8.2.1+1),r1.2))))
  (.ret (.inr (s8.1,s8.2.2)))
def qN (bT:Int) (eP:aZ):(Int×aY×(List Int))→Tre ((Int×aY×(List Int)) ⊕ (List Int)):=fun s4=>
 .cond (decide (s4.1<bT))
  (.mat (aO (jU eP) (0,0,s4.2.1)) fun l3=>
  .ite ((s4.2.2.length+1)*8≤bE∧1≤8)<|
  .ret (.inl (aF .i64 (s4.1+1),l3.2,s4.2.2++([l3.1]))))
  (.ret (.inr s4.2.2))
def Xc (p0:List Int) (p1:Int) (p2:aZ):Tre (List Int):=
 .mat (aO (qN p1 p2) (0,(p0,(0,(0,()))),[])) fun l4=>
 .ret l4
def uq (p0:List Int) (p1:Int) (p2:aZ):Option (List Int):=(Xc p0 p1 p2).run some
-- more
theorem aoV{n b:Nat}(hb:b≤62){ns:List Nat}(hns:∀r∈ns,r<2 ^ b)(hl:ns.length≤1000):∀(m k:Nat){c:Nat}{s:Src}{v:Nat},k+m=ns.length→lg c s→c+2*m≤80000→Sp ns v →
  ∃r,aO (jU ((n:Int),up ns,())) ((v:Int),(k:Int),s)=some r∧(lg (c+2*m) r.2∧∃v':Nat,r.1=(v':Int)∧Sp ns v'):=by
 intro m
 induction m with
 |zero=>
  intro k c s v hm hs _ hv
  refine ⟨((v:Int),s),dY ?_,hs,v,rfl,hv⟩
  unfold jU
  dsimp only
  rw [Tre.aB,decide_eq_false (by rw [fC];omega),cond_false,Tre.aI]
 |succ m ih=>
  intro k c s v hm hs hc hv
  have hk:k<ns.length:=by omega
  have hg:ns[k]?=some ns[k]:=List.getElem?_eq_getElem hk
  obtain ⟨r,hr1,hr2⟩:=aow (n:=2) hs (by omega)
  have hp:2 ^ b≤2 ^ 62:=Nat.pow_le_pow_right (by decide) hb
  have hvl:=aug hns hv
  have hkl:=hns _ (List.getElem_mem hk)
  have hstep:∃v':Nat,(jU ((n:Int),up ns,()) ((v:Int),(k:Int),s)).run some=some (.inl ((v':Int),((k+1:Nat):Int),r.2))∧Sp ns v':=by
   cases hb:r.1
   ·refine ⟨v,?_,hv⟩
    unfold jU
    dsimp only
    rw [Tre.aB,decide_eq_true (by rw [fC];omega),cond_true,ah hr1,Tre.aB,hb,cond_false,Tre.aI,aU (by omega)]
   ·refine ⟨v^^^ns[k],?_,hv.xor (Sp.mem (List.getElem_mem hk))⟩
    unfold jU
    dsimp only
    rw [Tre.aB,decide_eq_true (by rw [fC];omega),cond_true,ah hr1,Tre.aB,hb,cond_true,jg (VD hg),Tre.aI,aU (by omega),lH (by omega) (by omega)]
  obtain ⟨v',h3,h4⟩:=hstep
  rw [gy h3]
  obtain ⟨q,hq1,hq2,hq3⟩:=ih (k+1) (by omega) hr2 (by omega) h4
  exact ⟨q,hq1,hq2.mono (by omega),hq3⟩
theorem amZ{M n b:Nat}(hM:M≤100)(hb:b≤62){ns:List Nat}(hns:∀r∈ns,r<2 ^ b)(hl:ns.length≤100):∀(m i:Nat){c:Nat}{s:Src}{L:List Nat},i+m=M→lg c s→c+200*m≤80000→L.length=i→(∀x∈L,Sp ns x) →
  ∃r,aO (qN (M:Int) ((n:Int),up ns,())) ((i:Int),s,up L)=some r∧∃L':List Nat,r=up L'∧L'.length=M∧∀x∈L',Sp ns x:=by
 intro m
 induction m with
 |zero=>
  intro i c s L hm _ _ hL hx
  refine ⟨up L,dY ?_,L,rfl,by omega,hx⟩
  unfold qN
  dsimp only
  rw [Tre.aB,decide_eq_false (by omega),cond_false,Tre.aI]
 |succ m ih=>
  intro i c s L hm hs hc hL hx
  obtain ⟨r,hr1,hr2,v,hv1,hv2⟩:=aoV (n:=n) hb hns (by omega) ns.length 0 (v:=0) (by omega) hs (by omega) .zero
  have hr1:aO (jU ((n:Int),up ns,())) (0,0,s)=some r:=hr1
  rw [gy (y:=(((i+1:Nat):Int),r.2,up (L++[v]))) (by
   unfold qN
   dsimp only
   rw [Tre.aB,decide_eq_true (by omega),cond_true,ah hr1,Tre.run_ite,if_pos (by rw [fC];unfold bE;omega),Tre.aI,aU (by omega),hv1,show up (L++[v])=up L++[(v:Int)] by simp [up]])]
  refine ih (i+1) (by omega) (hr2.mono (show c+2*ns.length≤c+200 by omega)) (by omega) (by simp [hL]) fun x hx'=>?_
  rcases List.mem_append.1 hx' with hx'|hx'
  ·exact hx x hx'
  ·rw [List.mem_singleton.1 hx'];exact hv2
theorem ame{code:List Int}(hl:code.length≤5000)(hc:∀x∈code,0≤x∧x≤255){M n b:Nat}(hM:M≤100)(hb:b≤62){ns:List Nat}(hns:∀r∈ns,r<2 ^ b)(hnl:ns.length≤100):∃r,uq code (M:Int) ((n:Int),up ns,())=some r∧∃L:List Nat,r=up L∧L.length=M∧∀x∈L,Sp ns x:=by
 have h0:lg 0 (code,0,0,()):=⟨hl,hc,Int.le_refl _,Int.le_refl _⟩
 unfold uq Xc
 exact eX.run (eX.mat (amZ hM hb hns hnl M 0 (L:=[]) (by omega) h0 (by omega) rfl fun x hx=>by cases hx) fun r hr=>.ret hr)
def uw:Env:=⟨tau,[(17,sU),(36,oF)],[]⟩
def EU:Code:=(Try.f15.body).getD .skip
def LV (H6:Bool) (H7:Bool) (fV:Int) (eu:Int) (eB:aZ) (sw:List Int):(Int×Int×aY)→St:=fun x=>bX [(1,(.i fV)),(5,(.ptr (7,0) [])),(7,(.ptr (15,0) [])),(8,(.ref (10,0) [])),(9,(.i eu)),(10,(.i x.1)),(11,(.i x.2.1))] [((7,0),some ⟨true,bQ,(.imm H6),eB⟩),((15,0),some ⟨true,dz,(.imm H7),x.2.2⟩),((10,0),some ⟨false,.il,.own,sw⟩)]
def JG (H6:Bool) (H7:Bool) (fV:Int) (eu:Int) (eB:aZ) (sw:List Int):(Int×aY)→Ex×St:=fun x=>(.exit 2,bX [(1,(.i fV)),(5,(.ptr (7,0) [])),(7,(.ptr (15,0) [])),(8,(.ref (10,0) [])),(9,(.i eu)),(10,(.i x.1))] [((7,0),some ⟨true,bQ,(.imm H6),eB⟩),((15,0),some ⟨true,dz,(.imm H7),x.2⟩),((10,0),some ⟨false,.il,.own,sw⟩)])
def adu (s:St):Tre (Ex×St):=
 aA true .n (s.tmps 1) fun d2=>
 dH (7,0) [] (s.tmps 5)<|
 dH (15,0) [] (s.tmps 7)<|
 dW (10,0) [] (s.tmps 8)<|
 aA true .n (s.tmps 9) fun d7=>
 aA true .n (s.tmps 10) fun d9=>
 aA true .n (s.tmps 11) fun d11=>
 aX true bQ (s.roots (7,0)) fun m13 d14=>
 fB m13 fun z15=>
 aX true dz (s.roots (15,0)) fun m17 d18=>
 fB m17 fun z19=>
 aX false .il (s.roots (10,0)) fun m21 d22=>
 asM .own m21<|
 .mat (aO (jU d14) (d9,d11,d18)) fun x=>.ret (JG z15 z19 d2 d7 d14 d22 x)
def wD:bD:=⟨([1,5,7,8,9,10,11],[(7,0),(15,0),(10,0)]),([1,5,7,8,9,10],[(7,0),(15,0),(10,0)]),adu⟩
def LU (nY:Bool) (HZ:Bool) (bT:Int) (eP:aZ):(Int×aY×(List Int))→St:=fun x=>bX [(1,(.i bT)),(5,(.ptr (7,0) [])),(7,(.ptr (15,0) [])),(8,(.ref (10,0) [])),(9,(.i x.1))] [((7,0),some ⟨true,bQ,(.imm nY),eP⟩),((15,0),some ⟨true,dz,(.imm HZ),x.2.1⟩),((10,0),some ⟨false,.il,.own,x.2.2⟩)]
def JF (_:Bool) (_:Bool) (_:Int) (_:aZ):(List Int)→Ex×St:=fun x=>(.exit 0,bX [(8,(.ref (10,0) []))] [((10,0),some ⟨false,.il,.own,x⟩)])
def adt (s:St):Tre (Ex×St):=
 aA true .n (s.tmps 1) fun d2=>
 dH (7,0) [] (s.tmps 5)<|
 dH (15,0) [] (s.tmps 7)<|
 dW (10,0) [] (s.tmps 8)<|
 aA true .n (s.tmps 9) fun d7=>
 aX true bQ (s.roots (7,0)) fun m9 d10=>
 fB m9 fun z11=>
 aX true dz (s.roots (15,0)) fun m13 d14=>
 fB m13 fun z15=>
 aX false .il (s.roots (10,0)) fun m17 d18=>
 asM .own m17<|
 .mat (aO (qN d2 d10) (d7,d14,d18)) fun x=>.ret (JF z11 z15 d2 d10 x)
def wC:bD:=⟨([1,5,7,8,9],[(7,0),(15,0),(10,0)]),([8],[(10,0)]),adt⟩
def zH:List (Nat×bD):=[(8,wD),(4,wC)]
theorem Xe:∀(H6 H7:Bool)(fV eu:Int)(eB:aZ)(sw:List Int)(x:(Int×Int×aY))(c:St→Option (Ex×St)),den uw zH (aV EU 1) (LV H6 H7 fV eu eB sw x) (cu wD.kp wD.kx c)=(jU eB x).run (cB (LV H6 H7 fV eu eB sw) (JG H6 H7 fV eu eB sw) c):=fun _ _ _ _ _ _ _ _=>by
 kernel_rfl
theorem abk:bU uw zH (aV EU 1) wD:=dh fun _ _ _=>aH fun _=>fJ<|fJ<|jk<|aH fun _=>aH fun _=>aH fun _=>bN fun _ _=>ku fun _=>bN fun _ _=>ku fun _=>bN fun _ _=>tM<|fun h _ e20 _ e16 _ e12 e10 e8 e6 e5 e4 e3 e1=>bS (Xe _ _ _ _ _ _) h (by subst_vars;exact aP rfl rfl ⟨e1,e3,e4,e5,e6,e8,e10,trivial⟩ ⟨e12,e16,e20,trivial⟩)
theorem Xd:∀(nY HZ:Bool)(bT:Int)(eP:aZ)(x:(Int×aY×(List Int)))(c:St→Option (Ex×St)),den uw zH (aV EU 0) (LU nY HZ bT eP x) (cu wC.kp wC.kx c)=(qN bT eP x).run (cB (LU nY HZ bT eP) (JF nY HZ bT eP) c):=fun _ _ _ _ _ _=>by
 kernel_rfl
theorem abj:bU uw zH (aV EU 0) wC:=dh fun _ _ _=>aH fun _=>fJ<|fJ<|jk<|aH fun _=>bN fun _ _=>ku fun _=>bN fun _ _=>ku fun _=>bN fun _ _=>tM<|fun h _ e16 _ e12 _ e8 e6 e5 e4 e3 e1=>bS (Xd _ _ _ _) h (by subst_vars;exact aP rfl rfl ⟨e1,e3,e4,e5,e6,trivial⟩ ⟨e8,e12,e16,trivial⟩)
def ajZ:FnI:=fnI Try.f15 zH
def Sz (_:Bool) (_:Bool) (_:List Int) (_:Int) (_:aZ):(List Int)→ay:=fun r=>⟨(.ref (1,0) []),[],[⟨false,.il,.own,r⟩]⟩
theorem ahj:∀(zp0 zp1:Bool)(p0:List Int)(p1:Int)(p2:aZ),bR uw ajZ ⟨[(.imm zp0 (.sl (.int .u8)) p0),(.i p1),(.imm zp1 bQ p2)],[]⟩=(Xc p0 p1 p2).run fun r=>some (Sz zp0 zp1 p0 p1 p2 r):=fun _ _ _ _ _=>by kernel_rfl
def ajY (av:List AV) (rs:List Root):Tre ay:=
 aD av fun a0_ av0=>
 aD av0 fun a1_ av1=>
 aD av1 fun a2_ av2=>
 aM av2<|
 aM rs<|
 bG (.sl (.int .u8)) a0_ fun z2 d1=>
 aA true .n a1_ fun d3=>
 bG bQ a2_ fun z5 d4=>
 .mat (uq d1 d3 d4) fun r=>.ret (Sz z2 z5 d1 d3 d4 r)
def Zb:Ctr:=dO [] ajY
theorem ahk:Contract Try.prog .none 15 Zb:=aC (V:=uw) aW (ak uy ahR (ak sV asQ aJ)) Try.func15 (bL (n:=2) fun k hk=>by
 match k,hk with
 |0,_=>exact bO (id:=4) abj
 |1,_=>exact bO (id:=8) abk) fun _ _ _=>aK fun _ _=>aK fun _ _=>aK fun _ _=>bA<|bA<|dM fun _ _=>aH fun _=>dM fun _ _=>fun h=>by intros;subst_vars;exact bB (ahj _ _ _ _ _) h
-- shared
theorem abz(d:Nat):∀(l:List Nat)(i e:Nat),fH d i (l++[e])=fH d i l^^^cond (d.testBit (i+l.length)) e 0:=by
 intro l
 induction l with
 |nil=>intro i e;simp [fH]
 |cons x l ih=>
  intro i e
  rw [List.cons_append]
  unfold fH
  rw [ih (i+1) e,List.length_cons,Nat.xor_assoc,show i+1+l.length=i+(l.length+1) by omega]
theorem avG(d r x:Nat)(φ:Nat→Nat):∀n,fH d 0 ((List.range n).map fun i=>cond (r.testBit i) (φ i^^^x) (φ i))=fH d 0 ((List.range n).map φ)^^^cond (Uu n (r&&&d)) x 0:=by
 intro n
 induction n with
 |zero=>simp [fH,Uu]
 |succ n ih=>
  rw [List.range_succ,List.map_append,List.map_append,List.map_cons,List.map_nil,List.map_cons,List.map_nil,abz,abz,ih,List.length_map,List.length_map,List.length_range,Nat.zero_add]
  rw [show Uu (n+1) (r&&&d)=((r&&&d).testBit n ^^ Uu n (r&&&d)) from rfl,Nat.testBit_and]
  generalize fH d 0 ((List.range n).map φ)=s
  generalize φ n=e
  generalize Uu n (r&&&d)=p
  cases d.testBit n
  ·rw [Bool.and_false,Bool.false_xor,cond_false,cond_false,Nat.xor_zero,Nat.xor_zero]
  cases r.testBit n
  ·rw [Bool.false_and,Bool.false_xor,cond_true,cond_false,cond_true,Nat.xor_assoc,Nat.xor_assoc,Nat.xor_comm e]
  cases p
  ·rw [Bool.and_self,Bool.xor_false,cond_true,cond_true,cond_false,Nat.xor_zero,Nat.xor_assoc]
   rfl
  ·rw [Bool.and_self,Bool.xor_true,Bool.not_true,cond_true,cond_true,cond_false,cond_true,Nat.xor_zero]
   calc s^^^x^^^(e^^^x)=(s^^^e)^^^(x^^^x):=by ac_rfl
    _=s^^^e:=by rw [Nat.xor_self,Nat.xor_zero]
theorem arw{x n:Nat}(h:x<2 ^ n):∀m,Uu (n+m) x=Uu n x:=by
 intro m
 induction m with
 |zero=>rfl
 |succ m ih=>
  show (x.testBit (n+m) ^^ Uu (n+m) x)=Uu n x
  rw [Nat.testBit_lt_two_pow (Nat.lt_of_lt_of_le h (Nat.pow_le_pow_right (by decide) (by omega))),ih,Bool.false_xor]
theorem arD{n i:Nat}(h:Nat→Nat)(v:Nat):((List.range n).map h).set i v=(List.range n).map fun j=>if i=j then v else h j:=by
 refine List.ext_getElem (by simp) fun j h1 h2=>?_
 rw [List.getElem_set,List.getElem_map,List.getElem_map,List.getElem_range]
theorem atT{n i:Nat}(h:Nat→Nat)(hi:i<n):((List.range n).map h)[i]?=some (h i):=by
 rw [List.getElem?_map,List.getElem?_range hi];rfl
theorem amM(d:Nat):∀(a b:List Nat)(i:Nat),a.length=b.length→fH d i ((a.zip b).map fun p=>p.1^^^p.2)=fH d i a^^^fH d i b:=by
 intro a
 induction a with
 |nil=>intro b i h;cases b with
  |nil=>simp [fH]
  |cons y b=>simp at h
 |cons x a ih=>
  intro b i h
  cases b with
  |nil=>simp at h
  |cons y b=>
   rw [List.zip_cons_cons,List.map_cons]
   unfold fH
   rw [ih b (i+1) (by simpa using h)]
   cases d.testBit i
   ·simp only [cond_false,Nat.zero_xor]
   ·simp only [cond_true]
    ac_rfl
def dP (qW:Int) (su:Int):(Int×aY×(List Int))→Tre ((Int×aY×(List Int)) ⊕ (aY×(List Int))):=fun s7=>
 .cond (decide (s7.1<qW))
  (.mat (jr 2 s7.2.1) fun r3=>
  .cond r3.1
   (.ite (0≤s7.1∧s7.1<(s7.2.2.length:Int))<|
   .mat (s7.2.2[s7.1.toNat]?) fun x4=>
   .ite (0≤s7.1∧s7.1<(s7.2.2.length:Int))<|
   .mat (s7.2.2[s7.1.toNat]?) fun _=>
   let v6:=s7.2.2.set s7.1.toNat (iF .i64 x4 su)
   .ret (.inl (aF .i64 (s7.1+1),r3.2,v6)))
   (.ret (.inl (aF .i64 (s7.1+1),r3.2,s7.2.2))))
  (.ret (.inr (s7.2.1,s7.2.2)))
def gJ (aQ:Int) (bq:Int) (dK:(Int×(Int×Unit))):(Int×aY×(List Int))→Tre ((Int×aY×(List Int)) ⊕ (aY×(List Int))):=fun s3=>
 .cond (decide (s3.1<bq))
  (.mat (iO dK) fun r1=>
  .mat (dn r1 s3.2.1) fun r2=>
  .mat (aO (dP aQ r2.1) (0,r2.2,s3.2.2)) fun l7=>
  .ret (.inl (aF .i64 (s3.1+1),l7.1,l7.2)))
  (.ret (.inr (s3.2.1,s3.2.2)))
def vE (p0:(Int×(Int×Unit))) (p1:Int) (p2:Int) (p3:aY):Tre (aY×(List Int)):=
 .ite ((.n:K)=.n∧0≤p1∧p1=p1∧p1*(8:Nat)≤140737488355328∧1≤8)<|
 .mat (aO (gJ p1 p2 p0) (0,p3,List.replicate p1.toNat (0:Int))) fun l8=>
 .ret (l8.1,l8.2)
def mU (p0:(Int×(Int×Unit))) (p1:Int) (p2:Int) (p3:aY):Option (aY×(List Int)):=(vE p0 p1 p2 p3).run some
-- more
theorem aqF{f:TF3}(hf:aG f=true){n x:Nat}(hn:n≤1000)(hx:x<(FOf f hf).q){us:List Nat}(hxu:x∈us):∀(m i:Nat){c:Nat}{s:Src}{E:List Nat},i+m=n→lg c s→c+2*m≤80000→E.length=n→inL (FOf f hf) E→(∀e∈E,Sp us e) →
  ∃r,aO (dP (n:Int) (x:Int)) ((i:Int),s,aR E)=some r∧(lg (c+2*m) r.1∧∃E':List Nat,r.2=aR E'∧E'.length=n∧inL (FOf f hf) E'∧∀e∈E',Sp us e):=by
 intro m
 induction m with
 |zero=>
  intro i c s E hm hs _ hE hEi hsp
  refine ⟨(s,aR E),dY ?_,hs,E,rfl,hE,hEi,hsp⟩
  unfold dP
  dsimp only
  rw [Tre.aB,decide_eq_false (by omega),cond_false,Tre.aI]
 |succ m ih=>
  intro i c s E hm hs hc hE hEi hsp
  have hi:i<E.length:=by omega
  have hg:E[i]?=some E[i]:=List.getElem?_eq_getElem hi
  obtain ⟨r,hr1,hr2⟩:=aow (n:=2) hs (by omega)
  have hei:=hEi _ (List.getElem_mem hi)
  have hse:=hsp _ (List.getElem_mem hi)
  have hstep:∃E':List Nat,(dP (n:Int) (x:Int) ((i:Int),s,aR E)).run some=some (.inl (((i+1:Nat):Int),r.2,aR E'))∧E'.length=n∧inL (FOf f hf) E'∧∀e∈E',Sp us e:=by
   cases hb:r.1
   ·refine ⟨E,?_,hE,hEi,hsp⟩
    unfold dP
    dsimp only
    rw [Tre.aB,decide_eq_true (by omega),cond_true,ah hr1,Tre.aB,hb,cond_false,Tre.aI,aU (by omega)]
   ·refine ⟨E.set i (E[i]^^^x),?_,by rw [List.length_set];exact hE,fun e he=>?_,fun e he=>?_⟩
    ·unfold dP
     dsimp only
     rw [Tre.aB,decide_eq_true (by omega),cond_true,ah hr1,Tre.aB,hb,cond_true,Tre.run_ite,if_pos (by rw [aN];omega),Int.toNat_natCast,ah (fT hg),Tre.run_ite,if_pos (by rw [aN];omega),ah (fT hg),Tre.aI,aU (by omega),OI hf hei hx,←LA]
    ·rcases List.mem_or_eq_of_mem_set he with he|rfl
     ·exact hEi e he
     ·exact (FOf f hf).xlt _ _ hei hx
    ·rcases List.mem_or_eq_of_mem_set he with he|rfl
     ·exact hsp e he
     ·exact hse.xor (Sp.mem hxu)
  obtain ⟨E',h3,h4,h5,h6⟩:=hstep
  rw [gy h3]
  obtain ⟨q,hq1,hq2,hq3⟩:=ih (i+1) (by omega) hr2 (by omega) h4 h5 h6
  exact ⟨q,hq1,hq2.mono (by omega),hq3⟩
theorem anK{f:TF3}(hf:aG f=true){n R:Nat}(hn:n≤20)(hR:R≤20):∀(m i:Nat){c:Nat}{s:Src}{E us:List Nat},i+m=R→lg c s→c+100*m≤70000→E.length=n→inL (FOf f hf) E→us.length=i→(∀e∈E,Sp us e) →
  ∃r,aO (gJ (n:Int) (R:Int) f) ((i:Int),s,aR E)=some r∧∃E' us':List Nat,r.2=aR E'∧E'.length=n∧inL (FOf f hf) E'∧us'.length≤R∧∀e∈E',Sp us' e:=by
 intro m
 induction m with
 |zero=>
  intro i c s E us hm hs _ hE hEi hus hsp
  refine ⟨(s,aR E),dY ?_,E,us,rfl,hE,hEi,by omega,hsp⟩
  unfold gJ
  dsimp only
  rw [Tre.aB,decide_eq_false (by omega),cond_false,Tre.aI]
 |succ m ih=>
  intro i c s E us hm hs hc hE hEi hus hsp
  obtain ⟨r,hr1,⟨hr2,hr3⟩,hr4⟩:=zA (n:=(((FOf f hf).q:Nat):Int)) hs (by omega)
  have hz:=(FOf f hf).zlt
  obtain ⟨x,hx⟩:∃x:Nat,r.1=(x:Int):=⟨r.1.toNat,by omega⟩
  obtain ⟨q,hq1,hq2,E',hq3,hq4,hq5,hq6⟩:=aqF hf (x:=x) (us:=us++[x]) (by omega) (by omega) (List.mem_append_right _ (List.mem_singleton.2 rfl)) n 0 (by omega) hr4 (by omega) hE hEi fun e he=>(hsp e he).trans fun y hy=>Sp.mem (List.mem_append_left _ hy)
  have hq1:aO (dP (n:Int) (x:Int)) (0,r.2,aR E)=some q:=hq1
  rw [gy (y:=(((i+1:Nat):Int),q.1,aR E')) (by
   unfold gJ
   dsimp only
   rw [Tre.aB,decide_eq_true (by omega),cond_true,ah (Zx hf),ah hr1,hx,ah hq1,Tre.aI,aU (by omega),hq3])]
  exact ih (i+1) (by omega) (hq2.mono (show c+2+2*n≤c+100 by omega)) (by omega) hq4 hq5 (by simp [hus]) hq6
theorem aiY{f:TF3}(hf:aG f=true){n R:Nat}(hn:n≤20)(hR:R≤20){c:Nat}{s:Src}(hs:lg c s)(hc:c≤60000):∃r,mU f (n:Int) (R:Int) s=some r∧∃E us:List Nat,r.2=aR E∧E.length=n∧inL (FOf f hf) E∧us.length≤R∧∀e∈E,Sp us e:=by
 unfold mU vE
 rw [Int.toNat_natCast,←wS]
 refine eX.run (eX.ite ⟨rfl,by omega,rfl,by omega,by omega⟩ fun _=>eX.mat (anK hf hn hR R 0 (us:=[]) (by omega) hs (by omega) (List.length_replicate ..) (fun x hx=>by rw [(List.mem_replicate.1 hx).2];exact (FOf f hf).zlt) rfl fun x hx=>by rw [(List.mem_replicate.1 hx).2];exact .zero) fun r hr=>.ret hr)
def gX:Env:=⟨tau,[(29,xZ),(22,fF),(36,oF)],[]⟩
def mV:Code:=(Try.f31.body).getD .skip
def uU (Xx:Bool) (qW:Int) (wI:Int) (wJ:Int) (su:Int) (wK:(Int×(Int×Unit))):(Int×aY×(List Int))→St:=fun x=>bX [(0,(.ptr (0,0) [])),(2,(.i qW)),(3,(.i wI)),(5,(.ptr (7,0) [])),(9,(.ref (11,0) [])),(10,(.i wJ)),(11,(.i su)),(12,(.i x.1))] [((0,0),some ⟨true,dz,(.imm Xx),x.2.1⟩),((7,0),some ⟨true,aL,.own,wK⟩),((11,0),some ⟨false,.il,.own,x.2.2⟩)]
def tq (Xx:Bool) (qW:Int) (wI:Int) (wJ:Int) (_:Int) (wK:(Int×(Int×Unit))):(aY×(List Int))→Ex×St:=fun x=>(.exit 2,bX [(0,(.ptr (0,0) [])),(2,(.i qW)),(3,(.i wI)),(5,(.ptr (7,0) [])),(9,(.ref (11,0) [])),(10,(.i wJ))] [((0,0),some ⟨true,dz,(.imm Xx),x.1⟩),((7,0),some ⟨true,aL,.own,wK⟩),((11,0),some ⟨false,.il,.own,x.2⟩)])
def KA (s:St):Tre (Ex×St):=
 dH (0,0) [] (s.tmps 0)<|
 aA true .n (s.tmps 2) fun d3=>
 aA true .n (s.tmps 3) fun d5=>
 dH (7,0) [] (s.tmps 5)<|
 dW (11,0) [] (s.tmps 9)<|
 aA true .n (s.tmps 10) fun d9=>
 aA true .n (s.tmps 11) fun d11=>
 aA true .n (s.tmps 12) fun d13=>
 aX true dz (s.roots (0,0)) fun m15 d16=>
 fB m15 fun z17=>
 aX true aL (s.roots (7,0)) fun m19 d20=>
 asM .own m19<|
 aX false .il (s.roots (11,0)) fun m22 d23=>
 asM .own m22<|
 .mat (aO (dP d3 d11) (d13,d16,d23)) fun x=>.ret (tq z17 d3 d5 d9 d11 d20 x)
def jW:bD:=⟨([0,2,3,5,9,10,11,12],[(0,0),(7,0),(11,0)]),([0,2,3,5,9,10],[(0,0),(7,0),(11,0)]),KA⟩
def uT (dQ:Bool) (aQ:Int) (bq:Int) (dK:(Int×(Int×Unit))):(Int×aY×(List Int))→St:=fun x=>bX [(0,(.ptr (0,0) [])),(2,(.i aQ)),(3,(.i bq)),(5,(.ptr (7,0) [])),(9,(.ref (11,0) [])),(10,(.i x.1))] [((0,0),some ⟨true,dz,(.imm dQ),x.2.1⟩),((7,0),some ⟨true,aL,.own,dK⟩),((11,0),some ⟨false,.il,.own,x.2.2⟩)]
def sZ (dQ:Bool) (_:Int) (_:Int) (_:(Int×(Int×Unit))):(aY×(List Int))→Ex×St:=fun x=>(.exit 0,bX [(9,(.ref (11,0) []))] [((0,0),some ⟨true,dz,(.imm dQ),x.1⟩),((11,0),some ⟨false,.il,.own,x.2⟩)])
def Kz (s:St):Tre (Ex×St):=
 dH (0,0) [] (s.tmps 0)<|
 aA true .n (s.tmps 2) fun d3=>
 aA true .n (s.tmps 3) fun d5=>
 dH (7,0) [] (s.tmps 5)<|
 dW (11,0) [] (s.tmps 9)<|
 aA true .n (s.tmps 10) fun d9=>
 aX true dz (s.roots (0,0)) fun m11 d12=>
 fB m11 fun z13=>
 aX true aL (s.roots (7,0)) fun m15 d16=>
 asM .own m15<|
 aX false .il (s.roots (11,0)) fun m18 d19=>
 asM .own m18<|
 .mat (aO (gJ d3 d5 d16) (d9,d12,d19)) fun x=>.ret (sZ z13 d3 d5 d16 x)
def jV:bD:=⟨([0,2,3,5,9,10],[(0,0),(7,0),(11,0)]),([9],[(0,0),(11,0)]),Kz⟩
def jD:List (Nat×bD):=[(7,jW),(3,jV)]
theorem EX:∀(Xx:Bool)(qW wI wJ su:Int)(wK:(Int×(Int×Unit)))(x:(Int×aY×(List Int)))(c:St→Option (Ex×St)),den gX jD (aV mV 1) (uU Xx qW wI wJ su wK x) (cu jW.kp jW.kx c)=(dP qW su x).run (cB (uU Xx qW wI wJ su wK) (tq Xx qW wI wJ su wK) c):=fun _ _ _ _ _ _ _ _=>by
 kernel_rfl
theorem Ij:bU gX jD (aV mV 1) jW:=dh fun _ _ _=>fJ<|aH fun _=>aH fun _=>fJ<|jk<|aH fun _=>aH fun _=>aH fun _=>bN fun _ _=>ku fun _=>bN fun _ _=>tM<|bN fun _ _=>tM<|fun h _ e21 _ e18 _ e14 e12 e10 e8 e7 e6 e4 e2 e1=>bS (EX _ _ _ _ _ _) h (by subst_vars;exact aP rfl rfl ⟨e1,e2,e4,e6,e7,e8,e10,e12,trivial⟩ ⟨e14,e18,e21,trivial⟩)
theorem EW:∀(dQ:Bool)(aQ bq:Int)(dK:(Int×(Int×Unit)))(x:(Int×aY×(List Int)))(c:St→Option (Ex×St)),den gX jD (aV mV 0) (uT dQ aQ bq dK x) (cu jV.kp jV.kx c)=(gJ aQ bq dK x).run (cB (uT dQ aQ bq dK) (sZ dQ aQ bq dK) c):=fun _ _ _ _ _ _=>by
 kernel_rfl
theorem Ii:bU gX jD (aV mV 0) jV:=dh fun _ _ _=>fJ<|aH fun _=>aH fun _=>fJ<|jk<|aH fun _=>bN fun _ _=>ku fun _=>bN fun _ _=>tM<|bN fun _ _=>tM<|fun h _ e17 _ e14 _ e10 e8 e7 e6 e4 e2 e1=>bS (EW _ _ _ _) h (by subst_vars;exact aP rfl rfl ⟨e1,e2,e4,e6,e7,e8,trivial⟩ ⟨e10,e14,e17,trivial⟩)
def Qq:FnI:=fnI Try.f31 jD
def yg (zp0:Bool) (_:(Int×(Int×Unit))) (_:Int) (_:Int) (_:aY):(aY×(List Int))→ay:=fun r=>⟨(.ref (1,0) []),[⟨true,dz,(.imm zp0),r.1⟩],[⟨false,.il,.own,r.2⟩]⟩
theorem Om:∀(zp0:Bool)(p0:(Int×(Int×Unit)))(p1 p2:Int)(p3:aY),bR gX Qq ⟨[(.ptr (0,0) []),(.imm true aL p0),(.i p1),(.i p2)],[⟨true,dz,(.imm zp0),p3⟩]⟩=(vE p0 p1 p2 p3).run fun r=>some (yg zp0 p0 p1 p2 p3 r):=fun _ _ _ _ _=>by kernel_rfl
def Qp (av:List AV) (rs:List Root):Tre ay:=
 aD av fun a0_ av0=>
 aD av0 fun a1_ av1=>
 aD av1 fun a2_ av2=>
 aD av2 fun a3_ av3=>
 aM av3<|
 aD rs fun r0_ rs0=>
 aM rs0<|
 dH (0,0) [] a0_<|
 aA true aL a1_ fun d1=>
 aA true .n a2_ fun d2=>
 aA true .n a3_ fun d3=>
 yx true dz r0_ fun m4 d5=>
 fB m4 fun z6=>
 .mat (mU d1 d2 d3 d5) fun r=>.ret (yg z6 d1 d2 d3 d5 r)
def Ap:Ctr:=dO [] Qp
theorem Oo:Contract Try.prog .none 31 Ap:=aC (V:=gX) aW (ak zM akZ (ak fO aep (ak sV asQ aJ))) Try.func31 (bL (n:=2) fun k hk=>by
 match k,hk with
 |0,_=>exact bO (id:=3) Ii
 |1,_=>exact bO (id:=7) Ij) fun _ _ _=>aK fun _ _=>aK fun _ _=>aK fun _ _=>aK fun _ _=>bA<|aK fun _ _=>bA<|fJ<|aH fun _=>aH fun _=>aH fun _=>tRt fun _ _=>ku fun _=>fun h=>by intros;subst_vars;exact bB (Om _ _ _ _ _) h
def abb (p0:List Int) (p1:(Int×(Int×Unit))) (p2:Int) (p3:Int):Tre (List Int):=
 .mat (mU p1 p2 p3 (p0,(0,(0,())))) fun r1=>
 .ret r1.2
def sS (p0:List Int) (p1:(Int×(Int×Unit))) (p2:Int) (p3:Int):Option (List Int):=(abb p0 p1 p2 p3).run some
-- more
theorem afz{code:List Int}(hl:code.length≤5000)(hc:∀x∈code,0≤x∧x≤255){f:TF3}(hf:aG f=true){n R:Nat}(hn:n≤20)(hR:R≤20):∃r,sS code f (n:Int) (R:Int)=some r∧∃E us:List Nat,r=aR E∧E.length=n∧inL (FOf f hf) E∧us.length≤R∧∀e∈E,Sp us e:=by
 have h0:lg 0 (code,0,0,()):=⟨hl,hc,Int.le_refl _,Int.le_refl _⟩
 unfold sS abb
 exact eX.run (eX.mat (aiY hf hn hR h0 (by omega)) fun a ha=>.ret ha)
def ace:Env:=⟨tau,[(17,sU),(31,Ap)],[]⟩
def amo:FnI:=fnI Try.f12 []
def Vo (_:Bool) (_:List Int) (_:(Int×(Int×Unit))) (_:Int) (_:Int):(List Int)→ay:=fun r=>⟨(.ref (1,0) []),[],[⟨false,.il,.own,r⟩]⟩
theorem ajS:∀(zp0:Bool)(p0:List Int)(p1:(Int×(Int×Unit)))(p2 p3:Int),bR ace amo ⟨[(.imm zp0 (.sl (.int .u8)) p0),(.imm true aL p1),(.i p2),(.i p3)],[]⟩=(abb p0 p1 p2 p3).run fun r=>some (Vo zp0 p0 p1 p2 p3 r):=fun _ _ _ _ _=>by kernel_rfl
def amn (av:List AV) (rs:List Root):Tre ay:=
 aD av fun a0_ av0=>
 aD av0 fun a1_ av1=>
 aD av1 fun a2_ av2=>
 aD av2 fun a3_ av3=>
 aM av3<|
 aM rs<|
 bG (.sl (.int .u8)) a0_ fun z2 d1=>
 aA true aL a1_ fun d3=>
 aA true .n a2_ fun d4=>
 aA true .n a3_ fun d5=>
 .mat (sS d1 d3 d4 d5) fun r=>.ret (Vo z2 d1 d3 d4 d5 r)
def acf:Ctr:=dO [] amn
theorem ajT:Contract Try.prog .none 12 acf:=aC (V:=ace) aW (ak uy ahR (ak Oo ayj aJ)) Try.func12 bP fun _ _ _=>aK fun _ _=>aK fun _ _=>aK fun _ _=>aK fun _ _=>bA<|bA<|dM fun _ _=>aH fun _=>aH fun _=>aH fun _=>fun h=>by intros;subst_vars;exact bB (ajS _ _ _ _ _) h
def wW (aQ:List Int) (bq:List Int):(Int×(List Int))→Tre ((Int×(List Int)) ⊕ (List Int)):=fun s3=>
 .cond (decide (s3.1<(aQ.length:Int)))
  (.cond (decide (s3.1<(bq.length:Int)))
   (.ite (0≤s3.1∧s3.1<(aQ.length:Int))<|
   .mat (aQ[s3.1.toNat]?) fun x1=>
   .ite (0≤s3.1∧s3.1<(bq.length:Int))<|
   .mat (bq[s3.1.toNat]?) fun x2=>
   .ite ((s3.2.length+1)*8≤bE∧1≤8)<|
   let v3:=s3.2++([iF .i64 x1 x2])
   .ret (.inl (aF .i64 (s3.1+1),v3)))
   (.ret (.inr s3.2)))
  (.ret (.inr s3.2))
def ajC (p0:List Int) (p1:List Int):Tre (List Int):=
 .mat (aO (wW p0 p1) (0,[])) fun l4=>
 .ret l4
def oW (p0:List Int) (p1:List Int):Option (List Int):=(ajC p0 p1).run some
-- more
def avW(u w:List Int):List Int:=(u.zip w).map fun p=>iF .i64 p.1 p.2
theorem XH{u w:List Int}(hl:u.length=w.length)(hs:u.length≤1000000):oW u w=some (avW u w):=by
 have key:=xE (xs:=u.zip w) (step:=wW u w) (γ:=List Int) (fun (i:Nat) acc=>((i:Int),acc)) (fun _ acc p=>.inl (acc++[iF .i64 p.1 p.2])) id (fun i acc=>acc.length=i) (by
  intro i acc p hp hi
  have hlt:=(List.getElem?_eq_some_iff.1 hp).1
  rw [List.length_zip] at hlt
  obtain ⟨p1,p2⟩:=p
  rw [List.getElem?_zip_eq_some] at hp
  obtain ⟨h1,h2⟩:=hp
  refine ⟨?_,fun a ha=>?_⟩
  ·unfold wW
   dsimp only
   rw [Tre.aB,decide_eq_true (by omega),cond_true,Tre.aB,decide_eq_true (by omega),cond_true,Tre.run_ite,if_pos (by omega),Int.toNat_natCast,ah h1,Tre.run_ite,if_pos (by omega),ah h2,Tre.run_ite,if_pos (by unfold bE;omega),Tre.aI,aU (by omega)]
  ·cases ha;simp [hi]) (by
  intro acc _
  unfold wW
  dsimp only
  rw [Tre.aB,decide_eq_false (by rw [List.length_zip];omega),cond_false]
  rfl) (u.zip w) 0 [] rfl (Nat.zero_le _) rfl
 rw [ahX] at key
 have key:aO (wW u w) (0,[])=some (avW u w):=key
 unfold oW ajC
 rw [ah key]
 rfl
def TL:Env:=⟨tau,[],[]⟩
def aij:Code:=(Try.f10.body).getD .skip
def Vi (dQ:Bool) (HY:Bool) (aQ:List Int) (bq:List Int):(Int×(List Int))→St:=fun x=>bX [(0,(.imm dQ .il aQ)),(1,(.imm HY .il bq)),(5,(.ref (7,0) [])),(6,(.i x.1))] [((7,0),some ⟨false,.il,.own,x.2⟩)]
def RU (_:Bool) (_:Bool) (_:List Int) (_:List Int):(List Int)→Ex×St:=fun x=>(.exit 0,bX [(5,(.ref (7,0) []))] [((7,0),some ⟨false,.il,.own,x⟩)])
def ajD (s:St):Tre (Ex×St):=
 bG .il (s.tmps 0) fun z3 d2=>
 bG .il (s.tmps 1) fun z6 d5=>
 dW (7,0) [] (s.tmps 5)<|
 aA true .n (s.tmps 6) fun d9=>
 aX false .il (s.roots (7,0)) fun m11 d12=>
 asM .own m11<|
 .mat (aO (wW d2 d5) (d9,d12)) fun x=>.ret (RU z3 z6 d2 d5 x)
def EP:bD:=⟨([0,1,5,6],[(7,0)]),([5],[(7,0)]),ajD⟩
def aaM:List (Nat×bD):=[(3,EP)]
theorem adh:∀(dQ HY:Bool)(aQ bq:List Int)(x:(Int×(List Int)))(c:St→Option (Ex×St)),den TL aaM (aV aij 0) (Vi dQ HY aQ bq x) (cu EP.kp EP.kx c)=(wW aQ bq x).run (cB (Vi dQ HY aQ bq) (RU dQ HY aQ bq) c):=fun _ _ _ _ _ _=>by
 kernel_rfl
theorem ag9:bU TL aaM (aV aij 0) EP:=dh fun _ _ _=>dM fun _ _=>dM fun _ _=>jk<|aH fun _=>bN fun _ _=>tM<|fun h _ e10 e8 e7 e4 e1=>bS (adh _ _ _ _) h (by subst_vars;exact aP rfl rfl ⟨e1,e4,e7,e8,trivial⟩ ⟨e10,trivial⟩)
def ard:FnI:=fnI Try.f10 aaM
def ab5 (_:Bool) (_:Bool) (_:List Int) (_:List Int):(List Int)→ay:=fun r=>⟨(.ref (1,0) []),[],[⟨false,.il,.own,r⟩]⟩
theorem aom:∀(zp0 zp1:Bool)(p0 p1:List Int),bR TL ard ⟨[(.imm zp0 .il p0),(.imm zp1 .il p1)],[]⟩=(ajC p0 p1).run fun r=>some (ab5 zp0 zp1 p0 p1 r):=fun _ _ _ _=>by kernel_rfl
def arb (av:List AV) (rs:List Root):Tre ay:=
 aD av fun a0_ av0=>
 aD av0 fun a1_ av1=>
 aM av1<|
 aM rs<|
 bG .il a0_ fun z2 d1=>
 bG .il a1_ fun z4 d3=>
 .mat (oW d1 d3) fun r=>.ret (ab5 z2 z4 d1 d3 r)
def aik:Ctr:=dO [] arb
theorem aon:Contract Try.prog .none 10 aik:=aC (V:=TL) aW aJ Try.func10 (bL (n:=1) fun k hk=>by
 match k,hk with
 |0,_=>exact bO (id:=3) ag9) fun _ _ _=>aK fun _ _=>aK fun _ _=>bA<|bA<|dM fun _ _=>dM fun _ _=>fun h=>by intros;subst_vars;exact bB (aom _ _ _ _) h
def sN (bT:List Int) (fK:List Int):Int→Tre (Int ⊕ (Bool ⊕ Unit)):=fun s4=>
 .cond (decide (s4<(bT.length:Int)))
  (.ite (0≤s4∧s4<(bT.length:Int))<|
  .mat (bT[s4.toNat]?) fun x1=>
  .ite (0≤s4∧s4<(fK.length:Int))<|
  .mat (fK[s4.toNat]?) fun x2=>
  .cond (!decide (x1=x2))
   (.ret (.inr (.inl false)))
   (.ret (.inl (aF .i64 (s4+1)))))
  (.ret (.inr (.inr ())))
def afj (p0:List Int) (p1:List Int):Tre Bool:=
 .cond (!decide ((p0.length:Int)=(p1.length:Int)))
  (.ret false)
  (.mat (aO (sN p0 p1) 0) fun l3=>
  .alt l3
   (fun a4=>
    .ret a4)
   (fun _=>
    .ret true))
def wV (p0:List Int) (p1:List Int):Option Bool:=(afj p0 p1).run some
-- more
theorem ahV{u:List Int}(hs:u.length≤1000000):wV u u=some true:=by
 have key:=ahD (xs:=u) (step:=sN u u) (β:=Bool ⊕ Unit) (fun _=>true) (.inl false) (.inr ()) (by
  intro i x hx
  have hi:=(List.getElem?_eq_some_iff.1 hx).1
  unfold sN
  rw [fU hx,Tre.run_ite,if_pos (by omega),Int.toNat_natCast,ah hx,Tre.aB,decide_eq_true rfl,Bool.not_true,cond_false,Tre.aI,aU (by omega)]
  rfl) (by
  unfold sN
  exact eY)
 unfold wV afj
 rw [Tre.aB,decide_eq_true rfl,Bool.not_true,cond_false,ah key]
 have:u.all (fun _=>true)=true:=by simp
 rw [this]
 rfl
def NM:Env:=⟨tau,[],[]⟩
def afk:Code:=(Try.f13.body).getD .skip
def Gz (nY:Bool) (HZ:Bool) (bT:List Int) (fK:List Int):Int→St:=fun x=>bX [(0,(.imm nY .il bT)),(1,(.imm HZ .il fK)),(5,(.i x))] []
def wo (_:Bool) (_:Bool) (_:List Int) (_:List Int):(Bool ⊕ Unit)→Ex×St
 |.inl x=>(.ret,bX [(4,(.imm true .bool x))] [])
 |.inr _=>(.exit 0,bX [(4,.dead)] [])
def Vh (s:St):Tre (Ex×St):=
 bG .il (s.tmps 0) fun z3 d2=>
 bG .il (s.tmps 1) fun z6 d5=>
 aA true .n (s.tmps 5) fun d8=>
 .mat (aO (sN d2 d5) d8) fun x=>.alt x (fun a0=>.ret (wo z3 z6 d2 d5 (.inl a0))) (fun b0=>.ret (wo z3 z6 d2 d5 (.inr b0)))
def vP:bD:=⟨([0,1,5],[]),([4],[]),Vh⟩
def WR:List (Nat×bD):=[(4,vP)]
theorem aaL:∀(nY HZ:Bool)(bT fK:List Int)(x:Int)(c:St→Option (Ex×St)),den NM WR (aV afk 0) (Gz nY HZ bT fK x) (cu vP.kp vP.kx c)=(sN bT fK x).run (cB (Gz nY HZ bT fK) (wo nY HZ bT fK) c):=fun _ _ _ _ _ _=>by
 kernel_rfl
theorem afm:bU NM WR (aV afk 0) vP:=kS fun s e s' h=>by
 generalize hs:restrict vP.kp s=s1 at h
 have h:(Vh s1).run some=some (e,s'):=h
 obtain ⟨z3,d2,e1,h_0⟩:=iV h
 obtain ⟨z6,d5,e4,h_1⟩:=iV h_0
 obtain ⟨d8,e7,h_2⟩:=dJ h_1
 obtain ⟨y,hy,hz⟩:=mF h_2
 refine ⟨_,_,Gz z3 z6 d2 d5,wo z3 z6 d2 d5,sN d2 d5,d8,y,?_,hy,?_,aaL z3 z6 d2 d5⟩
 ·subst hs;exact aP (T:=[(0,(.imm z3 .il d2)),(1,(.imm z6 .il d5)),(5,(.i d8))]) (U:=[]) rfl rfl ⟨e1,e4,e7,trivial⟩ trivial
 ·rcases y with x|x<;>exact Option.some.inj hz
def aol:FnI:=fnI Try.f13 WR
def YD (_:Bool) (_:Bool) (_:List Int) (_:List Int):Bool→ay:=fun r=>⟨(.imm true .bool r),[],[]⟩
theorem alJ:∀(zp0 zp1:Bool)(p0 p1:List Int),bR NM aol ⟨[(.imm zp0 .il p0),(.imm zp1 .il p1)],[]⟩=(afj p0 p1).run fun r=>some (YD zp0 zp1 p0 p1 r):=fun _ _ _ _=>by kernel_rfl
def aok (av:List AV) (rs:List Root):Tre ay:=
 aD av fun a0_ av0=>
 aD av0 fun a1_ av1=>
 aM av1<|
 aM rs<|
 bG .il a0_ fun z2 d1=>
 bG .il a1_ fun z4 d3=>
 .mat (wV d1 d3) fun r=>.ret (YD z2 z4 d1 d3 r)
def afl:Ctr:=dO [] aok
theorem alK:Contract Try.prog .none 13 afl:=aC (V:=NM) aW aJ Try.func13 (bL (n:=1) fun k hk=>by
 match k,hk with
 |0,_=>exact bO (id:=4) afm) fun _ _ _=>aK fun _ _=>aK fun _ _=>bA<|bA<|dM fun _ _=>dM fun _ _=>fun h=>by intros;subst_vars;exact bB (alJ _ _ _ _) h
def qM (fV:Int) (eu:Int) (eB:aZ):(Int×(List Int))→Tre ((Int×(List Int)) ⊕ (List Int)):=fun s8=>
 .cond (decide (s8.1<eB.1))
  (.ite (0≤fV∧fV<(eB.2.1.length:Int))<|
  .mat (eB.2.1[fV.toNat]?) fun x3=>
  .mat (aiP x3 s8.1) fun r4=>
  .cond (decide (r4=1))
   (.ite (0≤s8.1∧s8.1<(s8.2.length:Int))<|
   .mat (s8.2[s8.1.toNat]?) fun x5=>
   .ite (0≤s8.1∧s8.1<(s8.2.length:Int))<|
   .mat (s8.2[s8.1.toNat]?) fun _=>
   let v7:=s8.2.set s8.1.toNat (iF .i64 x5 eu)
   .ret (.inl (aF .i64 (s8.1+1),v7)))
   (.ret (.inl (aF .i64 (s8.1+1),s8.2))))
  (.ret (.inr s8.2))
def qL (fK:(Int×(Int×Unit))) (eP:aZ):(Int×aY×(List Int))→Tre ((Int×aY×(List Int)) ⊕ (List Int)):=fun s4=>
 .cond (decide (s4.1<(eP.2.1.length:Int)))
  (.mat (iO fK) fun r1=>
  .mat (dn r1 s4.2.1) fun r2=>
  .mat (aO (qM s4.1 r2.1 eP) (0,s4.2.2)) fun l8=>
  .ret (.inl (aF .i64 (s4.1+1),r2.2,l8)))
  (.ret (.inr s4.2.2))
def W9 (p0:List Int) (p1:(Int×(Int×Unit))) (p2:aZ):Tre (List Int):=
 .ite ((.n:K)=.n∧0≤p2.1∧p2.1=p2.1∧p2.1*(8:Nat)≤140737488355328∧1≤8)<|
 .mat (aO (qL p1 p2) (0,(p0,(0,(0,()))),List.replicate p2.1.toNat (0:Int))) fun l9=>
 .ret l9
def ES (p0:List Int) (p1:(Int×(Int×Unit))) (p2:aZ):Option (List Int):=(W9 p0 p1 p2).run some
-- more
theorem arz{n i r x:Nat}(φ:Nat→Nat):(List.range n).map (fun j=>if j<i+1 then cond (r.testBit j) (φ j^^^x) (φ j) else φ j)=if r.testBit i=true then ((List.range n).map fun j=>if j<i then cond (r.testBit j) (φ j^^^x) (φ j) else φ j).set i (φ i^^^x) else (List.range n).map fun j=>if j<i then cond (r.testBit j) (φ j^^^x) (φ j) else φ j:=by
 split
 ·rename_i hb
  rw [arD]
  refine List.map_congr_left fun j _=>?_
  by_cases h1:i=j
  ·rw [if_pos h1,if_pos (by omega),←h1,hb,cond_true]
  ·rw [if_neg h1]
   by_cases h2:j<i
   ·rw [if_pos h2,if_pos (by omega)]
   ·rw [if_neg h2,if_neg (by omega)]
 ·rename_i hb
  refine List.map_congr_left fun j _=>?_
  by_cases h1:i=j
  ·rw [if_pos (by omega),if_neg (by omega),←h1,Bool.eq_false_iff.2 hb,cond_false]
  ·by_cases h2:j<i
   ·rw [if_pos h2,if_pos (by omega)]
   ·rw [if_neg h2,if_neg (by omega)]
theorem arx{n r x:Nat}(φ:Nat→Nat):((List.range n).map fun j=>if j<n then cond (r.testBit j) (φ j^^^x) (φ j) else φ j)=(List.range n).map fun i=>cond (r.testBit i) (φ i^^^x) (φ i):=
 List.map_congr_left fun _ hj=>if_pos (List.mem_range.1 hj)
theorem aod{f:TF3}(hf:aG f=true){n r x k:Nat}(hn:n≤60){u:Int×List Int×Unit}(hu:u.1=(n:Int))(hk:u.2.1[k]?=some (r:Int))(hr:r<2 ^ 63)(hx:x<(FOf f hf).q)(φ:Nat→Nat)(hφ:∀i,φ i<(FOf f hf).q) :
  aO (qM (k:Int) (x:Int) u) (0,aR ((List.range n).map φ))=some (aR ((List.range n).map fun i=>cond (r.testBit i) (φ i^^^x) (φ i))):=by
 have hkl:=(List.getElem?_eq_some_iff.1 hk).1
 have h0:(List.range n).map φ=(List.range n).map fun j=>if j<0 then cond (r.testBit j) (φ j^^^x) (φ j) else φ j:=rfl
 rw [h0]
 refine dZ (fun i=>((i:Int),aR ((List.range n).map fun j=>if j<i then cond (r.testBit j) (φ j^^^x) (φ j) else φ j))) n _ (fun i hi=>?_) ?_
 ·have hat:(aR ((List.range n).map fun j=>if j<i then cond (r.testBit j) (φ j^^^x) (φ j) else φ j))[i]?=some ((φ i:Nat):Int):=by
   rw [fT (atT _ hi),if_neg (by omega)]
  have hbit:=qE (a:=r) (j:=i) hr (by omega)
  unfold oL at hbit
  unfold qM
  dsimp only
  rw [hu,Tre.aB,decide_eq_true (by omega),cond_true,Tre.run_ite,if_pos (by omega),Int.toNat_natCast,ah hk,ah (aec (by omega)),Tre.aB,hbit,arz φ]
  cases hb:r.testBit i
  ·rw [cond_false,Tre.aI,aU (by omega),if_neg (by decide)]
  ·rw [cond_true,Tre.run_ite,if_pos (by rw [aN,List.length_map,List.length_range];omega),Int.toNat_natCast,ah hat,Tre.run_ite,if_pos (by rw [aN,List.length_map,List.length_range];omega),ah hat,Tre.aI,aU (by omega),if_pos rfl,OI hf (hφ i) hx,←LA]
 ·unfold qM
  dsimp only
  rw [hu,Tre.aB,decide_eq_false (by omega),cond_false,Tre.aI,arx]
theorem alD{f:TF3}(hf:aG f=true){n:Nat}(h1:1≤n)(hn:n≤5){ns:List Nat}(hns:∀r∈ns,r<2 ^ n)(hl:ns.length≤10):∀(m k:Nat){c:Nat}{s:Src}{φ:Nat→Nat},k+m=ns.length→lg c s→c+2*m≤80000→(∀i,φ i<(FOf f hf).q) →
  (∀d,d<2 ^ n→(∀r∈ns.take k,Uu 5 (r&&&d)=false)→fH d 0 ((List.range n).map φ)=0) →
  ∃r,aO (qL f ((n:Int),up ns,())) ((k:Int),s,aR ((List.range n).map φ))=some r∧∃φ':Nat→Nat,r=aR ((List.range n).map φ')∧(∀i,φ' i<(FOf f hf).q) ∧
   ∀d,d<2 ^ n→(∀r∈ns,Uu 5 (r&&&d)=false)→fH d 0 ((List.range n).map φ')=0:=by
 intro m
 induction m with
 |zero=>
  intro k c s φ hm hs _ hφ hd
  refine ⟨_,dY ?_,φ,rfl,hφ,fun d hd1 hd2=>hd d hd1 fun r hr=>hd2 r (List.mem_of_mem_take hr)⟩
  unfold qL
  dsimp only
  rw [Tre.aB,decide_eq_false (by rw [fC];omega),cond_false,Tre.aI]
 |succ m ih=>
  intro k c s φ hm hs hc hφ hd
  have hk:k<ns.length:=by omega
  have hg:ns[k]?=some ns[k]:=List.getElem?_eq_getElem hk
  have hrk:=hns _ (List.getElem_mem hk)
  have hp:2 ^ n≤32:=Nat.pow_le_pow_right (n:=2) (by decide) hn
  obtain ⟨r,hr1,⟨hr2,hr3⟩,hr4⟩:=zA (n:=(((FOf f hf).q:Nat):Int)) hs (by omega)
  have hz:=(FOf f hf).zlt
  obtain ⟨x,hx⟩:∃x:Nat,r.1=(x:Int):=⟨r.1.toNat,by omega⟩
  rw [gy (y:=(((k+1:Nat):Int),r.2,aR ((List.range n).map fun i=>cond (ns[k].testBit i) (φ i^^^x) (φ i)))) (by
   unfold qL
   dsimp only
   rw [Tre.aB,decide_eq_true (by rw [fC];omega),cond_true,ah (Zx hf),ah hr1,hx,ah (aod hf (by omega) rfl (VD hg) (by omega) (by omega) φ hφ),Tre.aI,aU (by omega)])]
  refine ih (k+1) (by omega) hr4 (by omega) (fun i=>?_) fun d hd1 hd2=>?_
  ·cases ns[k].testBit i
   ·exact hφ i
   ·exact (FOf f hf).xlt _ _ (hφ i) (by omega)
  ·have htk:ns.take (k+1)=ns.take k++[ns[k]]:=by rw [List.take_add_one,hg];rfl
   rw [htk] at hd2
   have h5:=hd2 ns[k] (List.mem_append_right _ (List.mem_singleton.2 rfl))
   rw [show 5=n+(5-n) by omega,arw (Nat.and_lt_two_pow _ hd1)] at h5
   rw [avG,h5,cond_false,Nat.xor_zero]
   exact hd d hd1 fun r hr=>hd2 r (List.mem_append_left _ hr)
theorem amd{code:List Int}(hl:code.length≤5000)(hc:∀x∈code,0≤x∧x≤255){f:TF3}(hf:aG f=true){n:Nat}(h1:1≤n)(hn:n≤5){ns:List Nat}(hns:∀r∈ns,r<2 ^ n)(hnl:ns.length≤10) :
  ∃r,ES code f ((n:Int),up ns,())=some r∧∃E:List Nat,r=aR E∧E.length=n∧inL (FOf f hf) E∧∀d,d<2 ^ n→(∀r∈ns,Uu 5 (r&&&d)=false)→fH d 0 E=0:=by
 have h0:lg 0 (code,0,0,()):=⟨hl,hc,Int.le_refl _,Int.le_refl _⟩
 have hz:List.replicate n (0:Int)=aR ((List.range n).map fun _=>0):=by
  rw [←wS]
  congr 1
  refine List.ext_getElem (by simp) fun i h1 h2=>?_
  rw [List.getElem_replicate,List.getElem_map]
 have hz0:∀d m,fH d 0 ((List.range m).map fun _=>0)=0:=fun d m=>by
  induction m with
  |zero=>rfl
  |succ m ih=>rw [List.range_succ,List.map_append,List.map_cons,List.map_nil,abz,ih];cases d.testBit (0+((List.range m).map fun _=>0).length)<;>rfl
 unfold ES W9
 dsimp only
 rw [Int.toNat_natCast,hz]
 refine eX.run (eX.ite ⟨rfl,by omega,rfl,by omega,by omega⟩ fun _=>eX.mat (alD hf h1 hn hns hnl ns.length 0 (φ:=fun _=>0) (by omega) h0 (by omega) (fun _=>(FOf f hf).zlt) fun d _ _=>hz0 d n) fun r hr=>.ret ?_)
 obtain ⟨φ,rfl,h2,h3⟩:=hr
 refine ⟨_,rfl,by simp,fun x hx=>?_,h3⟩
 obtain ⟨i,_,rfl⟩:=List.mem_map.1 hx
 exact h2 i
def um:Env:=⟨tau,[(17,sU),(29,xZ),(22,fF),(30,Xk)],[]⟩
def ET:Code:=(Try.f11.body).getD .skip
def LP (H6:Bool) (H7:Bool) (fV:Int) (eu:Int) (j4:(Int×(Int×Unit))) (eB:aZ) (mq:aY):(Int×(List Int))→St:=fun x=>bX [(4,(.ptr (6,0) [])),(5,(.ptr (7,0) [])),(7,(.ptr (15,0) [])),(8,(.ref (10,0) [])),(9,(.i fV)),(10,(.i eu)),(11,(.i x.1))] [((6,0),some ⟨true,aL,.own,j4⟩),((7,0),some ⟨true,bQ,(.imm H6),eB⟩),((15,0),some ⟨true,dz,(.imm H7),mq⟩),((10,0),some ⟨false,.il,.own,x.2⟩)]
def JD (H6:Bool) (H7:Bool) (fV:Int) (_:Int) (j4:(Int×(Int×Unit))) (eB:aZ) (mq:aY):(List Int)→Ex×St:=fun x=>(.exit 2,bX [(4,(.ptr (6,0) [])),(5,(.ptr (7,0) [])),(7,(.ptr (15,0) [])),(8,(.ref (10,0) [])),(9,(.i fV))] [((6,0),some ⟨true,aL,.own,j4⟩),((7,0),some ⟨true,bQ,(.imm H6),eB⟩),((15,0),some ⟨true,dz,(.imm H7),mq⟩),((10,0),some ⟨false,.il,.own,x⟩)])
def adr (s:St):Tre (Ex×St):=
 dH (6,0) [] (s.tmps 4)<|
 dH (7,0) [] (s.tmps 5)<|
 dH (15,0) [] (s.tmps 7)<|
 dW (10,0) [] (s.tmps 8)<|
 aA true .n (s.tmps 9) fun d6=>
 aA true .n (s.tmps 10) fun d8=>
 aA true .n (s.tmps 11) fun d10=>
 aX true aL (s.roots (6,0)) fun m12 d13=>
 asM .own m12<|
 aX true bQ (s.roots (7,0)) fun m15 d16=>
 fB m15 fun z17=>
 aX true dz (s.roots (15,0)) fun m19 d20=>
 fB m19 fun z21=>
 aX false .il (s.roots (10,0)) fun m23 d24=>
 asM .own m23<|
 .mat (aO (qM d6 d8 d16) (d10,d24)) fun x=>.ret (JD z17 z21 d6 d8 d13 d16 d20 x)
def wB:bD:=⟨([4,5,7,8,9,10,11],[(6,0),(7,0),(15,0),(10,0)]),([4,5,7,8,9],[(6,0),(7,0),(15,0),(10,0)]),adr⟩
def LM (nY:Bool) (HZ:Bool) (fK:(Int×(Int×Unit))) (eP:aZ):(Int×aY×(List Int))→St:=fun x=>bX [(4,(.ptr (6,0) [])),(5,(.ptr (7,0) [])),(7,(.ptr (15,0) [])),(8,(.ref (10,0) [])),(9,(.i x.1))] [((6,0),some ⟨true,aL,.own,fK⟩),((7,0),some ⟨true,bQ,(.imm nY),eP⟩),((15,0),some ⟨true,dz,(.imm HZ),x.2.1⟩),((10,0),some ⟨false,.il,.own,x.2.2⟩)]
def JC (_:Bool) (_:Bool) (_:(Int×(Int×Unit))) (_:aZ):(List Int)→Ex×St:=fun x=>(.exit 0,bX [(8,(.ref (10,0) []))] [((10,0),some ⟨false,.il,.own,x⟩)])
def adq (s:St):Tre (Ex×St):=
 dH (6,0) [] (s.tmps 4)<|
 dH (7,0) [] (s.tmps 5)<|
 dH (15,0) [] (s.tmps 7)<|
 dW (10,0) [] (s.tmps 8)<|
 aA true .n (s.tmps 9) fun d6=>
 aX true aL (s.roots (6,0)) fun m8 d9=>
 asM .own m8<|
 aX true bQ (s.roots (7,0)) fun m11 d12=>
 fB m11 fun z13=>
 aX true dz (s.roots (15,0)) fun m15 d16=>
 fB m15 fun z17=>
 aX false .il (s.roots (10,0)) fun m19 d20=>
 asM .own m19<|
 .mat (aO (qL d9 d12) (d6,d16,d20)) fun x=>.ret (JC z13 z17 d9 d12 x)
def wz:bD:=⟨([4,5,7,8,9],[(6,0),(7,0),(15,0),(10,0)]),([8],[(10,0)]),adq⟩
def zF:List (Nat×bD):=[(8,wB),(4,wz)]
theorem Xb:∀(H6 H7:Bool)(fV eu:Int)(j4:(Int×(Int×Unit)))(eB:aZ)(mq:aY)(x:(Int×(List Int)))(c:St→Option (Ex×St)),den um zF (aV ET 1) (LP H6 H7 fV eu j4 eB mq x) (cu wB.kp wB.kx c)=(qM fV eu eB x).run (cB (LP H6 H7 fV eu j4 eB mq) (JD H6 H7 fV eu j4 eB mq) c):=fun _ _ _ _ _ _ _ _ _=>by
 kernel_rfl
theorem abg:bU um zF (aV ET 1) wB:=dh fun _ _ _=>fJ<|fJ<|fJ<|jk<|aH fun _=>aH fun _=>aH fun _=>bN fun _ _=>tM<|bN fun _ _=>ku fun _=>bN fun _ _=>ku fun _=>bN fun _ _=>tM<|fun h _ e22 _ e18 _ e14 _ e11 e9 e7 e5 e4 e3 e2 e1=>bS (Xb _ _ _ _ _ _ _) h (by subst_vars;exact aP rfl rfl ⟨e1,e2,e3,e4,e5,e7,e9,trivial⟩ ⟨e11,e14,e18,e22,trivial⟩)
theorem Xa:∀(nY HZ:Bool)(fK:(Int×(Int×Unit)))(eP:aZ)(x:(Int×aY×(List Int)))(c:St→Option (Ex×St)),den um zF (aV ET 0) (LM nY HZ fK eP x) (cu wz.kp wz.kx c)=(qL fK eP x).run (cB (LM nY HZ fK eP) (JC nY HZ fK eP) c):=fun _ _ _ _ _ _=>by
 kernel_rfl
theorem abf:bU um zF (aV ET 0) wz:=dh fun _ _ _=>fJ<|fJ<|fJ<|jk<|aH fun _=>bN fun _ _=>tM<|bN fun _ _=>ku fun _=>bN fun _ _=>ku fun _=>bN fun _ _=>tM<|fun h _ e18 _ e14 _ e10 _ e7 e5 e4 e3 e2 e1=>bS (Xa _ _ _ _) h (by subst_vars;exact aP rfl rfl ⟨e1,e2,e3,e4,e5,trivial⟩ ⟨e7,e10,e14,e18,trivial⟩)
def ajV:FnI:=fnI Try.f11 zF
def Sw (_:Bool) (_:Bool) (_:List Int) (_:(Int×(Int×Unit))) (_:aZ):(List Int)→ay:=fun r=>⟨(.ref (1,0) []),[],[⟨false,.il,.own,r⟩]⟩
theorem ahh:∀(zp0 zp1:Bool)(p0:List Int)(p1:(Int×(Int×Unit)))(p2:aZ),bR um ajV ⟨[(.imm zp0 (.sl (.int .u8)) p0),(.imm true aL p1),(.imm zp1 bQ p2)],[]⟩=(W9 p0 p1 p2).run fun r=>some (Sw zp0 zp1 p0 p1 p2 r):=fun _ _ _ _ _=>by kernel_rfl
def ajU (av:List AV) (rs:List Root):Tre ay:=
 aD av fun a0_ av0=>
 aD av0 fun a1_ av1=>
 aD av1 fun a2_ av2=>
 aM av2<|
 aM rs<|
 bG (.sl (.int .u8)) a0_ fun z2 d1=>
 aA true aL a1_ fun d3=>
 bG bQ a2_ fun z5 d4=>
 .mat (ES d1 d3 d4) fun r=>.ret (Sw z2 z5 d1 d3 d4 r)
def Y9:Ctr:=dO [] ajU
theorem ahi:Contract Try.prog .none 11 Y9:=aC (V:=um) aW (ak uy ahR (ak zM akZ (ak fO aep (ak acw awh aJ)))) Try.func11 (bL (n:=2) fun k hk=>by
 match k,hk with
 |0,_=>exact bO (id:=4) abf
 |1,_=>exact bO (id:=8) abg) fun _ _ _=>aK fun _ _=>aK fun _ _=>aK fun _ _=>bA<|bA<|dM fun _ _=>aH fun _=>dM fun _ _=>fun h=>by intros;subst_vars;exact bB (ahh _ _ _ _ _) h
-- shared
theorem aqM{n q:Nat}(hq:q<n)(e:Nat):(zR n q).getD e 0=if q=e then 1 else 0:=by
 unfold zR
 rw [List.getD_eq_getElem?_getD,List.getElem?_set,List.length_replicate]
 by_cases h:q=e
 ·rw [if_pos h,if_pos h,if_pos (by omega)];rfl
 ·rw [if_neg h,if_neg h,List.getElem?_replicate];split<;>rfl
theorem as1{a b:List Int}(hl:a.length=b.length)(h:∀e,a.getD e 0=b.getD e 0):a=b:=by
 refine List.ext_getElem hl fun i h1 h2=>?_
 have:=h i
 rwa [List.getD_eq_getElem?_getD,List.getD_eq_getElem?_getD,List.getElem?_eq_getElem h1,List.getElem?_eq_getElem h2] at this
theorem ahZ{a:List Int}{e:Nat}(h:a.length≤e):a.getD e 0=0:=by
 rw [List.getD_eq_getElem?_getD,List.getElem?_eq_none h];rfl
theorem as0{f:TF3}(hf:aG f=true){n:Nat}{L:List (List Int)}(h:GR f n L)(hlen:(JW f n L).length=n){x:List Int}:¬aiG f n L x:=by
 rintro ⟨hx,⟨q,hq⟩,h0⟩
 have h1:=(XF hf h hx.2).2 h0
 obtain ⟨p,hI,hl⟩:=yw.all hf (Nat.le_refl n) h
 have hla:=aeo hf (m:=n) h
 have hp:=hI.full (by omega)
 have hal:=hI.al
 have hqn:q<n:=Classical.byContradiction fun hn=>hq (ahZ (by rw [hx.1];omega))
 obtain ⟨r,hr,hok,hc⟩:=hI.row (i:=q) (by omega)
 have hru:r=zR n q:=by
  refine as1 (hok.1.trans (Mk hf n q).1.symm) fun e=>?_
  rw [aqM hqn e]
  by_cases he:e<n
  ·rw [hc,hI.dia e e (by rw [hp,List.getElem?_range he]) q (by omega)]
  ·rw [ahZ (by rw [hok.1];omega),if_neg (by omega)]
 have h2:=h1 r (List.mem_of_getElem? hr)
 rw [hru,Z4 hf n q hx.2 hx.1.symm hqn] at h2
 exact hq h2
theorem aiL{F:FO}{out:List Nat}{x y:Nat}(h:F.lp out y=0):F.lp (kE F out x) y=0:=by
 unfold kE
 split
 ·exact h
 ·rw [F.aft (q:=F.jZ [F.lp out x,1] out) (fun i=>fQ _ i),F.RV,h,F.TP]
theorem aku{F:FO}{out:List Nat}{x:Nat}:F.lp (kE F out x) x=0:=by
 unfold kE
 split
 ·rename_i h;exact h
 ·rw [F.aft (q:=F.jZ [F.lp out x,1] out) (fun i=>fQ _ i),F.RV]
  have hv:=F.YI out x
  simp only [FO.lp]
  rw [F.comm 1,F.one _ (F.ap6 _),Nat.xor_zero]
  exact Nat.xor_self _
theorem ahE{F:FO}:∀(xs:List Nat){x:Nat},x∈xs→F.lp (jF F xs) x=0:=by
 have keep:∀(xs out:List Nat){x:Nat},F.lp out x=0→F.lp (xs.foldl (kE F) out) x=0:=by
  intro xs
  induction xs with
  |nil=>intro out x h;exact h
  |cons y xs ih=>intro out x h;exact ih _ (aiL h)
 have key:∀(xs out:List Nat){x:Nat},x∈xs→F.lp (xs.foldl (kE F) out) x=0:=by
  intro xs
  induction xs with
  |nil=>intro out x h;cases h
  |cons y xs ih=>
   intro out x h
   rcases List.mem_cons.1 h with rfl|h
   ·exact keep xs _ aku
   ·exact ih _ h
 intro xs x h
 exact key xs [1] h
theorem awD{F:FO}{V xs:List Nat}(h:∀x∈xs,F.lp V x=0){v:Nat}(hv:Sp xs v):F.lp V v=0:=by
 induction hv with
 |zero=>exact F.TP V
 |add hr _ ih=>rw [F.NQ,h _ hr,ih];rfl
theorem aw0{L us:List Nat}{f:TF3}(hf:aG f=true)(hL:inL (FOf f hf) L)(hl:L.length≤1000)(h:∀x∈L,Sp us x):rkN L≤us.length:=by
 obtain ⟨P,c,hR,hP,hs⟩:=GI hf hL hl
 have hn:=hR.nodup
 rw [hP] at hn
 have h1:=YP (l':=lQ us) hn fun x hx=>((((hs x).2 (OD hx)).trans h):Sp us x).sums
 rw [xA,xA] at h1
 exact (Nat.pow_le_pow_iff_right (by decide)).1 h1
section
variable {f : TF3} {hf : aG f = true}
theorem atz{P W m:List Nat}{k t:Nat}(_:inL (FOf f hf) P)(hW:inL (FOf f hf) W)(hl:W.length=P.length)(hpl:P.length≤1000)(hk:1≤k)(hm:OJ hf P W k t m) :
  ∃V N,V.length=t+1∧N.length=t+k∧inL (FOf f hf) V∧inL (FOf f hf) N∧(∃c∈V++N,c≠0)∧(∀p∈P.zip W,(FOf f hf).lp V p.2=(FOf f hf).lp N p.1)∧∀i,cf N i=(FOf f hf).fD V (cf m) i:=by
 obtain ⟨h1,h2,h3⟩:=hm
 have hei:=(FOf f hf).adF (pts:=P) (m:=m) hW
 have hel:=(FOf f hf).QF (m:=m) hl
 have hE:=GI hf hei (by omega)
 generalize hes:ech ((FOf f hf).MH P W m)=es at hE
 have hesl:es.length≤t:=by unfold rkN at h3;rwa [hes] at h3
 obtain ⟨a1,a2,a3,a4⟩:=adD (FOf f hf) es
 have hmn:m≠[]:=by intro h;rw [h] at h1;simp at h1;omega
 have hap:=List.length_pos_iff.2 a4
 have hcl:=(FOf f hf).AJ (jF (FOf f hf) es) m a4 hmn
 have hVl:(rU (t+1) (jF (FOf f hf) es)).length=t+1:=LG (by omega)
 refine ⟨rU (t+1) (jF (FOf f hf) es),rU (t+k) ((FOf f hf).jZ (jF (FOf f hf) es) m),hVl,LG (by omega),adP a1,adP (RP _ _),?_,fun p hp=>?_,fun i=>?_⟩
 ·have hlast:=a3 a4
  refine ⟨_,List.mem_append_left _ (List.mem_append_left _ (List.mem_of_getElem? (jH (show (jF (FOf f hf) es).length-1<(jF (FOf f hf) es).length by omega)))),hlast⟩
 ·rw [(FOf f hf).aft (IC _ _),(FOf f hf).aft (p:=rU (t+k) _) (IC _ _),FO.RV]
  have he:p.2^^^(FOf f hf).lp m p.1∈(FOf f hf).MH P W m:=List.mem_map.2 ⟨p,hp,rfl⟩
  obtain ⟨Q,c,hR,hQ,hs⟩:=hE
  have h0:=awD (F:=FOf f hf) (fun x hx=>ahE es hx) ((hs _).1 (Sp.mem he))
  rw [FO.NQ] at h0
  calc (FOf f hf).lp (jF (FOf f hf) es) p.2=((FOf f hf).lp (jF (FOf f hf) es) p.2^^^(FOf f hf).lp (jF (FOf f hf) es) ((FOf f hf).lp m p.1))^^^(FOf f hf).lp (jF (FOf f hf) es) ((FOf f hf).lp m p.1):=by rw [Nat.xor_assoc,Nat.xor_self,Nat.xor_zero]
   _=_:=by rw [h0,Nat.zero_xor]
 ·rw [IC,FO.Fv]
  exact (FOf f hf).IE _ _ _ _ fun j=>(IC _ _ j).symm
theorem arj{P W:List Nat}{k t:Nat}{V N:List Nat}(hP:inL (FOf f hf) P)(hW:inL (FOf f hf) W)(hV:V.length=t+1)(hN:N.length=t+k)(hVi:inL (FOf f hf) V)(hNi:inL (FOf f hf) N)(hx:∃c∈V++N,c≠0)(ho:∀p∈P.zip W,(FOf f hf).lp V p.2=(FOf f hf).lp N p.1):aiG f (2*t+1+k) (Pd hf t k P W) (aR (V++N)):=by
 refine ⟨⟨by rw [aN,List.length_append];omega,apn hf (zu hVi hNi)⟩,?_,fun r hr=>?_⟩
 ·obtain ⟨c,hc,hc0⟩:=hx
  obtain ⟨q,hq⟩:=List.getElem?_of_mem hc
  refine ⟨q,?_⟩
  rw [List.getD_eq_getElem?_getD,fT hq]
  show (c:Int)≠0
  omega
 ·obtain ⟨p,hp,rfl⟩:=List.mem_map.1 hr
  have hz:=List.of_mem_zip (a:=p.1) (b:=p.2) hp
  have hri:inL (FOf f hf) (ajP hf t k p.1 p.2):=zu (TU hf _ (hW _ hz.2)) (TU hf _ (hP _ hz.1))
  have e1:=(FOf f hf).aiX V p.2
  have e2:=(FOf f hf).aiX N p.1
  rw [hV] at e1
  rw [hN] at e2
  rw [(asN hf hri (zu hVi hNi)).1]
  unfold ajP
  rw [FO.akR _ _ _ _ _ (by rw [FO.Hz,hV]),e1,e2,ho p hp,Nat.xor_self]
  rfl
theorem alZ{P W m:List Nat}{k t:Nat}(hi:FO.oK P)(hP:inL (FOf f hf) P)(hW:inL (FOf f hf) W)(hl:W.length=P.length)(hpl:P.length≤1000)(hk:1≤k)(h2:2*t+k≤P.length)(hm:OJ hf P W k t m):VT hf P W k t=some m:=by
 obtain ⟨V,N,hV,hN,hVi,hNi,hx,ho,he⟩:=atz hP hW hl hpl hk hm
 refine ahO (fun hfull=>as0 hf (amj hf hP hW) hfull (arj hP hW hV hN hVi hNi hx ho)) hm fun m' hm'=>?_
 obtain ⟨hn,hall⟩:=ao7 hf hi hP hW hl hpl hk h2 hm' hV hN hVi hNi hx ho
 have hd:Ms (FOf f hf) (dF N) (dF V) (dF m) []:=⟨sJ hm.2.1,fun x hx=>absurd hx List.not_mem_nil,qx m,fun h=>absurd rfl h,fun i=>by
  rw [fQ,he,uZ,Nat.xor_zero,show cf (dF m)=cf m from funext fun j=>fQ m j]
  exact (FOf f hf).IE _ _ _ _ fun j=>(fQ V j).symm⟩
 have:=(hall _ _ hd (List.length_pos_iff.2 hn)).1
 rw [←GD hm'.1,←GD hm.1,this]
end
def WQ (p0:List Int) (p1:List Int):Tre Bool:=
 .cond (xV p0)
  (.ret true)
  (.cond (xV p1)
   (.ret true)
   (.mat (wu p0 5) fun r1=>
   .mat (Oc p1 r1.1 r1.2.1.1) fun r2=>
   .mat (oD (r1.1,(r1.2.2,r1.2.1)) r2) fun r3=>
   .mat (Dl p1 (r1.2.2.length:Int) 3) fun r4=>
   .mat (Dl p1 r1.1.1 3) fun r5=>
   .cond (!decide (r3.1=0))
    (.ret false)
    (let v6:=aF .i64 ((r1.2.2.length:Int)-r1.2.1.1)
    let v7:=aF .i64 (v6-(r4.length:Int))
    .cond (decide (v7<0))
     (.mat (gD (r1.1,(r1.2.2,r1.2.1)) r3.2 ((r1.2.2.length:Int),(r4,()))) fun r8=>
     .cond (!decide (r8.1=4))
      (.ret false)
      (let v9:=aF .i64 (v6-(r5.length:Int))
      .cond (decide (v9<0))
       (.mat (dV (r1.1,(r1.2.2,r1.2.1)) r3.2 (r1.1.1,(r5,()))) fun r10=>
       .ret (decide (r10.1=4)))
       (.mat (uq p0 (r1.2.2.length:Int) (r1.1.1,(r5,()))) fun r11=>
       let v12:=aF .i64 (Int.tdiv v9 2)
       .mat (sS p1 r1.1 (r1.2.2.length:Int) v12) fun r13=>
       .mat (oW r11 r13) fun r14=>
       .mat (oW r3.2 r14) fun r15=>
       .mat (dV (r1.1,(r1.2.2,r1.2.1)) r15 (r1.1.1,(r5,()))) fun r16=>
       .cond (decide (r16.1=0))
        (.mat (wV r16.2 r2) fun r17=>
        .ret r17)
        (.ret false))))
     (.mat (ES p0 r1.1 ((r1.2.2.length:Int),(r4,()))) fun r18=>
     let v19:=aF .i64 (Int.tdiv v7 2)
     .mat (sS p1 r1.1 (r1.2.2.length:Int) v19) fun r20=>
     .mat (oW r18 r20) fun r21=>
     .mat (oW r3.2 r21) fun r22=>
     .mat (gD (r1.1,(r1.2.2,r1.2.1)) r22 ((r1.2.2.length:Int),(r4,()))) fun r23=>
     .cond (!decide (r23.1=0))
      (.ret false)
      (.mat (wV r23.2 r2) fun r24=>
      .cond (!r24)
       (.ret false)
       (let v25:=aF .i64 (v6-(r5.length:Int))
       .cond (decide (v25<0))
        (.mat (dV (r1.1,(r1.2.2,r1.2.1)) r3.2 (r1.1.1,(r5,()))) fun r26=>
        .ret (decide (r26.1=4)))
        (.mat (uq p0 (r1.2.2.length:Int) (r1.1.1,(r5,()))) fun r27=>
        let v28:=aF .i64 (Int.tdiv v25 2)
        .mat (sS p1 r1.1 (r1.2.2.length:Int) v28) fun r29=>
        .mat (oW r27 r29) fun r30=>
        .mat (oW r3.2 r30) fun r31=>
        .mat (dV (r1.1,(r1.2.2,r1.2.1)) r31 (r1.1.1,(r5,()))) fun r32=>
        .cond (decide (r32.1=0))
         (.mat (wV r32.2 r2) fun r33=>
         .ret r33)
         (.ret false))))))))
def NK (p0:List Int) (p1:List Int):Option Bool:=(WQ p0 p1).run some
-- law
theorem akD{xs:List Int}(h:(K.sl (.int .u8)).wf xs):∀x∈xs,0≤x∧x≤255:=fun x hx=>by
 have h1:(Lit.int .u8 x).wf=true:=h.2 x hx
 simp [Lit.wf,IntKind.min,IntKind.max,IntKind.signed,IntKind.bits] at h1
 omega
def pG(a b:List Nat):List Nat:=(a.zip b).map fun p=>p.1^^^p.2
theorem Mr{a b:List Nat}(h:a.length=b.length):(pG a b).length=a.length:=by unfold pG;rw [List.length_map,List.length_zip,h,Nat.min_self]
theorem am0{a b:List Nat}{v:Nat}(h:v∈pG a b):∃x y,x∈a∧y∈b∧v=x^^^y:=by
 obtain ⟨p,hp,rfl⟩:=List.mem_map.1 h
 have:=List.of_mem_zip (a:=p.1) (b:=p.2) hp
 exact ⟨p.1,p.2,this.1,this.2,rfl⟩
theorem TY{F:FO}{a b:List Nat}(ha:inL F a)(hb:inL F b):inL F (pG a b):=fun v hv=>by
 obtain ⟨x,y,hx,hy,rfl⟩:=am0 hv
 exact F.xlt _ _ (ha x hx) (hb y hy)
theorem ZF{f:TF3}(hf:aG f=true):∀{a b:List Nat},inL (FOf f hf) a→inL (FOf f hf) b→avW (aR a) (aR b)=aR (pG a b):=by
 intro a
 induction a with
 |nil=>intro b _ _;rfl
 |cons x a ih=>
  intro b ha hb
  cases b with
  |nil=>rfl
  |cons y b=>
   have h1:=ih (b:=b) (fun z hz=>ha z (List.mem_cons_of_mem _ hz)) fun z hz=>hb z (List.mem_cons_of_mem _ hz)
   show iF .i64 (x:Int) (y:Int)::avW (aR a) (aR b)=aR ((x^^^y)::pG a b)
   rw [h1,OI hf (ha x (List.mem_cons_self ..)) (hb y (List.mem_cons_self ..))]
   rfl
theorem av7{φ:Nat→Nat}:∀{P V:List Nat}{p:Nat×Nat},p∈P.zip (pG (P.map φ) V)→∃v∈V,p.2=φ p.1^^^v:=by
 intro P
 induction P with
 |nil=>intro V p h;cases h
 |cons x P ih=>
  intro V p h
  cases V with
  |nil=>simp [pG] at h
  |cons v V=>
   rcases List.mem_cons.1 (show p∈(x,φ x^^^v)::P.zip (pG (P.map φ) V) from h) with rfl|h
   ·exact ⟨v,List.mem_cons_self ..,rfl⟩
   ·obtain ⟨v',h1,h2⟩:=ih h
    exact ⟨v',List.mem_cons_of_mem _ h1,h2⟩
theorem xW{f:TF3}{hf:aG f=true}(m P:List Nat):inL (FOf f hf) (P.map ((FOf f hf).lp m)):=fun x hx=>by
 obtain ⟨y,_,rfl⟩:=List.mem_map.1 hx
 exact (FOf f hf).YI _ _
theorem XM{f:TF3}(hf:aG f=true){P W ns:List Nat}{k:Nat}{c:Int}(hg:Ib (f,aR P,(k:Int),())=true)(hs:abC (c,up ns,())=true)(hW:inL (FOf f hf) W)(hl:W.length=P.length):abQ (f,aR P,(k:Int),()) (aR W) (c,up ns,()) c=if P.length<k+ns.length then 4 else 0:=by
 have he:nZ f (aR W)=true:=List.all_eq_true.2 fun x hx=>by
  obtain ⟨y,hy,rfl⟩:=List.mem_map.1 hx
  have hyq:=hW y hy
  have h2:((2 ^ f.1.toNat:Nat):Int)=(2:Int) ^ f.1.toNat:=by rw [Int.natCast_pow];rfl
  rw [Iu] at hyq
  rw [iR]
  unfold Ee
  omega
 have hh:XL (f,aR P,(k:Int),()) (aR W)=0:=by
  unfold XL
  rw [if_pos hg,if_pos ⟨by rw [aN];show W.length=(aR P).length;rw [aN,hl],he⟩]
 unfold abQ
 rw [if_pos hg,if_pos hs,if_pos hh,if_pos rfl]
 dsimp only
 rw [aN,fC]
 by_cases h:P.length<k+ns.length
 ·rw [if_pos h,if_pos (by omega)]
 ·rw [if_neg h,if_neg (by omega)]
theorem ai3{g:TF3×List Int×Int×Unit}{w:List Int}{u:Int×List Int×Unit}(hw:w.length≤1048576)(hu:u.2.1.length≤1048576)(h:abQ g w u (g.2.1.length:Int)=4):gD g w u=some (4,[]):=by
 unfold gD yH
 rw [ah (TH g w u _ hw hu),h]
 rfl
theorem ai8{g:TF3×List Int×Int×Unit}{w:List Int}{u:Int×List Int×Unit}(hw:w.length≤1048576)(hu:u.2.1.length≤1048576)(h:abQ g w u g.1.1=4):dV g w u=some (4,[]):=by
 unfold dV yI
 rw [ah (TH g w u _ hw hu),h]
 rfl
theorem ai2{f:TF3}(hf:aG f=true){P m ns A B us:List Nat}{k:Nat}(hg:Ib (f,aR P,(k:Int),())=true)(hs:abC ((P.length:Int),up ns,())=true)(hi:FO.oK P)(hP:inL (FOf f hf) P)(hn:P.length≤5)(hp1:1≤P.length)(hk1:1≤k)(hle:k+ns.length≤P.length)(hns:∀r∈ns,r<2 ^ P.length)(hE:iG ns ns)
  (hm:inL (FOf f hf) m) (hml:m.length=k) (hA:inL (FOf f hf) A) (hAl:A.length=P.length) (hB:inL (FOf f hf) B) (hBl:B.length=P.length) (hz:∀d,d<2 ^ P.length→(∀r∈ns,Uu 5 (r&&&d)=false)→fH d 0 A=0) (hus:us.length≤(P.length-k-ns.length)/2) (hsp:∀e∈B,Sp us e) :
  gD (f,aR P,(k:Int),()) (aR (pG (P.map ((FOf f hf).lp m)) (pG A B))) ((P.length:Int),up ns,())=some (0,aR m):=by
 have hab:(pG A B).length=P.length:=by rw [Mr (by omega),hAl]
 have hWl:(pG (P.map ((FOf f hf).lp m)) (pG A B)).length=P.length:=by rw [Mr (by rw [List.length_map,hab]),List.length_map]
 have hWi:inL (FOf f hf) (pG (P.map ((FOf f hf).lp m)) (pG A B)):=TY (xW m P) (TY hA hB)
 have hh:=XM hf hg hs hWi hWl
 rw [if_neg (by omega)] at hh
 obtain ⟨D,hD1,hD2,hD3,hD4,hD5,hD6⟩:=auS hp1 hn hE hns
 have hpl:(D.map fun d=>fH d 0 P).length=D.length:=List.length_map ..
 have hwl:(D.map fun d=>fH d 0 (pG (P.map ((FOf f hf).lp m)) (pG A B))).length=(D.map fun d=>fH d 0 P).length:=by rw [List.length_map,List.length_map]
 have herr:(FOf f hf).MH (D.map fun d=>fH d 0 P) (D.map fun d=>fH d 0 (pG (P.map ((FOf f hf).lp m)) (pG A B))) m=D.map fun d=>fH d 0 B:=by
  unfold FO.MH
  rw [List.zip_map',List.map_map]
  refine List.map_congr_left fun d hd=>?_
  show fH d 0 (pG (P.map ((FOf f hf).lp m)) (pG A B))^^^(FOf f hf).lp m (fH d 0 P)=fH d 0 B
  unfold pG
  rw [amM d _ _ 0 (by rw [List.length_map];exact hab.symm),amM d A B 0 (by omega),hz d (hD4 d hd) (hD6 d hd),Nat.zero_xor,←auc ((FOf f hf).TP m) ((FOf f hf).NQ m) d P 0]
  calc (FOf f hf).lp m (fH d 0 P)^^^fH d 0 B^^^(FOf f hf).lp m (fH d 0 P)=fH d 0 B^^^((FOf f hf).lp m (fH d 0 P)^^^(FOf f hf).lp m (fH d 0 P)):=by ac_rfl
   _=fH d 0 B:=by rw [Nat.xor_self,Nat.xor_zero]
 have hnear:OJ hf (D.map fun d=>fH d 0 P) (D.map fun d=>fH d 0 (pG (P.map ((FOf f hf).lp m)) (pG A B))) k (((D.map fun d=>fH d 0 P).length-k)/2) m:=by
  refine ⟨hml,hm,?_⟩
  rw [herr]
  have:=aw0 hf (Dj hB D) (by rw [List.length_map];omega) fun x hx=>by
   obtain ⟨d,_,rfl⟩:=List.mem_map.1 hx
   exact (avF d B B 0 fun _ h=>h).trans hsp
  rw [hpl,show D.length-k=P.length-k-ns.length by omega]
  omega
 have hdec:=alZ (aiB hi hD5 hD4) (Dj hP D) (Dj hWi D) hwl (by omega) hk1 (by omega) hnear
 rcases an9 hf hh hi hP hWi hWl hp1 hn hk1 hle hns hE hD1 hD3 hD4 hD5 with ⟨m',h1,h2⟩|⟨h1,_⟩
 ·rw [hdec] at h1
  obtain rfl:=Option.some.inj h1
  exact h2
 ·rw [hdec] at h1;cases h1
theorem ai7{f:TF3}(hf:aG f=true){P m ns A B us:List Nat}{k:Nat}(hg:Ib (f,aR P,(k:Int),())=true)(hs:abC (f.1,up ns,())=true)(hi:FO.oK P)(hP:inL (FOf f hf) P)(hn:P.length≤5)(hk1:1≤k)(hle:k+ns.length≤P.length)(hns:inL (FOf f hf) ns)
  (hm:inL (FOf f hf) m) (hml:m.length=k) (hA:∀x∈A,Sp ns x) (hAi:inL (FOf f hf) A) (hAl:A.length=P.length) (hB:inL (FOf f hf) B) (hBl:B.length=P.length) (hus:us.length≤(P.length-k-ns.length)/2) (hsp:∀e∈B,Sp us e) :
  dV (f,aR P,(k:Int),()) (aR (pG (P.map ((FOf f hf).lp m)) (pG A B))) (f.1,up ns,())=some (0,aR m):=by
 have hab:(pG A B).length=P.length:=by rw [Mr (by omega),hAl]
 have hWl:(pG (P.map ((FOf f hf).lp m)) (pG A B)).length=P.length:=by rw [Mr (by rw [List.length_map,hab]),List.length_map]
 have hWi:inL (FOf f hf) (pG (P.map ((FOf f hf).lp m)) (pG A B)):=TY (xW m P) (TY hAi hB)
 have hh:=XM hf hg hs hWi hWl
 rw [if_neg (by omega)] at hh
 obtain ⟨a1,a2,a3,a4⟩:=adD (FOf f hf) ns
 have hmn:m≠[]:=by intro h;rw [h] at hml;simp at hml;omega
 have hap:=List.length_pos_iff.2 a4
 have hcl:=(FOf f hf).AJ (jF (FOf f hf) ns) m a4 hmn
 have hMl:(rU (k+ns.length) ((FOf f hf).jZ (jF (FOf f hf) ns) m)).length=k+ns.length:=LG (by omega)
 have hel:=(FOf f hf).QF (m:=rU (k+ns.length) ((FOf f hf).jZ (jF (FOf f hf) ns) m)) (show ((pG (P.map ((FOf f hf).lp m)) (pG A B)).map ((FOf f hf).lp (jF (FOf f hf) ns))).length=P.length by rw [List.length_map,hWl])
 have hnear:OJ hf P ((pG (P.map ((FOf f hf).lp m)) (pG A B)).map ((FOf f hf).lp (jF (FOf f hf) ns))) (k+ns.length) ((P.length-(k+ns.length))/2) (rU (k+ns.length) ((FOf f hf).jZ (jF (FOf f hf) ns) m)):=by
  refine ⟨hMl,adP (RP _ _),?_⟩
  have:=aw0 hf (us:=us.map ((FOf f hf).lp (jF (FOf f hf) ns))) ((FOf f hf).adF (pts:=P) (m:=rU (k+ns.length) ((FOf f hf).jZ (jF (FOf f hf) ns) m)) (xW (hf:=hf) (jF (FOf f hf) ns) (pG (P.map ((FOf f hf).lp m)) (pG A B)))) (by omega) fun e he=>by
   obtain ⟨p,hp,rfl⟩:=List.mem_map.1 he
   rw [List.zip_map_right] at hp
   obtain ⟨q,hq,rfl⟩:=List.mem_map.1 hp
   obtain ⟨v,hv,hq2⟩:=av7 hq
   obtain ⟨x,y,hx,hy,rfl⟩:=am0 hv
   show Sp _ ((FOf f hf).lp (jF (FOf f hf) ns) q.2^^^(FOf f hf).lp (rU (k+ns.length) ((FOf f hf).jZ (jF (FOf f hf) ns) m)) q.1)
   rw [(FOf f hf).aft (IC _ _),FO.RV,hq2,FO.NQ,FO.NQ,awD (fun x hx=>ahE ns hx) (hA x hx),Nat.zero_xor]
   have h1:=Sp.map ((FOf f hf).TP (jF (FOf f hf) ns)) ((FOf f hf).NQ (jF (FOf f hf) ns)) (hsp y hy)
   rwa [show (FOf f hf).lp (jF (FOf f hf) ns) ((FOf f hf).lp m q.1)^^^(FOf f hf).lp (jF (FOf f hf) ns) y^^^(FOf f hf).lp (jF (FOf f hf) ns) ((FOf f hf).lp m q.1)=(FOf f hf).lp (jF (FOf f hf) ns) y from by
    calc _=(FOf f hf).lp (jF (FOf f hf) ns) y^^^((FOf f hf).lp (jF (FOf f hf) ns) ((FOf f hf).lp m q.1)^^^(FOf f hf).lp (jF (FOf f hf) ns) ((FOf f hf).lp m q.1)):=by ac_rfl
     _=_:=by rw [Nat.xor_self,Nat.xor_zero]]
  rw [List.length_map] at this
  rw [show P.length-(k+ns.length)=P.length-k-ns.length by omega]
  omega
 have hdec:=alZ hi hP (xW (hf:=hf) (jF (FOf f hf) ns) _) (by rw [List.length_map,hWl]) (by omega) (by omega) (by omega) hnear
 rw [←adM] at hh ⊢
 rcases ath hf hh hi hP hWi hWl hn hk1 hle hns with ⟨M,A',R,h1,hd,hR,h2⟩|⟨h1,_⟩
 ·rw [hdec] at h1
  obtain rfl:=Option.some.inj h1
  obtain ⟨rfl,rfl⟩:=hd.uniq a1 a4 a3 hR hm fun i=>by rw [fQ,IC,FO.Fv]
  have:=mo m
  rw [if_pos ⟨rfl,by omega⟩,GD hml] at h2
  exact h2
 ·rw [hdec] at h1;cases h1
theorem agN{f:TF3}(hf:aG f=true){P m ns:List Nat}{k:Nat}{p0 p1:List Int}(hl0:p0.length≤5000)(hl1:p1.length≤5000)(hc0:∀x∈p0,0≤x∧x≤255)(hc1:∀x∈p1,0≤x∧x≤255)(hg:Ib (f,aR P,(k:Int),())=true)(hs:abC (f.1,up ns,())=true)(hi:FO.oK P)(hP:inL (FOf f hf) P)(hn:P.length≤5)(hk1:1≤k)(hk2:k≤P.length)(hns:∀x∈ns,x<2 ^ f.1.toNat)(hm:inL (FOf f hf) m)(hml:m.length=k){v:Int}(hv:v=(P.length:Int)-(k:Int)-(ns.length:Int)) :
  (Tre.cond (decide (v<0)) (.mat (dV (f,(aR P,((k:Int),()))) (aR (P.map ((FOf f hf).lp m))) (f.1,(up ns,()))) fun r10=>.ret (decide (r10.1=4)))
   (.mat (uq p0 (P.length:Int) (f.1,(up ns,()))) fun r11=>
    let v12:=aF .i64 (Int.tdiv v 2)
    .mat (sS p1 f (P.length:Int) v12) fun r13=>
    .mat (oW r11 r13) fun r14=>
    .mat (oW (aR (P.map ((FOf f hf).lp m))) r14) fun r15=>
    .mat (dV (f,(aR P,((k:Int),()))) r15 (f.1,(up ns,()))) fun r16=>
    .cond (decide (r16.1=0)) (.mat (wV r16.2 (aR m)) fun r17=>.ret r17) (.ret false))).run some=some true:=by
 have hd5:=(rA hf)
 have hfd:=iH hf
 obtain ⟨_,_,he,_,_,hnl,_⟩:=adT hs
 have hnl:ns.length≤10:=by
  simp only [Prod.mk.injEq] at he
  have:=congrArg List.length he.2.1
  rw [fC,fC] at this
  omega
 have hX:inL (FOf f hf) ns:=fun x hx=>by rw [Iu];exact hns x hx
 have hwl:(P.map ((FOf f hf).lp m)).length=P.length:=List.length_map ..
 rw [Tre.aB]
 by_cases hneg:v<0
 ·have hh:=XM hf hg hs (xW (hf:=hf) m P) hwl
  rw [if_pos (by omega)] at hh
  rw [decide_eq_true hneg,cond_true,ah (ai8 (by rw [aN,hwl];omega) (by show (up ns).length≤1048576;rw [fC];omega) hh)]
  rfl
 rw [decide_eq_false hneg,cond_false]
 obtain ⟨r11,e11,A,rfl,hAl,hA⟩:=ame (n:=f.1.toNat) hl0 hc0 (M:=P.length) (by omega) (b:=f.1.toNat) (by omega) hns (by omega)
 rw [show ((f.1.toNat:Nat):Int)=f.1 by omega] at e11
 have hv2:aF .i64 (Int.tdiv v 2)=(((P.length-k-ns.length)/2:Nat):Int):=by
  rw [show v=((P.length-k-ns.length:Nat):Int) by omega,show Int.tdiv ((P.length-k-ns.length:Nat):Int) 2=(((P.length-k-ns.length)/2:Nat):Int) from (Int.ofNat_tdiv _ 2).symm]
  exact xU (by omega)
 obtain ⟨r13,e13,B,us,rfl,hBl,hBi,hul,hB⟩:=afz hl1 hc1 hf (n:=P.length) (R:=(P.length-k-ns.length)/2) (by omega) (by omega)
 have hAi:inL (FOf f hf) A:=fun x hx=>by rw [Iu];exact aug hns (hA x hx)
 have hab:(pG A B).length=P.length:=by rw [Mr (by omega),hAl]
 rw [ah e11]
 dsimp only
 rw [hv2,ah e13,ah (XH (by rw [fC,aN];omega) (by rw [fC];omega)),←adM,ZF hf hAi hBi,ah (XH (by rw [aN,aN,hwl,hab]) (by rw [aN];omega)),ZF hf (xW m P) (TY hAi hBi),ah (ai7 hf hg hs hi hP hn hk1 (by omega) hX hm hml hA hAi hAl hBi hBl hul hB),Tre.aB,decide_eq_true rfl,cond_true,ah (ahV (by rw [aN];omega)),Tre.aI]
theorem afi(p0 p1:List Int)(hw0:(K.sl (.int .u8)).wf p0)(hw1:(K.sl (.int .u8)).wf p1):NK p0 p1=some true:=by
 unfold NK WQ
 rw [Tre.aB]
 by_cases hb0:xV p0=true
 ·rw [hb0];rfl
 rw [Bool.not_eq_true] at hb0
 rw [hb0,cond_false,Tre.aB]
 by_cases hb1:xV p1=true
 ·rw [hb1];rfl
 rw [Bool.not_eq_true] at hb1
 rw [hb1,cond_false]
 have hl0:p0.length≤5000:=by unfold xV at hb0;simp at hb0;omega
 have hl1:p1.length≤5000:=by unfold xV at hb1;simp at hb1;omega
 have hc0:∀x∈p0,0≤x∧x≤255:=akD hw0
 have hc1:∀x∈p1,0≤x∧x≤255:=akD hw1
 obtain ⟨⟨f,kk,pts⟩,e1,hg⟩:=atN hl0 hc0
 obtain ⟨hf,P,k,hge,hP,hi,hn,hk1,hk2⟩:=aey hg
 dsimp only at hg hf hge hP
 simp only [Prod.mk.injEq,true_and] at hge
 obtain ⟨rfl,rfl⟩:=hge
 have hd5:=(rA hf)
 have hfd:=iH hf
 obtain ⟨x,e2,hx1,hx2⟩:=arv hl1 hc1 hf (M:=k) (by omega) (by omega)
 obtain ⟨m,rfl,hm⟩:=adL hf hx2
 rw [aN] at hx1
 obtain ⟨r4,e4,cs,rfl,hcE,hcl,hcs⟩:=afA hl1 hc1 (n:=P.length) (by omega) (by omega)
 obtain ⟨r5,e5,ns,rfl,_,hnl,hnsp⟩:=afA hl1 hc1 (n:=f.1.toNat) (by omega) (by omega)
 rw [show ((f.1.toNat:Nat):Int)=f.1 by omega] at e5 hnsp
 have hwl:(P.map ((FOf f hf).lp m)).length=P.length:=List.length_map ..
 obtain ⟨_,_,he,_,_,hcl2,_⟩:=adT hcs
 have hcl2:cs.length≤10:=by
  simp only [Prod.mk.injEq] at he
  have:=congrArg List.length he.2.1
  rw [fC,fC] at this
  omega
 obtain ⟨_,_,he',_,_,hnl2,_⟩:=adT hnsp
 have hnl2:ns.length≤10:=by
  simp only [Prod.mk.injEq] at he'
  have:=congrArg List.length he'.2.1
  rw [fC,fC] at this
  omega
 have hw6:aF .i64 ((P.length:Int)-(k:Int))=(P.length:Int)-(k:Int):=dG (by omega) (by omega)
 have hw7:aF .i64 ((P.length:Int)-(k:Int)-(cs.length:Int))=(P.length:Int)-(k:Int)-(cs.length:Int):=dG (by omega) (by omega)
 have hw9:aF .i64 ((P.length:Int)-(k:Int)-(ns.length:Int))=(P.length:Int)-(k:Int)-(ns.length:Int):=dG (by omega) (by omega)
 have hsec:=agN hf hl0 hl1 hc0 hc1 hg hnsp hi hP hn hk1 hk2 hnl hm hx1 rfl
 rw [ah e1]
 dsimp only
 rw [ah e2,ah (aoO hf hg hP (by omega) hm hx1 (by omega)),aN,ah e4,ah e5,Tre.aB,decide_eq_true rfl,Bool.not_true,cond_false]
 dsimp only
 rw [fC,fC,hw6,hw7,Tre.aB]
 by_cases hneg:(P.length:Int)-(k:Int)-(cs.length:Int)<0
 ·have hh:=XM hf hg hcs (xW (hf:=hf) m P) hwl
  rw [if_pos (by omega)] at hh
  rw [decide_eq_true hneg,cond_true,ah (ai3 (by rw [aN,hwl];omega) (by show (up cs).length≤1048576;rw [fC];omega) (by dsimp only;rw [aN];exact hh)),Tre.aB,decide_eq_true rfl,Bool.not_true,cond_false]
  rw [hw9]
  exact hsec
 ·rw [decide_eq_false hneg,cond_false]
  obtain ⟨r18,e18,A,rfl,hAl,hAi,hA⟩:=amd hl0 hc0 hf (n:=P.length) (by omega) hn hcl hcl2
  have hv2:aF .i64 (Int.tdiv ((P.length:Int)-(k:Int)-(cs.length:Int)) 2)=(((P.length-k-cs.length)/2:Nat):Int):=by
   rw [show (P.length:Int)-(k:Int)-(cs.length:Int)=((P.length-k-cs.length:Nat):Int) by omega,show Int.tdiv ((P.length-k-cs.length:Nat):Int) 2=(((P.length-k-cs.length)/2:Nat):Int) from (Int.ofNat_tdiv _ 2).symm]
   exact xU (by omega)
  obtain ⟨r20,e20,B,us,rfl,hBl,hBi,hul,hB⟩:=afz hl1 hc1 hf (n:=P.length) (R:=(P.length-k-cs.length)/2) (by omega) (by omega)
  have hab:(pG A B).length=P.length:=by rw [Mr (by omega),hAl]
  rw [ah e18]
  rw [hv2,ah e20,ah (XH (by rw [aN,aN];omega) (by rw [aN];omega)),ZF hf hAi hBi,ah (XH (by rw [aN,aN,hwl,hab]) (by rw [aN];omega)),ZF hf (xW m P) (TY hAi hBi),ah (ai2 hf hg hcs hi hP hn (by omega) hk1 (by omega) hcl hcE hm hx1 hAi hAl hBi hBl hA hul hB),Tre.aB,decide_eq_true rfl,Bool.not_true,cond_false,ah (ahV (by rw [aN];omega)),Tre.aB,Bool.not_true,cond_false]
  rw [hw9]
  exact hsec
def YC:Env:=⟨tau,[(4,aii),(5,Pg),(6,afS),(7,Er),(8,ach),(9,KN),(14,KP),(15,Zb),(12,acf),(10,aik),(13,afl),(11,Y9)],[]⟩
def ajz:FnI:=fnI Try.f3 []
def RS (_:Bool) (_:Bool) (_:List Int) (_:List Int):Bool→ay:=fun r=>⟨(.imm true .bool r),[],[]⟩
theorem ag7:∀(zp0 zp1:Bool)(p0 p1:List Int),bR YC ajz ⟨[(.imm zp0 (.sl (.int .u8)) p0),(.imm zp1 (.sl (.int .u8)) p1)],[]⟩=(WQ p0 p1).run fun r=>some (RS zp0 zp1 p0 p1 r):=fun _ _ _ _=>by kernel_rfl
def ajy (av:List AV) (rs:List Root):Tre ay:=
 aD av fun a0_ av0=>
 aD av0 fun a1_ av1=>
 aM av1<|
 aM rs<|
 bG (.sl (.int .u8)) a0_ fun z2 d1=>
 bG (.sl (.int .u8)) a1_ fun z4 d3=>
 .mat (NK d1 d3) fun r=>.ret (RS z2 z4 d1 d3 r)
def ajA:Ctr:=dO [] ajy
theorem ag8:Contract Try.prog .none 3 ajA:=aC (V:=YC) aW (ak aoj azo (ak abe azp (ak amt azq (ak Sv azr (ak ajX azs (ak XQ azt (ak XT ayb (ak ahk ayc (ak ajT ax9 (ak aon ax7 (ak alK aya (ak ahi ax8 aJ)))))))))))) Try.func3 bP fun _ _ _=>aK fun _ _=>aK fun _ _=>bA<|bA<|dM fun _ _=>dM fun _ _=>fun h=>by intros;subst_vars;exact bB (ag7 _ _ _ _) h
end Go.Proofs.Ytmilokkchghpjaa
