/- Part 4 of the proof of FnNear. -/
import Derived.Test.YtldafhnnnabipaaNw3
set_option maxRecDepth 100000
noncomputable section
namespace Go.Proofs.Ytldafhnnnabipaa
open Go Go.Abs Go.Proofs
def oP (aQ:List Int) (bL:List Int) (bG:Int) (dR:(Int×(Int×Unit))):(Int×(List Int))→Tre ((Int×(List Int)) ⊕ (List Int)):=fun s3=>
 .cond (decide (s3.1<(aQ.length:Int)))
  (.ite (0≤s3.1∧s3.1<(aQ.length:Int))<|
  .mat (aQ[s3.1.toNat]?) fun x1=>
  .ite (0≤s3.1∧s3.1<(bL.length:Int))<|
  .mat (bL[s3.1.toNat]?) fun x2=>
  .mat (eY dR x2 bG) fun r3=>
  .ite ((s3.2.length+1)*8≤bS∧1≤8)<|
  let v4:=s3.2++([jD .i64 x1 r3])
  .ret (.inl (aN .i64 (s3.1+1),v4)))
  (.ret (.inr s3.2))
def Zf (p0:(Int×(Int×Unit))) (p1:List Int) (p2:List Int) (p3:Int):Tre (List Int):=
 .mat (aP (oP p1 p2 p3 p0) (0,[])) fun l5=>
 .ret l5
def Cb (p0:(Int×(Int×Unit))) (p1:List Int) (p2:List Int) (p3:Int):Option (List Int):=(Zf p0 p1 p2 p3).run some
-- more
theorem Xq{f:TF3}(hf:aO f=true){u w:List Int}(hl:u.length=w.length)(hs:u.length≤1000000)(hw:∀y∈w,inF f y){x:Int}(hx:inF f x):Cb f u w x=some (lJ f u w x):=by
 have key:=pR (xs:=u.zip w) (step:=oP u w x f) (fun (i:Nat) (acc:List Int)=>((i:Int),acc)) (fun _ acc p=>.inl (acc++[jD .i64 p.1 (fZ f p.2 x)])) id (fun i acc=>acc.length=i) (by
  intro i acc p hp hi
  have hlt:=(List.getElem?_eq_some_iff.1 hp).1
  rw [List.length_zip] at hlt
  obtain ⟨p1,p2⟩:=p
  rw [List.getElem?_zip_eq_some] at hp
  obtain ⟨h1,h2⟩:=hp
  refine ⟨?_,fun a ha=>?_⟩
  ·unfold oP
   dsimp only
   rw [Tre.aF,decide_eq_true (by omega),cond_true,Tre.run_ite,if_pos (by omega),Int.toNat_natCast,ah h1,Tre.run_ite,if_pos (by omega),ah h2,ah (anE hf (hw _ (List.mem_of_getElem? h2)) hx),Tre.run_ite,if_pos (by unfold bS;omega),Tre.aK,aV (by omega)]
  ·cases ha;simp [hi]) (by
  intro acc _
  unfold oP
  dsimp only
  rw [Tre.aF,decide_eq_false (by rw [List.length_zip];omega),cond_false]
  rfl) (u.zip w) 0 [] rfl (Nat.zero_le _) rfl
 rw [QN] at key
 have key:aP (oP u w x f) (0,[])=some (lJ f u w x):=key
 unfold Cb Zf
 rw [ah key]
 rfl
def Ip:Env:=⟨tau,[(190,Md)],[(1000000,[((10,0),[],false)])]⟩
def aaA:Code:=(Try.f132.body).getD .skip
def Ni (eF:Bool) (wN:Bool) (aQ:List Int) (bL:List Int) (bG:Int) (dR:(Int×(Int×Unit))):(Int×(List Int))→St:=fun x=>bR [(1,(.imm eF .il aQ)),(2,(.imm wN .il bL)),(3,(.i bG)),(4,(.ptr (6,0) [])),(9,(.ref (11,0) [])),(10,(.i x.1))] [((6,0),some ⟨true,aJ,.own,dR⟩),((11,0),some ⟨false,.il,.own,x.2⟩)]
def Kt (_:Bool) (_:Bool) (_:List Int) (_:List Int) (_:Int) (_:(Int×(Int×Unit))):(List Int)→Ex×St:=fun x=>(.exit 0,bR [(9,(.ref (11,0) []))] [((11,0),some ⟨false,.il,.own,x⟩)])
def aec (s:St):Tre (Ex×St):=
 bE .il (s.tmps 1) fun z3 d2=>
 bE .il (s.tmps 2) fun z6 d5=>
 aC true .n (s.tmps 3) fun d8=>
 dB (6,0) [] (s.tmps 4)<|
 fA (11,0) [] (s.tmps 9)<|
 aC true .n (s.tmps 10) fun d12=>
 aW true aJ (s.roots (6,0)) fun m14 d15=>
 asM .own m14<|
 aW false .il (s.roots (11,0)) fun m17 d18=>
 asM .own m17<|
 .mat (aP (oP d2 d5 d8 d15) (d12,d18)) fun x=>.ret (Kt z3 z6 d2 d5 d8 d15 x)
def yM:bB:=⟨([1,2,3,4,9,10],[(6,0),(11,0)]),([9],[(11,0)]),aec⟩
def Qk:List (Nat×bB):=[(3,yM)]
theorem Xr:∀(eF wN:Bool)(aQ bL:List Int)(bG:Int)(dR:(Int×(Int×Unit)))(x:(Int×(List Int)))(c:St→Option (Ex×St)),den Ip Qk (aU aaA 0) (Ni eF wN aQ bL bG dR x) (bY yM.kp yM.kx c)=(oP aQ bL bG dR x).run (bZ (Ni eF wN aQ bL bG dR) (Kt eF wN aQ bL bG dR) c):=fun _ _ _ _ _ _ _ _=>by
 kernel_rfl
theorem abl:bP Ip Qk (aU aaA 0) yM:=dw fun _ _ _=>dI fun _ _=>dI fun _ _=>aM fun _=>fT<|kW<|aM fun _=>bN fun _ _=>tM<|bN fun _ _=>tM<|fun h _ e16 _ e13 e11 e10 e9 e7 e4 e1=>bT (Xr _ _ _ _ _ _) h (by subst_vars;exact aR rfl rfl ⟨e1,e4,e7,e9,e10,e11,trivial⟩ ⟨e13,e16,trivial⟩)
def aky:FnI:=fnI Try.f132 Qk
def Tp (_:Bool) (_:Bool) (_:(Int×(Int×Unit))) (_:List Int) (_:List Int) (_:Int):(List Int)→aA:=fun r=>⟨(.imm true .il r),[],[]⟩
theorem ah4:∀(zp0 zp1:Bool)(p0:(Int×(Int×Unit)))(p1 p2:List Int)(p3:Int),bI Ip aky ⟨[(.imm true aJ p0),(.imm zp0 .il p1),(.imm zp1 .il p2),(.i p3)],[]⟩=(Zf p0 p1 p2 p3).run fun r=>some (Tp zp0 zp1 p0 p1 p2 p3 r):=fun _ _ _ _ _ _=>by kernel_rfl
def akx (av:List AV) (rs:List Root):Tre aA:=
 aB av fun a0_ av0=>
 aB av0 fun a1_ av1=>
 aB av1 fun a2_ av2=>
 aB av2 fun a3_ av3=>
 aL av3<|
 aL rs<|
 aC true aJ a0_ fun d1=>
 bE .il a1_ fun z3 d2=>
 bE .il a2_ fun z5 d4=>
 aC true .n a3_ fun d6=>
 .mat (Cb d1 d2 d4 d6) fun r=>.ret (Tp z3 z5 d1 d2 d4 d6 r)
def aaB:Ctr:=dD [] akx
theorem ah5:Contract Try.prog .none 132 aaB:=aD (V:=Ip) aT (ak Qb alx aI) Try.func132 (bJ (n:=1) fun k hk=>by
 match k,hk with
 |0,_=>exact bM (id:=3) abl) fun _ _ _=>aH fun _ _=>aH fun _ _=>aH fun _ _=>aH fun _ _=>bn<|bn<|aM fun _=>dI fun _ _=>dI fun _ _=>aM fun _=>fun h=>by intros;subst_vars;exact bg (ah4 _ _ _ _ _ _) h
def ko (bL:(List (List Int))):(Int×(List (List Int)))→Tre ((Int×(List (List Int))) ⊕ (List (List Int))):=fun s3=>
 .cond (decide (s3.1<(bL.length:Int)))
  (.ite (0≤s3.1∧s3.1<(bL.length:Int))<|
  .mat (bL[s3.1.toNat]?) fun x1=>
  .mat (Ih x1) fun r2=>
  .ite ((s3.2.length+1)*24≤bS∧1≤24)<|
  .ret (.inl (aN .i64 (s3.1+1),s3.2++([r2]))))
  (.ret (.inr s3.2))
def jl (vE:Int) (vF:(List (List Int))):Int→Tre (Int ⊕ Int):=fun s11=>
 .cond (decide (s11<(vF.length:Int)))
  (.ite (0≤s11∧s11<(vF.length:Int))<|
  .mat (vF[s11.toNat]?) fun x4=>
  .ite (0≤vE∧vE<(x4.length:Int))<|
  .mat (x4[vE.toNat]?) fun x5=>
  .cond (decide (x5=0))
   (.ret (.inl (aN .i64 (s11+1))))
   (.ret (.inr s11)))
  (.ret (.inr s11))
def jm (sH:Int) (oh:Int) (Ar:(Int×(Int×Unit))):(Int×(List (List Int)))→Tre ((Int×(List (List Int))) ⊕ (List (List Int))):=fun s18=>
 .cond (decide (s18.1<(s18.2.length:Int)))
  (.cond (!decide (s18.1=sH))
   (.ite (0≤s18.1∧s18.1<(s18.2.length:Int))<|
   .mat (s18.2[s18.1.toNat]?) fun x15=>
   .ite (0≤oh∧oh<(x15.length:Int))<|
   .mat (x15[oh.toNat]?) fun x16=>
   .cond (!decide (x16=0))
    (.ite (0≤s18.1∧s18.1<(s18.2.length:Int))<|
    .mat (s18.2[s18.1.toNat]?) fun x17=>
    .ite (0≤sH∧sH<(s18.2.length:Int))<|
    .mat (s18.2[sH.toNat]?) fun x18=>
    .ite (0≤s18.1∧s18.1<(s18.2.length:Int))<|
    .mat (s18.2[s18.1.toNat]?) fun x19=>
    .ite (0≤oh∧oh<(x19.length:Int))<|
    .mat (x19[oh.toNat]?) fun x20=>
    .mat (Cb Ar x17 x18 x20) fun r21=>
    .ite (0≤s18.1∧s18.1<(s18.2.length:Int))<|
    .mat (s18.2[s18.1.toNat]?) fun _=>
    let v23:=s18.2.set s18.1.toNat r21
    .ret (.inl (aN .i64 (s18.1+1),v23)))
    (.ret (.inl (aN .i64 (s18.1+1),s18.2))))
   (.ret (.inl (aN .i64 (s18.1+1),s18.2))))
  (.ret (.inr s18.2))
def iR (mK:Int) (mM:(Int×(Int×Unit))):(Int×Int×(List (List Int)))→Tre ((Int×Int×(List (List Int))) ⊕ (Int×(List (List Int)))):=fun s8=>
 .cond (decide (s8.2.1<mK))
  (.mat (aP (jl s8.2.1 s8.2.2) s8.1) fun l6=>
  .cond (decide (l6=(s8.2.2.length:Int)))
   (.ret (.inl (s8.1,aN .i64 (s8.2.1+1),s8.2.2)))
   (.ite (0≤l6∧l6<(s8.2.2.length:Int))<|
   .mat (s8.2.2[l6.toNat]?) fun x7=>
   .ite (0≤s8.1∧s8.1<(s8.2.2.length:Int))<|
   .mat (s8.2.2[s8.1.toNat]?) fun x8=>
   .ite (0≤l6∧l6<(s8.2.2.length:Int))<|
   .mat (s8.2.2[l6.toNat]?) fun _=>
   .ite ((.n:K)=.n∧0≤mK∧mK=mK∧mK*(8:Nat)≤140737488355328∧1≤8)<|
   .ite (0≤s8.2.1∧s8.2.1<(x7.length:Int))<|
   .mat (x7[s8.2.1.toNat]?) fun x10=>
   .mat (dH mM x10) fun r11=>
   .mat (Cb mM (List.replicate mK.toNat (0:Int)) x7 r11) fun r12=>
   .ite (0≤s8.1∧s8.1<((s8.2.2.set l6.toNat x8).length:Int))<|
   .mat ((s8.2.2.set l6.toNat x8)[s8.1.toNat]?) fun _=>
   let v14:=(s8.2.2.set l6.toNat x8).set s8.1.toNat r12
   .mat (aP (jm s8.1 s8.2.1 mM) (0,v14)) fun l24=>
   .ret (.inl (aN .i64 (s8.1+1),aN .i64 (s8.2.1+1),l24))))
  (.ret (.inr (s8.1,s8.2.2)))
def Ml (p0:(Int×(Int×Unit))) (p1:Int) (p2:(List (List Int))):Tre (List (List Int)):=
 .mat (aP (ko p2) (0,[])) fun l3=>
 .mat (aP (iR p1 p0) (0,0,l3)) fun l25=>
 .ite (0≤(0:Int)∧(0:Int)≤l25.1∧l25.1≤(l25.2.length:Int))<|
 .ret ((l25.2.drop 0).take ((l25.1-0).toNat))
def nP (p0:(Int×(Int×Unit))) (p1:Int) (p2:(List (List Int))):Option (List (List Int)):=(Ml p0 p1 p2).run some
-- more
theorem aoW{rows:List (List Int)}(hl:rows.length≤1000000)(hr:∀r∈rows,r.length≤1000000):aP (ko rows) (0,[])=some rows:=by
 have key:=pR (xs:=rows) (step:=ko rows) (fun (i:Nat) (acc:List (List Int))=>((i:Int),acc)) (fun _ acc r=>.inl (acc++[id r])) id (fun i acc=>acc.length=i) (by
  intro i acc r h hi
  have hlt:=(List.getElem?_eq_some_iff.1 h).1
  refine ⟨?_,fun a ha=>?_⟩
  ·unfold ko
   dsimp only
   rw [Tre.aF,decide_eq_true (by omega),cond_true,Tre.run_ite,if_pos (by omega),Int.toNat_natCast,ah h,ah (asv (by have:=hr r (List.mem_of_getElem? h);omega)),Tre.run_ite,if_pos (by unfold bS;omega),Tre.aK,aV (by omega)]
   rfl
  ·cases ha;simp [hi]) (by
  intro acc _
  unfold ko
  dsimp only
  rw [Tre.aF,decide_eq_false (by omega),cond_false]
  rfl) rows 0 [] rfl (Nat.zero_le _) rfl
 rw [QN,List.map_id] at key
 exact key
theorem aoX{c:Nat}{L:List (List Int)}(hc:∀r∈L,c<r.length)(hL:L.length≤1000000):∀(l:List (List Int))(i:Nat),L.drop i=l→i≤L.length →
  aP (jl (c:Int) L) (i:Int)=some (if lF (uF c) i l<0 then (L.length:Int) else lF (uF c) i l):=by
 intro l
 induction l with
 |nil=>
  intro i hl hi
  have:i=L.length:=by have:=List.drop_eq_nil_iff.1 hl;omega
  subst this
  refine fC ?_
  unfold jl
  exact dY
 |cons x l ih=>
  intro i hl hi
  have hx:L[i]?=some x:=by
   have:=congrArg (·[0]?) hl
   simpa using this
  have hlt:=(List.getElem?_eq_some_iff.1 hx).1
  have hcx:=hc x (List.mem_of_getElem? hx)
  obtain ⟨y,hy⟩:∃y,x[c]?=some y:=⟨_,List.getElem?_eq_getElem hcx⟩
  have hn:uF c x = !decide (y=0):=by unfold uF;rw [hy]
  by_cases h0:y=0
  ·have e:lF (uF c) i (x::l)=lF (uF c) (i+1) l:=by simp [lF,hn,h0]
   rw [e,←ih (i+1) (by rw [←List.drop_drop,hl];rfl) (by omega)]
   refine iJ ?_
   unfold jl
   rw [fq hx,Tre.run_ite,if_pos (by omega),Int.toNat_natCast,ah hy,Tre.aF,decide_eq_true h0,cond_true,Tre.aK,aV (by omega)]
  ·have e:lF (uF c) i (x::l)=(i:Int):=by simp [lF,hn,h0]
   rw [e,if_neg (by omega)]
   refine fC ?_
   unfold jl
   rw [fq hx,Tre.run_ite,if_pos (by omega),Int.toNat_natCast,ah hy,Tre.aF,decide_eq_false h0,cond_false,Tre.aK]
theorem amB{f:TF3}(hf:aO f=true){n c a:Nat}{own:List Int}{L:List (List Int)}(hc:c<n)(hn:n≤1000000)(h:GR f n L)(hk:L[a]?=some own)(hL:L.length≤1000000) :
  aP (jm (a:Int) (c:Int) f) (0,L)=some (L.mapIdx (kD f c a own)):=by
 obtain ⟨hol,hof⟩:=Bb h hk
 have hak:=(List.getElem?_eq_some_iff.1 hk).1
 have key:=pR (xs:=L) (step:=jm (a:Int) (c:Int) f) (fun (i:Nat) (acc:List (List Int))=>((i:Int),acc)) (fun i acc r=>.inl (acc.set i (kD f c a own i r))) id (fun i acc=>acc.length=L.length∧acc.drop i=L.drop i∧acc[a]?=some own) (by
  intro i acc r hr hi
  have hlt:=(List.getElem?_eq_some_iff.1 hr).1
  obtain ⟨hr1,hr2⟩:=Bb h hr
  have hai:acc[i]?=some r:=by
   have:=congrArg (·[0]?) hi.2.1
   simpa [hr] using this
  obtain ⟨x,hx⟩:∃x,r[c]?=some x:=⟨_,List.getElem?_eq_getElem (by omega)⟩
  have hxf:=hr2 x (List.mem_of_getElem? hx)
  have hset:acc.set i r=acc:=by
   apply List.ext_getElem?
   intro j
   rw [List.getElem?_set]
   split
   ·rename_i h;subst h;simp [show i<acc.length by omega,←hai]
   ·rfl
  refine ⟨?_,fun b hb=>?_⟩
  ·unfold jm
   dsimp only
   rw [Tre.aF,decide_eq_true (by omega),cond_true,Tre.aF]
   by_cases h1:i=a
   ·rw [decide_eq_true (show (i:Int)=(a:Int) by omega),Bool.not_true,cond_false,Tre.aK,aV (by omega)]
    simp only [kD,hx,h1,decide_true,Bool.true_or,cond_true]
    rw [←h1,hset]
   ·rw [decide_eq_false (show ¬(i:Int)=(a:Int) by omega),Bool.not_false,cond_true,Tre.run_ite,if_pos (by omega),Int.toNat_natCast,ah hai,Tre.run_ite,if_pos (by omega),Int.toNat_natCast,ah hx,Tre.aF]
    by_cases h2:x=0
    ·rw [decide_eq_true h2,Bool.not_true,cond_false,Tre.aK,aV (by omega)]
     simp only [kD,hx,h2,decide_true,Bool.or_true,cond_true]
     rw [hset]
    ·rw [decide_eq_false h2,Bool.not_false,cond_true,Tre.run_ite,if_pos (by omega),ah hai,Tre.run_ite,if_pos (by omega),Int.toNat_natCast,ah hi.2.2,Tre.run_ite,if_pos (by omega),ah hai,Tre.run_ite,if_pos (by omega),ah hx,ah (Xq hf (by omega) (by omega) hof hxf),Tre.run_ite,if_pos (by omega),ah hai,Tre.aK,aV (by omega)]
     simp only [kD,hx,h1,h2,decide_false,Bool.or_self,cond_false]
     have:lJ f r own x=(r.zip own).map fun p=>jD .i64 p.1 (fZ f x p.2):=by
      unfold lJ
      refine List.map_congr_left fun p hp=>?_
      have h1:=List.of_mem_zip (a:=p.1) (b:=p.2) hp
      rw [(zW hf (hof _ h1.2) hxf).2]
     rw [this]
  ·cases hb
   refine ⟨by simp [hi.1],?_,?_⟩
   ·rw [List.drop_set_of_lt (by omega),←List.drop_drop,←List.drop_drop,hi.2.1]
   ·by_cases h1:i=a
    ·subst h1
     rw [List.getElem?_set_self (by omega)]
     rw [hr] at hk;cases hk
     simp only [kD,hx,decide_true,Bool.true_or,cond_true]
    ·rw [List.getElem?_set_ne h1];exact hi.2.2) (by
  rintro acc ⟨hl,_⟩
  unfold jm
  dsimp only
  rw [Tre.aF,decide_eq_false (by omega),cond_false]
  rfl) L 0 L rfl (Nat.zero_le _) ⟨rfl,rfl,hk⟩
 rw [acg _ _ _ _ _ (by simp)] at key
 simpa using key
theorem anK{f:TF3}(hf:aO f=true){x:Int}(hx:inF f x):∀{w:List Int},(∀y∈w,inF f y)→lJ f (List.replicate w.length 0) w x=w.map fun y=>fZ f y x:=by
 intro w
 induction w with
 |nil=>intro _;rfl
 |cons y w ih=>
  intro h
  have:=ih (fun z hz=>h z (List.mem_cons_of_mem _ hz))
  unfold lJ at this ⊢
  simp only [List.length_cons,List.replicate_succ,List.zip_cons_cons,List.map_cons]
  rw [this,Aj hf (zW hf (h y (List.mem_cons_self ..)) hx).1]
theorem aoZ{f:TF3}(hf:aO f=true){n c:Nat}(hc:c<n)(hn:n≤1000000)(s:Nat×List (List Int))(h:GR f n s.2)(hL:s.2.length≤1000000)(ha:s.1≤s.2.length) :
  (iR (n:Int) f ((s.1:Int),(c:Int),s.2)).run some=some (.inl (((iE f c s).1:Int),((c+1:Nat):Int),(iE f c s).2)):=by
 obtain ⟨a,L⟩:=s
 dsimp only at h hL ha
 have hfd:=aoX (c:=c) (fun r hr=>by rw [(h r hr).1];exact hc) hL (L.drop a) a rfl ha
 unfold iR
 dsimp only
 rw [Tre.aF,decide_eq_true (by omega),cond_true,ah hfd,Tre.aF]
 unfold iE
 dsimp only
 rcases wu (uF c) (L.drop a) a with ⟨h1,_⟩|⟨k,row,h1,h2,h3⟩
 ·rw [h1,if_pos (by decide),decide_eq_true rfl,show decide ((-1:Int)<0)=true from rfl,cond_true,cond_true,Tre.aK,aV (by omega)]
 ·have hak:L[a+k]?=some row:=by rw [←h1,List.getElem?_drop]
  have hlt:=(List.getElem?_eq_some_iff.1 hak).1
  obtain ⟨r0,hr0⟩:∃r0,L[a]?=some r0:=⟨_,List.getElem?_eq_getElem (by omega)⟩
  obtain ⟨hrl,hrf⟩:=Bb h hak
  obtain ⟨x,hx,hx0⟩:=ahC h2
  have hxf:=hrf x (List.mem_of_getElem? hx)
  have hxi:=(zT hf hxf).1
  rw [h3,if_neg (by omega),decide_eq_false (by omega),decide_eq_false (by omega),cond_false,cond_false]
  rw [Tre.run_ite,if_pos (by omega),Int.toNat_natCast,ah hak,Tre.run_ite,if_pos (by omega),Int.toNat_natCast,ah hr0,Tre.run_ite,if_pos (by omega),ah hak,Tre.run_ite,if_pos ⟨rfl,by omega,rfl,by omega,by decide⟩,Tre.run_ite,if_pos (by omega),Int.toNat_natCast,ah hx,ah (asP hf hxf),Int.toNat_natCast]
  rw [ah (Xq hf (by simp [hrl]) (by simp;omega) hrf hxi),←hrl,anK hf hxi hrf]
  have hg:(L.set (a+k) r0)[a]?=some r0:=by
   rw [List.getElem?_set]
   split
   ·first|rfl|rw [if_pos (by omega)]
   ·exact hr0
  simp only [List.length_set]
  rw [Tre.run_ite,if_pos (by omega),ah hg]
  have hp:Kg f c (a+k) a L=(L.set (a+k) r0).set a (row.map fun y=>fZ f y (yC f x)):=by
   unfold Kg Jt
   rw [hak,hr0]
   simp only [hx]
  have hpg:=abH (c:=c) (k:=a+k) (a:=a) hf h
  rw [hp] at hpg ⊢
  have hpa:((L.set (a+k) r0).set a (row.map fun y=>fZ f y (yC f x)))[a]?=some (row.map fun y=>fZ f y (yC f x)):=List.getElem?_set_self (by simp;omega)
  generalize hG:(L.set (a+k) r0).set a (row.map fun y=>fZ f y (yC f x))=G at hpg hpa
  rw [ah (amB hf hc hn hpg.1 hpa (by omega)),Tre.aK,aV (by omega),aV (by omega)]
  unfold xO
  rw [hpa]
theorem aoY{f:TF3}(hf:aO f=true){n:Nat}(hn:n≤1000000):∀(m c:Nat)(s:Nat×List (List Int)),c+m=n→GR f n s.2→s.2.length≤1000000→s.1≤s.2.length→aP (iR (n:Int) f) ((s.1:Int),(c:Int),s.2)=some (((jM f c m s).1:Int),(jM f c m s).2):=by
 intro m
 induction m with
 |zero=>
  intro c s hc h hL ha
  have hc:c=n:=hc
  subst hc
  refine fC ?_
  unfold iR
  exact dY
 |succ m ih=>
  intro c s hc h hL ha
  rw [iJ (aoZ hf (by omega) hn s h hL ha)]
  have h1:=KW (c:=c) hf h ha
  exact ih (c+1) _ (by omega) h1.1 (by omega) (by omega)
theorem anC{f:TF3}(hf:aO f=true){n:Nat}(hn:n≤1000000){L:List (List Int)}(h:GR f n L)(hL:L.length≤1000000):nP f (n:Int) L=some (TR f n L):=by
 have hl:=aoY hf hn n 0 (0,L) (by omega) h hL (Nat.zero_le _)
 have hk:=Eb hf n 0 (0,L) h (Nat.zero_le _)
 have hl:aP (iR (n:Int) f) (0,0,L)=_:=hl
 unfold nP Ml
 rw [ah (aoW hL (fun r hr=>by rw [(h r hr).1];exact hn)),ah hl,Tre.run_ite,if_pos (by have:=hk.2.1;have:=hk.2.2;dsimp only at *;omega),Tre.aK]
 unfold TR
 simp
def gQ:Env:=⟨tau,[(188,aao),(133,P8),(132,aaB)],[(2,[((9,0),[],true)])]⟩
def jI:Code:=(Try.f130.body).getD .skip
def Fv (eF:Bool) (aQ:Int) (bL:(List (List Int))) (j4:(Int×(Int×Unit))):(Int×(List (List Int)))→St:=fun x=>bR [(1,(.i aQ)),(2,(.imm eF (.sl .il) bL)),(3,(.ptr (5,0) [])),(7,(.ref (9,0) [])),(8,(.i x.1))] [((5,0),some ⟨true,aJ,.own,j4⟩),((9,0),some ⟨false,(.sl .il),(.sl (.imm true)),x.2⟩)]
def Dy (_:Bool) (aQ:Int) (_:(List (List Int))) (j4:(Int×(Int×Unit))):(List (List Int))→Ex×St:=fun x=>(.exit 0,bR [(1,(.i aQ)),(3,(.ptr (5,0) [])),(7,(.ref (9,0) []))] [((5,0),some ⟨true,aJ,.own,j4⟩),((9,0),some ⟨false,(.sl .il),(.sl (.imm true)),x⟩)])
def Xw (s:St):Tre (Ex×St):=
 aC true .n (s.tmps 1) fun d2=>
 bE (.sl .il) (s.tmps 2) fun z5 d4=>
 dB (5,0) [] (s.tmps 3)<|
 fA (9,0) [] (s.tmps 7)<|
 aC true .n (s.tmps 8) fun d9=>
 aW true aJ (s.roots (5,0)) fun m11 d12=>
 asM .own m11<|
 aW false (.sl .il) (s.roots (9,0)) fun m14 d15=>
 asM (.sl (.imm true)) m14<|
 .mat (aP (ko d4) (d9,d15)) fun x=>.ret (Dy z5 d2 d4 d12 x)
def qJ:bB:=⟨([1,2,3,7,8],[(5,0),(9,0)]),([1,3,7],[(5,0),(9,0)]),Xw⟩
def Dw (KX:Int) (KY:Int) (vE:Int) (KZ:(Int×(Int×Unit))) (vF:(List (List Int))):Int→St:=fun x=>bR [(1,(.i KX)),(3,(.ptr (5,0) [])),(7,(.ref (9,0) [])),(9,(.i KY)),(10,(.i vE)),(11,(.i x))] [((5,0),some ⟨true,aJ,.own,KZ⟩),((9,0),some ⟨false,(.sl .il),(.sl (.imm true)),vF⟩)]
def Ci (KX:Int) (KY:Int) (vE:Int) (KZ:(Int×(Int×Unit))) (vF:(List (List Int))):Int→Ex×St:=fun x=>(.exit 4,bR [(1,(.i KX)),(3,(.ptr (5,0) [])),(7,(.ref (9,0) [])),(9,(.i KY)),(10,(.i vE)),(11,(.i x))] [((5,0),some ⟨true,aJ,.own,KZ⟩),((9,0),some ⟨false,(.sl .il),(.sl (.imm true)),vF⟩)])
def Vd (s:St):Tre (Ex×St):=
 aC true .n (s.tmps 1) fun d2=>
 dB (5,0) [] (s.tmps 3)<|
 fA (9,0) [] (s.tmps 7)<|
 aC true .n (s.tmps 9) fun d6=>
 aC true .n (s.tmps 10) fun d8=>
 aC true .n (s.tmps 11) fun d10=>
 aW true aJ (s.roots (5,0)) fun m12 d13=>
 asM .own m12<|
 aW false (.sl .il) (s.roots (9,0)) fun m15 d16=>
 asM (.sl (.imm true)) m15<|
 .mat (aP (jl d8 d16) d10) fun x=>.ret (Ci d2 d6 d8 d13 d16 x)
def oU:bB:=⟨([1,3,7,9,10,11],[(5,0),(9,0)]),([1,3,7,9,10,11],[(5,0),(9,0)]),Vd⟩
def Dx (K9:Int) (sH:Int) (oh:Int) (Ar:(Int×(Int×Unit))):(Int×(List (List Int)))→St:=fun x=>bR [(1,(.i K9)),(3,(.ptr (5,0) [])),(7,(.ref (9,0) [])),(9,(.i sH)),(10,(.i oh)),(13,(.i x.1))] [((5,0),some ⟨true,aJ,.own,Ar⟩),((9,0),some ⟨false,(.sl .il),(.sl (.imm true)),x.2⟩)]
def Cj (K9:Int) (sH:Int) (oh:Int) (Ar:(Int×(Int×Unit))):(List (List Int))→Ex×St:=fun x=>(.exit 6,bR [(1,(.i K9)),(3,(.ptr (5,0) [])),(7,(.ref (9,0) [])),(9,(.i sH)),(10,(.i oh))] [((5,0),some ⟨true,aJ,.own,Ar⟩),((9,0),some ⟨false,(.sl .il),(.sl (.imm true)),x⟩)])
def Ve (s:St):Tre (Ex×St):=
 aC true .n (s.tmps 1) fun d2=>
 dB (5,0) [] (s.tmps 3)<|
 fA (9,0) [] (s.tmps 7)<|
 aC true .n (s.tmps 9) fun d6=>
 aC true .n (s.tmps 10) fun d8=>
 aC true .n (s.tmps 13) fun d10=>
 aW true aJ (s.roots (5,0)) fun m12 d13=>
 asM .own m12<|
 aW false (.sl .il) (s.roots (9,0)) fun m15 d16=>
 asM (.sl (.imm true)) m15<|
 .mat (aP (jm d6 d8 d13) (d10,d16)) fun x=>.ret (Cj d2 d6 d8 d13 x)
def oV:bB:=⟨([1,3,7,9,10,13],[(5,0),(9,0)]),([1,3,7,9,10],[(5,0),(9,0)]),Ve⟩
def Fw (mK:Int) (mM:(Int×(Int×Unit))):(Int×Int×(List (List Int)))→St:=fun x=>bR [(1,(.i mK)),(3,(.ptr (5,0) [])),(7,(.ref (9,0) [])),(9,(.i x.1)),(10,(.i x.2.1))] [((5,0),some ⟨true,aJ,.own,mM⟩),((9,0),some ⟨false,(.sl .il),(.sl (.imm true)),x.2.2⟩)]
def Dz (_:Int) (_:(Int×(Int×Unit))):(Int×(List (List Int)))→Ex×St:=fun x=>(.exit 2,bR [(7,(.ref (9,0) [])),(9,(.i x.1))] [((9,0),some ⟨false,(.sl .il),(.sl (.imm true)),x.2⟩)])
def Xx (s:St):Tre (Ex×St):=
 aC true .n (s.tmps 1) fun d2=>
 dB (5,0) [] (s.tmps 3)<|
 fA (9,0) [] (s.tmps 7)<|
 aC true .n (s.tmps 9) fun d6=>
 aC true .n (s.tmps 10) fun d8=>
 aW true aJ (s.roots (5,0)) fun m10 d11=>
 asM .own m10<|
 aW false (.sl .il) (s.roots (9,0)) fun m13 d14=>
 asM (.sl (.imm true)) m13<|
 .mat (aP (iR d2 d11) (d6,d8,d14)) fun x=>.ret (Dz d2 d11 x)
def qK:bB:=⟨([1,3,7,9,10],[(5,0),(9,0)]),([7,9],[(9,0)]),Xx⟩
def iL:List (Nat×bB):=[(3,qJ),(11,oU),(18,oV),(8,qK)]
theorem Qt:∀(eF:Bool)(aQ:Int)(bL:(List (List Int)))(j4:(Int×(Int×Unit)))(x:(Int×(List (List Int))))(c:St→Option (Ex×St)),den gQ iL (aU jI 0) (Fv eF aQ bL j4 x) (bY qJ.kp qJ.kx c)=(ko bL x).run (bZ (Fv eF aQ bL j4) (Dy eF aQ bL j4) c):=fun _ _ _ _ _ _=>by
 kernel_rfl
theorem Vf:bP gQ iL (aU jI 0) qJ:=dw fun _ _ _=>aM fun _=>dI fun _ _=>fT<|kW<|aM fun _=>bN fun _ _=>tM<|bN fun _ _=>tM<|fun h _ e13 _ e10 e8 e7 e6 e3 e1=>bT (Qt _ _ _ _) h (by subst_vars;exact aR rfl rfl ⟨e1,e3,e6,e7,e8,trivial⟩ ⟨e10,e13,trivial⟩)
theorem N7:∀(KX KY vE:Int)(KZ:(Int×(Int×Unit)))(vF:(List (List Int)))(x:Int)(c:St→Option (Ex×St)),den gQ iL (aU jI 2) (Dw KX KY vE KZ vF x) (bY oU.kp oU.kx c)=(jl vE vF x).run (bZ (Dw KX KY vE KZ vF) (Ci KX KY vE KZ vF) c):=fun _ _ _ _ _ _ _=>by
 kernel_rfl
theorem R4:bP gQ iL (aU jI 2) oU:=dw fun _ _ _=>aM fun _=>fT<|kW<|aM fun _=>aM fun _=>aM fun _=>bN fun _ _=>tM<|bN fun _ _=>tM<|fun h _ e14 _ e11 e9 e7 e5 e4 e3 e1=>bT (N7 _ _ _ _ _) h (by subst_vars;exact aR rfl rfl ⟨e1,e3,e4,e5,e7,e9,trivial⟩ ⟨e11,e14,trivial⟩)
theorem N8:∀(K9 sH oh:Int)(Ar:(Int×(Int×Unit)))(x:(Int×(List (List Int))))(c:St→Option (Ex×St)),den gQ iL (aU jI 3) (Dx K9 sH oh Ar x) (bY oV.kp oV.kx c)=(jm sH oh Ar x).run (bZ (Dx K9 sH oh Ar) (Cj K9 sH oh Ar) c):=fun _ _ _ _ _ _=>by
 kernel_rfl
theorem R5:bP gQ iL (aU jI 3) oV:=dw fun _ _ _=>aM fun _=>fT<|kW<|aM fun _=>aM fun _=>aM fun _=>bN fun _ _=>tM<|bN fun _ _=>tM<|fun h _ e14 _ e11 e9 e7 e5 e4 e3 e1=>bT (N8 _ _ _ _) h (by subst_vars;exact aR rfl rfl ⟨e1,e3,e4,e5,e7,e9,trivial⟩ ⟨e11,e14,trivial⟩)
theorem Qu:∀(mK:Int)(mM:(Int×(Int×Unit)))(x:(Int×Int×(List (List Int))))(c:St→Option (Ex×St)),den gQ iL (aU jI 1) (Fw mK mM x) (bY qK.kp qK.kx c)=(iR mK mM x).run (bZ (Fw mK mM) (Dz mK mM) c):=fun _ _ _ _=>by
 kernel_rfl
theorem Vg:bP gQ iL (aU jI 1) qK:=dw fun _ _ _=>aM fun _=>fT<|kW<|aM fun _=>aM fun _=>bN fun _ _=>tM<|bN fun _ _=>tM<|fun h _ e12 _ e9 e7 e5 e4 e3 e1=>bT (Qu _ _) h (by subst_vars;exact aR rfl rfl ⟨e1,e3,e4,e5,e7,trivial⟩ ⟨e9,e12,trivial⟩)
def aeg:FnI:=fnI Try.f130 iL
def Kw (_:Bool) (_:(Int×(Int×Unit))) (_:Int) (_:(List (List Int))):(List (List Int))→aA:=fun r=>⟨(.ref (1,0) []),[],[⟨false,(.sl .il),(.sl (.imm true)),r⟩]⟩
theorem abm:∀(zp0:Bool)(p0:(Int×(Int×Unit)))(p1:Int)(p2:(List (List Int))),bI gQ aeg ⟨[(.imm true aJ p0),(.i p1),(.imm zp0 (.sl .il) p2)],[]⟩=(Ml p0 p1 p2).run fun r=>some (Kw zp0 p0 p1 p2 r):=fun _ _ _ _=>by kernel_rfl
def aef (av:List AV) (rs:List Root):Tre aA:=
 aB av fun a0_ av0=>
 aB av0 fun a1_ av1=>
 aB av1 fun a2_ av2=>
 aL av2<|
 aL rs<|
 aC true aJ a0_ fun d1=>
 aC true .n a1_ fun d2=>
 bE (.sl .il) a2_ fun z4 d3=>
 .mat (nP d1 d2 d3) fun r=>.ret (Kw z4 d1 d2 d3 r)
def Fu:Ctr:=dD [] aef
theorem Nk:Contract Try.prog .none 130 Fu:=aD (V:=gQ) aT (ak ahU apS (ak abf aug (ak ah5 agQ aI))) Try.func130 (bJ (n:=4) fun k hk=>by
 match k,hk with
 |0,_=>exact bM (id:=3) Vf
 |1,_=>exact bM (id:=8) Vg
 |2,_=>exact bM (id:=11) R4
 |3,_=>exact bM (id:=18) R5) fun _ _ _=>aH fun _ _=>aH fun _ _=>aH fun _ _=>bn<|bn<|aM fun _=>aM fun _=>dI fun _ _=>fun h=>by intros;subst_vars;exact bg (abm _ _ _ _) h
def fD (om:Int) (IG:(Int×(Int×Unit))):(Int×bX×(List (List Int)))→Tre ((Int×bX×(List (List Int))) ⊕ (bX×(List (List Int)))):=fun s5=>
 .cond (decide (s5.1>0))
  (.mat (fM IG om s5.2.1) fun r4=>
  .ite ((s5.2.2.length+1)*24≤bS∧1≤24)<|
  .ret (.inl (aN .i64 (s5.1-1),r4.1,s5.2.2++([r4.2]))))
  (.ret (.inr (s5.2.1,s5.2.2)))
def wI (p0:bX):Tre ((Int×(Int×Unit))×Int×bX×(List (List Int))):=
 .mat (lg 4 p0) fun r1=>
 .mat (dZ 3 r1.2) fun r2=>
 .mat (dZ 3 r2.2) fun r3=>
 .mat (aP (fD (aN .i64 (1+r2.1)) r1.1) (r3.1,r3.2,[])) fun l5=>
 .mat (nP r1.1 (aN .i64 (1+r2.1)) l5.2) fun r6=>
 .ret (r1.1,aN .i64 (1+r2.1),l5.1,r6)
def rT (p0:bX):Option ((Int×(Int×Unit))×Int×bX×(List (List Int))):=(wI p0).run some
def mg:Env:=⟨tau,[(161,zA),(149,jG),(102,rV),(130,Fu)],[]⟩
def Ce:Code:=(Try.f101.body).getD .skip
def vB (amJ:Bool) (om:Int) (TY:au) (IG:(Int×(Int×Unit))):(Int×bX×(List (List Int)))→St:=fun x=>bR [(0,(.ptr (0,0) [])),(2,(.ptr (4,0) [])),(3,(.ptr (5,0) [])),(4,(.i om)),(5,(.ref (7,0) [])),(6,(.i x.1))] [((0,0),some ⟨true,fQ,(.imm amJ),x.2.1⟩),((4,0),some ⟨true,aG,.own,TY⟩),((5,0),some ⟨true,aJ,.own,IG⟩),((7,0),some ⟨false,(.sl .il),.own,x.2.2⟩)]
def um (amJ:Bool) (om:Int) (TY:au) (IG:(Int×(Int×Unit))):(bX×(List (List Int)))→Ex×St:=fun x=>(.exit 0,bR [(2,(.ptr (4,0) [])),(3,(.ptr (5,0) [])),(4,(.i om)),(5,(.ref (7,0) []))] [((0,0),some ⟨true,fQ,(.imm amJ),x.1⟩),((4,0),some ⟨true,aG,.own,TY⟩),((5,0),some ⟨true,aJ,.own,IG⟩),((7,0),some ⟨false,(.sl .il),.own,x.2⟩)])
def Ku (s:St):Tre (Ex×St):=
 dB (0,0) [] (s.tmps 0)<|
 dB (4,0) [] (s.tmps 2)<|
 dB (5,0) [] (s.tmps 3)<|
 aC true .n (s.tmps 4) fun d5=>
 fA (7,0) [] (s.tmps 5)<|
 aC true .n (s.tmps 6) fun d8=>
 aW true fQ (s.roots (0,0)) fun m10 d11=>
 jg m10 fun z12=>
 aW true aG (s.roots (4,0)) fun m14 d15=>
 asM .own m14<|
 aW true aJ (s.roots (5,0)) fun m17 d18=>
 asM .own m17<|
 aW false (.sl .il) (s.roots (7,0)) fun m20 d21=>
 asM .own m20<|
 .mat (aP (fD d5 d18) (d8,d11,d21)) fun x=>.ret (um z12 d5 d15 d18 x)
def jV:bB:=⟨([0,2,3,4,5,6],[(0,0),(4,0),(5,0),(7,0)]),([2,3,4,5],[(0,0),(4,0),(5,0),(7,0)]),Ku⟩
def rR:List (Nat×bB):=[(5,jV)]
theorem Fp:∀(amJ:Bool)(om:Int)(TY:au)(IG:(Int×(Int×Unit)))(x:(Int×bX×(List (List Int))))(c:St→Option (Ex×St)),den mg rR (aU Ce 0) (vB amJ om TY IG x) (bY jV.kp jV.kx c)=(fD om IG x).run (bZ (vB amJ om TY IG) (um amJ om TY IG) c):=fun _ _ _ _ _ _=>by
 kernel_rfl
theorem Jk:bP mg rR (aU Ce 0) jV:=dw fun _ _ _=>fT<|fT<|fT<|aM fun _=>kW<|aM fun _=>bN fun _ _=>rZ fun _=>bN fun _ _=>tM<|bN fun _ _=>tM<|bN fun _ _=>tM<|fun h _ e19 _ e16 _ e13 _ e9 e7 e6 e4 e3 e2 e1=>bT (Fp _ _ _ _) h (by subst_vars;exact aR rfl rfl ⟨e1,e2,e3,e4,e6,e7,trivial⟩ ⟨e9,e13,e16,e19,trivial⟩)
def Qq:FnI:=fnI Try.f101 rR
def yO (zp0:Bool) (_:bX):((Int×(Int×Unit))×Int×bX×(List (List Int)))→aA:=fun r=>⟨(.pair (.imm true aJ r.1) (.pair (.i r.2.1) (.pair (.ref (1,0) []) (.imm true .unit ())))),[⟨true,fQ,(.imm zp0),r.2.2.1⟩],[⟨false,(.sl .il),(.sl (.imm true)),r.2.2.2⟩]⟩
theorem NU:∀(zp0:Bool)(p0:bX),bI mg Qq ⟨[(.ptr (0,0) [])],[⟨true,fQ,(.imm zp0),p0⟩]⟩=(wI p0).run fun r=>some (yO zp0 p0 r):=fun _ _=>by kernel_rfl
def Qp (av:List AV) (rs:List Root):Tre aA:=
 aB av fun a0_ av0=>
 aL av0<|
 aB rs fun r0_ rs0=>
 aL rs0<|
 dB (0,0) [] a0_<|
 gH true fQ r0_ fun m1 d2=>
 jg m1 fun z3=>
 .mat (rT d2) fun r=>.ret (yO z3 d2 r)
def Cg:Ctr:=dD [] Qp
theorem NV:Contract Try.prog .none 101 Cg:=aD (V:=mg) aT (ak Mk aup (ak kZ agS (ak zB apJ (ak Nk apO aI)))) Try.func101 (bJ (n:=1) fun k hk=>by
 match k,hk with
 |0,_=>exact bM (id:=5) Jk) fun _ _ _=>aH fun _ _=>bn<|aH fun _ _=>bn<|fT<|tRt fun _ _=>rZ fun _=>fun h=>by intros;subst_vars;exact bg (NU _ _) h
-- shared
theorem aq4{n d:Nat}(h0:n≠0)(hn:n<2 ^ d):∃i m,i<d∧m<n∧n=m^^^2 ^ i:=by
 have hl:=Nat.log2_lt (n:=n) (k:=d) h0 |>.2 hn
 have hself:=Nat.log2_self_le h0
 have hup:=Nat.lt_log2_self (n:=n)
 have hb1:n^^^2 ^ n.log2<2 ^ n.log2:=by
  apply Nat.lt_pow_two_of_testBit
  intro i hi
  rw [Nat.testBit_xor,Nat.testBit_two_pow]
  by_cases hi2:n.log2=i
  ·subst hi2
   rw [Nat.testBit_log2 h0]
   simp
  ·have:n.testBit i=false:=Nat.testBit_lt_two_pow (Nat.lt_of_lt_of_le hup (Nat.pow_le_pow_right (by omega) (by omega)))
   rw [this]
   simp [hi2]
 exact ⟨n.log2,n^^^2 ^ n.log2,hl,by omega,by rw [Nat.xor_assoc,Nat.xor_self,Nat.xor_zero]⟩
def akP(d:Nat)(g:Nat→Nat):Prop:=∀a b,a<2 ^ d→b<2 ^ d→g (a^^^b)=g a^^^g b
theorem akP.zero{d:Nat}{g:Nat→Nat}(h:akP d g):g 0=0:=by
 have e1:=h 0 0 (Nat.two_pow_pos d) (Nat.two_pow_pos d)
 rw [Nat.xor_self] at e1
 rw [Nat.xor_self] at e1
 exact e1
theorem atO{d:Nat}{g:Nat→Nat}(h0:g 0=0)(h:∀b i,b<2 ^ d→i<d→g (b^^^2 ^ i)=g b^^^g (2 ^ i)):akP d g:=by
 intro b c
 induction c using Nat.strongRecOn generalizing b with
 |ind c ih=>
  intro hb hc
  by_cases hz:c=0
  ·subst hz;rw [Nat.xor_zero,h0,Nat.xor_zero]
  ·obtain ⟨i,m,hi,hm,he⟩:=aq4 hz hc
   have hp:2 ^ i<2 ^ d:=Nat.pow_lt_pow_right (by omega) hi
   have hm2:m<2 ^ d:=by omega
   rw [he,←Nat.xor_assoc,h _ _ (Nat.xor_lt_two_pow hb hm2) hi,ih m hm b hb hm2,h _ _ hm2 hi,Nat.xor_assoc]
theorem am1{d:Nat}{g h:Nat→Nat}(hg:akP d g)(hh:akP d h)(hb:∀i,i<d→g (2 ^ i)=h (2 ^ i)):∀n,n<2 ^ d→g n=h n:=by
 intro n
 induction n using Nat.strongRecOn with
 |ind n ih=>
  intro hn
  by_cases h0:n=0
  ·subst h0;rw [hg.zero,hh.zero]
  ·obtain ⟨i,m,hi,hm,he⟩:=aq4 h0 hn
   have hp:2 ^ i<2 ^ d:=Nat.pow_lt_pow_right (by omega) hi
   rw [he,hg _ _ (by omega) hp,hh _ _ (by omega) hp,ih m hm (by omega),hb i hi]
def avY(d p:Nat):Bool:=(List.range (2 ^ d)).all fun a=>(List.range (2 ^ d)).all fun b=>(List.range d).all fun i=>Nat.beq (mulN p a (Nat.xor b (2 ^ i))) (Nat.xor (mulN p a b) (mulN p a (2 ^ i)))
def gI(d p:Nat):Bool:=(List.range (2 ^ d)).all fun a=>(List.range d).all fun j=>(List.range d).all fun i=>Nat.beq (mulN p (mulN p a (2 ^ j)) (2 ^ i)) (mulN p a (mulN p (2 ^ j) (2 ^ i)))
def awN(d p:Nat):Bool:=(List.range (2 ^ d)).all fun a=>Nat.beq (mulN p a 1) a&&Nat.beq (mulN p a 0) 0
theorem anU:(iT.all fun q=>avY q.1 q.2)=true:=by kernel_rfl
theorem akZ:(iT.all fun q=>gI q.1 q.2)=true:=by kernel_rfl
theorem aqI:(iT.all fun q=>awN q.1 q.2)=true:=by kernel_rfl
theorem ng{d p a b:Nat}(hq:(d,p)∈iT)(ha:a<2 ^ d)(hb:b<2 ^ d):mulN p a b<2 ^ d∧mulN p a b=mulN p b a:=by
 have h1:=List.all_eq_true.1 (List.all_eq_true.1 (List.all_eq_true.1 Wu _ hq) a (List.mem_range.2 ha)) b (List.mem_range.2 hb)
 rw [Bool.and_eq_true] at h1
 exact ⟨Nat.le_of_ble_eq_true h1.1,Nat.eq_of_beq_eq_true h1.2⟩
theorem Ww{d p a:Nat}(hq:(d,p)∈iT)(ha:a<2 ^ d):mulN p a 1=a∧mulN p a 0=0:=by
 have h1:=List.all_eq_true.1 (List.all_eq_true.1 aqI _ hq) a (List.mem_range.2 ha)
 rw [Bool.and_eq_true] at h1
 exact ⟨Nat.eq_of_beq_eq_true h1.1,Nat.eq_of_beq_eq_true h1.2⟩
theorem BN{d p a:Nat}(hq:(d,p)∈iT)(ha:a<2 ^ d):akP d (mulN p a):=by
 refine atO (Ww hq ha).2 fun b i hb hi=>?_
 have h1:=List.all_eq_true.1 (List.all_eq_true.1 (List.all_eq_true.1 (List.all_eq_true.1 anU _ hq) a (List.mem_range.2 ha)) b (List.mem_range.2 hb)) i (List.mem_range.2 hi)
 exact Nat.eq_of_beq_eq_true h1
theorem SV{d p b:Nat}(hq:(d,p)∈iT)(hb:b<2 ^ d):akP d (fun a=>mulN p a b):=by
 intro x y hx hy
 show mulN p (x^^^y) b=mulN p x b^^^mulN p y b
 rw [(ng hq (Nat.xor_lt_two_pow hx hy) hb).2,BN hq hb x y hx hy,(ng hq hx hb).2,(ng hq hy hb).2]
theorem adj{d p a b c:Nat}(hq:(d,p)∈iT)(ha:a<2 ^ d)(hb:b<2 ^ d)(hc:c<2 ^ d):mulN p (mulN p a b) c=mulN p a (mulN p b c):=by
 have hpow:∀i,i<d→2 ^ i<2 ^ d:=fun i hi=>Nat.pow_lt_pow_right (by omega) hi
 have k1:∀i,i<d→∀b,b<2 ^ d→mulN p (mulN p a b) (2 ^ i)=mulN p a (mulN p b (2 ^ i)):=by
  intro i hi
  refine am1 (g:=fun b=>mulN p (mulN p a b) (2 ^ i)) (h:=fun b=>mulN p a (mulN p b (2 ^ i))) ?_ ?_ ?_
  ·intro x y hx hy
   show mulN p (mulN p a (x^^^y)) (2 ^ i)=_
   rw [BN hq ha x y hx hy]
   exact SV hq (hpow i hi) _ _ (ng hq ha hx).1 (ng hq ha hy).1
  ·intro x y hx hy
   show mulN p a (mulN p (x^^^y) (2 ^ i))=_
   rw [show mulN p (x^^^y) (2 ^ i)=_ from SV hq (hpow i hi) x y hx hy]
   exact BN hq ha _ _ (ng hq hx (hpow i hi)).1 (ng hq hy (hpow i hi)).1
  ·intro j hj
   have h1:=List.all_eq_true.1 (List.all_eq_true.1 (List.all_eq_true.1 (List.all_eq_true.1 akZ _ hq) a (List.mem_range.2 ha)) j (List.mem_range.2 hj)) i (List.mem_range.2 hi)
   exact Nat.eq_of_beq_eq_true h1
 refine am1 (g:=fun c=>mulN p (mulN p a b) c) (h:=fun c=>mulN p a (mulN p b c)) ?_ ?_ (fun i hi=>k1 i hi b hb) c hc
 ·exact BN hq (ng hq ha hb).1
 ·intro x y hx hy
  show mulN p a (mulN p b (x^^^y))=_
  rw [BN hq hb x y hx hy]
  exact BN hq ha _ _ (ng hq hb hx).1 (ng hq hb hy).1
theorem ag9{f:TF3}(hf:aO f=true):∃d p:Nat,(d,p)∈iT∧f=((d:Int),(p:Int),())∧∀a,inF f a→∃m:Nat,a=(m:Int)∧m<2 ^ d∧m<2 ^ 63:=by
 obtain ⟨d,p,hq,rfl⟩:=zK hf
 refine ⟨d,p,hq,rfl,fun a ha=>?_⟩
 obtain ⟨m,e,h1,h2⟩:=AO hf ha
 exact ⟨m,e,by simpa using h1,h2⟩
theorem yF{d p m n:Nat}:fZ ((d:Int),(p:Int),()) (m:Int) (n:Int)=((mulN p m n:Nat):Int):=by
 unfold fZ
 simp only [Int.toNat_natCast]
theorem yE{f:TF3}(hf:aO f=true){a b:Int}(ha:inF f a)(hb:inF f b):inF f (fZ f a b):=(zW hf ha hb).1
theorem kP{f:TF3}(hf:aO f=true){a b:Int}(ha:inF f a)(hb:inF f b):fZ f a b=fZ f b a:=(zW hf ha hb).2
theorem atH{d p:Nat}(hq:(d,p)∈iT){x:Nat}(h:x<2 ^ d):x<2 ^ 63:=by
 have:∀q∈iT,q.1≤5:=by decide
 have h5:=this _ hq
 have:2 ^ d≤2 ^ 5:=Nat.pow_le_pow_right (by omega) h5
 omega
theorem adi{f:TF3}(hf:aO f=true){a b c:Int}(ha:inF f a)(hb:inF f b)(hc:inF f c):fZ f a (jD .i64 b c)=jD .i64 (fZ f a b) (fZ f a c):=by
 obtain ⟨d,p,hq,rfl,hn⟩:=ag9 hf
 obtain ⟨x,rfl,hx,hx6⟩:=hn a ha
 obtain ⟨y,rfl,hy,hy6⟩:=hn b hb
 obtain ⟨z,rfl,hz,hz6⟩:=hn c hc
 rw [lW hy6 hz6,yF,yF,yF,lW (atH hq (ng hq hx hy).1) (atH hq (ng hq hx hz).1),BN hq hx y z hy hz]
theorem adh{f:TF3}(hf:aO f=true){a b c:Int}(ha:inF f a)(hb:inF f b)(hc:inF f c):fZ f (fZ f a b) c=fZ f a (fZ f b c):=by
 obtain ⟨d,p,hq,rfl,hn⟩:=ag9 hf
 obtain ⟨x,rfl,hx,hx6⟩:=hn a ha
 obtain ⟨y,rfl,hy,hy6⟩:=hn b hb
 obtain ⟨z,rfl,hz,hz6⟩:=hn c hc
 rw [yF,yF,yF,yF,adj hq hx hy hz]
theorem Wv{f:TF3}(hf:aO f=true){a:Int}(ha:inF f a):fZ f a 1=a:=by
 obtain ⟨d,p,hq,rfl,hn⟩:=ag9 hf
 obtain ⟨x,rfl,hx,hx6⟩:=hn a ha
 rw [show (1:Int)=((1:Nat):Int) from rfl,yF,(Ww hq hx).1]
theorem zX{f:TF3}(hf:aO f=true){a:Int}(ha:inF f a):fZ f a 0=0:=by
 obtain ⟨d,p,hq,rfl,hn⟩:=ag9 hf
 obtain ⟨x,rfl,hx,hx6⟩:=hn a ha
 rw [show (0:Int)=((0:Nat):Int) from rfl,yF,(Ww hq hx).2]
theorem agx{f:TF3}(hf:aO f=true){a b:Int}(ha:inF f a)(hb:inF f b):jD .i64 a b=jD .i64 b a:=by
 obtain ⟨x,rfl,_,hx⟩:=AO hf ha
 obtain ⟨y,rfl,_,hy⟩:=AO hf hb
 rw [lW hx hy,lW hy hx,Nat.xor_comm]
theorem F9{f:TF3}(hf:aO f=true){a b c:Int}(ha:inF f a)(hb:inF f b)(hc:inF f c):jD .i64 (jD .i64 a b) c=jD .i64 a (jD .i64 b c):=by
 obtain ⟨x,rfl,hx1,hx⟩:=AO hf ha
 obtain ⟨y,rfl,hy1,hy⟩:=AO hf hb
 obtain ⟨z,rfl,hz1,hz⟩:=AO hf hc
 rw [lW hx hy,lW hy hz,lW (Nat.xor_lt_two_pow hx hy) hz,lW hx (Nat.xor_lt_two_pow hy hz),Nat.xor_assoc]
theorem Rp{f:TF3}(hf:aO f=true){a:Int}(ha:inF f a):jD .i64 a 0=a:=by
 rw [agx hf ha lV,Aj hf ha]
theorem ao9{f:TF3}(hf:aO f=true){a:Int}(ha:inF f a):jD .i64 a a=0:=by
 obtain ⟨x,rfl,_,hx⟩:=AO hf ha
 rw [lW hx hx,Nat.xor_self]
 rfl
-- shared
structure FO where
 q:Nat
 dg:Nat
 mul:Nat→Nat→Nat
 hq:1<q
 hd:1≤dg
 lt:∀a b,mul a b<q
 xlt:∀a b,a<q→b<q→a^^^b<q
 comm:∀a b,mul a b=mul b a
 assoc:∀a b c,mul (mul a b) c=mul a (mul b c)
 add:∀a b c,mul a (b^^^c)=mul a b^^^mul a c
 one:∀a,a<q→mul a 1=a
 inv:∀a,a<q→a≠0→∃b,b<q∧mul a b=1
namespace FO
variable (F : FO)
theorem mul_zero(a:Nat):F.mul a 0=0:=by
 have:=F.add a 0 0
 rw [Nat.xor_self,Nat.xor_self] at this
 exact this
theorem zero_mul(a:Nat):F.mul 0 a=0:=by rw [F.comm,F.mul_zero]
theorem avW(a b c:Nat):F.mul (a^^^b) c=F.mul a c^^^F.mul b c:=by rw [F.comm,F.add,F.comm c a,F.comm c b]
theorem nz{a b:Nat}(ha:a<F.q)(hb:b<F.q)(h:F.mul a b=0):a=0∨b=0:=by
 by_cases h0:a=0
 ·exact .inl h0
 ·right
  obtain ⟨c,hc,h1⟩:=F.inv a ha h0
  rw [←F.one b hb,←h1,F.comm,F.comm a c,F.assoc,h,F.mul_zero]
theorem zlt:0<F.q:=Nat.lt_trans Nat.zero_lt_one F.hq
def sq(a:Nat):Nat:=F.mul a a
theorem atL(a:Nat):F.sq a<F.q:=F.lt a a
theorem anF:F.sq 0=0:=F.mul_zero 0
theorem avS(a b c:Nat):(a^^^b)^^^(b^^^c)=a^^^c:=by rw [Nat.xor_assoc,←Nat.xor_assoc b b c,Nat.xor_self,Nat.zero_xor]
theorem avJ(a b:Nat):F.sq (a^^^b)=F.sq a^^^F.sq b:=by
 unfold sq
 rw [F.add,F.avW,F.avW,F.comm b a,avS]
theorem avK{a:Nat}(ha:a<F.q)(h:F.sq a=0):a=0:=(F.nz ha ha h).elim id id
def sqn:Nat→Nat→Nat
 |0,a=>a
 |k+1,a=>sqn k (F.sq a)
theorem avL:∀(k:Nat){a:Nat},a<F.q→F.sqn k a<F.q:=by
 intro k
 induction k with
 |zero=>intro a h;exact h
 |succ k ih=>intro a _;exact ih (F.atL a)
theorem as2:∀(k:Nat){a:Nat},a<F.q→F.sqn k a=0→a=0:=by
 intro k
 induction k with
 |zero=>intro a _ h;exact h
 |succ k ih=>intro a ha h;exact F.avK ha (ih (F.atL a) h)
def QE:List Bool→List Nat→Nat
 |b::bs,x::xs=>(bif b then x else 0)^^^QE bs xs
 |_,_=>0
def ais(xs:List Nat):Prop:=∀bs:List Bool,bs.length=xs.length→QE bs xs=0→∀b∈bs,b=false
theorem aqX{φ:Nat→Nat}(h0:φ 0=0)(hφ:∀a b,φ (a^^^b)=φ a^^^φ b):∀(bs:List Bool)(xs:List Nat),QE bs (xs.map φ)=φ (QE bs xs):=by
 intro bs
 induction bs with
 |nil=>intro xs;cases xs<;>exact h0.symm
 |cons b bs ih=>
  intro xs
  cases xs with
  |nil=>exact h0.symm
  |cons x xs=>
   simp only [List.map_cons,QE]
   rw [ih,hφ]
   cases b
   ·simp only [cond_false];rw [h0]
   ·rfl
theorem aem:∀(n:Nat)(xs:List Nat),QE (List.replicate n false) xs=0:=by
 intro n
 induction n with
 |zero=>intro xs;cases xs<;>rfl
 |succ n ih=>
  intro xs
  cases xs with
  |nil=>rfl
  |cons x xs=>simp only [List.replicate_succ,QE,cond_false];rw [ih];rfl
theorem ais.head{g:Nat}{gs:List Nat}(h:ais (g::gs)):g≠0:=by
 intro h0
 have:=h (true::List.replicate gs.length false) (by simp) (by simp only [QE,cond_true];rw [aem,h0];rfl) true (List.mem_cons_self ..)
 cases this
theorem ais.tail{g:Nat}{gs:List Nat}(h:ais (g::gs)):ais gs:=by
 intro bs hl hs b hb
 exact h (false::bs) (by simp [hl]) (by simp only [QE,cond_false];rw [hs];rfl) b (List.mem_cons_of_mem _ hb)
def YD(us:List Nat)(v:Nat):Prop:=∃bs:List Bool,bs.length=us.length∧v=QE bs us
theorem aqY:∀(b1 b2:List Bool)(us:List Nat),b1.length=us.length→b2.length=us.length→QE (List.zipWith xor b1 b2) us=QE b1 us^^^QE b2 us:=by
 intro b1
 induction b1 with
 |nil=>intro b2 us h1 h2;cases us with
  |nil=>simp [QE]
  |cons _ _=>simp at h1
 |cons b b1 ih=>
  intro b2 us h1 h2
  cases us with
  |nil=>simp at h1
  |cons u us=>
   cases b2 with
   |nil=>simp at h2
   |cons b' b2=>
    simp only [List.zipWith_cons_cons,QE]
    rw [ih b2 us (by simpa using h1) (by simpa using h2)]
    have:(bif xor b b' then u else 0)=(bif b then u else 0)^^^(bif b' then u else 0):=by
     cases b<;>cases b'<;>simp
    rw [this]
    ac_rfl
theorem YD.add{us:List Nat}{a b:Nat}(ha:YD us a)(hb:YD us b):YD us (a^^^b):=by
 obtain ⟨b1,h1,rfl⟩:=ha
 obtain ⟨b2,h2,rfl⟩:=hb
 exact ⟨List.zipWith xor b1 b2,by simp [h1,h2],(aqY b1 b2 us h1 h2).symm⟩
theorem YD.zero(us:List Nat):YD us 0:=⟨List.replicate us.length false,by simp,(aem _ _).symm⟩
theorem YD.cons{u:Nat}{us:List Nat}{v:Nat}(h:YD (u::us) v):YD us v∨YD us (v^^^u):=by
 obtain ⟨bs,hl,rfl⟩:=h
 cases bs with
 |nil=>simp at hl
 |cons b bs=>
  simp only [List.length_cons,Nat.add_right_cancel_iff] at hl
  cases b
  ·left;exact ⟨bs,hl,by simp only [QE,cond_false];rw [Nat.zero_xor]⟩
  ·right;exact ⟨bs,hl,by simp only [QE,cond_true];rw [Nat.xor_comm u,Nat.xor_assoc,Nat.xor_self,Nat.xor_zero]⟩
theorem YD.map{φ:Nat→Nat}(h0:φ 0=0)(hφ:∀a b,φ (a^^^b)=φ a^^^φ b){us:List Nat}{v:Nat}(h:YD us v):YD (us.map φ) (φ v):=by
 obtain ⟨bs,hl,rfl⟩:=h
 exact ⟨bs,by simpa using hl,(aqX h0 hφ bs us).symm⟩
end FO
-- shared
def cf(p:List Nat)(i:Nat):Nat:=p.getD i 0
theorem X6(i:Nat):cf [] i=0:=by simp [cf]
theorem agI(a:Nat)(p:List Nat):cf (a::p) 0=a:=by simp [cf]
theorem Ak(a:Nat)(p:List Nat)(i:Nat):cf (a::p) (i+1)=cf p i:=by simp [cf]
theorem apq{p:List Nat}{i:Nat}(h:p.length≤i):cf p i=0:=by
 unfold cf
 rw [List.getD_eq_getElem?_getD,List.getElem?_eq_none h];rfl
theorem atQ:∀{p q:List Nat},p.length=q.length→(∀i,cf p i=cf q i)→p=q:=by
 intro p
 induction p with
 |nil=>intro q h _;exact (List.length_eq_zero_iff.1 h.symm).symm
 |cons a p ih=>
  intro q h hc
  cases q with
  |nil=>simp at h
  |cons b q=>
   have h0:=hc 0
   rw [agI,agI] at h0
   rw [h0,ih (by simpa using h) fun i=>by have:=hc (i+1);rwa [Ak,Ak] at this]
def akR:List Nat→List Nat→List Nat
 |[],q=>q
 |a::p,[]=>a::p
 |a::p,b::q=>(a^^^b)::akR p q
theorem amP:∀(p q:List Nat)(i:Nat),cf (akR p q) i=cf p i^^^cf q i:=by
 intro p
 induction p with
 |nil=>intro q i;rw [X6,Nat.zero_xor];rfl
 |cons a p ih=>
  intro q i
  cases q with
  |nil=>rw [X6,Nat.xor_zero];rfl
  |cons b q=>
   cases i with
   |zero=>rfl
   |succ i=>simp only [akR,Ak];exact ih q i
def Ns:List Nat→List Nat
 |[]=>[]
 |a::p=>match Ns p with
  |[]=>if a=0 then [] else [a]
  |b::q=>a::b::q
theorem Vz:∀(p:List Nat)(i:Nat),cf (Ns p) i=cf p i:=by
 intro p
 induction p with
 |nil=>intro i;rfl
 |cons a p ih=>
  intro i
  unfold Ns
  cases ht:Ns p with
  |nil=>
   rw [ht] at ih
   simp only
   split
   ·rename_i h
    subst h
    cases i with
    |zero=>rfl
    |succ i=>rw [Ak,←ih i,X6,X6]
   ·cases i with
    |zero=>rfl
    |succ i=>rw [Ak,Ak,←ih i]
  |cons b q=>
   rw [ht] at ih
   simp only
   cases i with
   |zero=>rfl
   |succ i=>rw [Ak,Ak,←ih i]
theorem aew:∀(p:List Nat),Ns p≠[]→cf (Ns p) ((Ns p).length-1)≠0:=by
 intro p
 induction p with
 |nil=>intro h;exact absurd rfl h
 |cons a p ih=>
  unfold Ns
  cases ht:Ns p with
  |nil=>
   simp only
   split
   ·intro h;exact absurd rfl h
   ·rename_i h;intro _;exact h
  |cons b q=>
   rw [ht] at ih
   intro _
   have:=ih (by simp)
   simp only [List.length_cons,Nat.add_sub_cancel] at this ⊢
   rw [Ak];exact this
theorem ao6{p q:List Nat}(hp:p≠[]→cf p (p.length-1)≠0)(hq:q≠[]→cf q (q.length-1)≠0)(h:∀i,cf p i=cf q i):p=q:=by
 have key:∀{p q:List Nat},(p≠[]→cf p (p.length-1)≠0)→(∀i,cf p i=cf q i)→p.length≤q.length:=by
  intro p q hp h
  by_cases hn:p=[]
  ·subst hn;exact Nat.zero_le _
  ·have:=hp hn
   have hl:0<p.length:=List.length_pos_iff.2 hn
   apply Classical.byContradiction
   intro hlt
   rw [h,apq (by omega)] at this
   exact this rfl
 exact atQ (Nat.le_antisymm (key hp h) (key hq fun i=>(h i).symm)) h
namespace FO
variable (F : FO)
def Bd:List Nat→(Nat→Nat)→Nat→Nat
 |[],_,_=>0
 |v::vs,x,i=>F.mul v (x i)^^^(match i with
  |0=>0
  |i+1=>Bd vs (fun j=>F.sq (x j)) i)
theorem arp:∀{p q:List Nat},(∀c∈p,c<F.q)→(∀c∈q,c<F.q)→∀c∈akR p q,c<F.q:=by
 intro p
 induction p with
 |nil=>intro q _ hq;exact hq
 |cons a p ih=>
  intro q hp hq
  cases q with
  |nil=>exact hp
  |cons b q=>
   intro c hc
   rcases List.mem_cons.1 hc with rfl|hc
   ·exact F.xlt _ _ (hp _ (List.mem_cons_self ..)) (hq _ (List.mem_cons_self ..))
   ·exact ih (fun c hc=>hp c (List.mem_cons_of_mem _ hc)) (fun c hc=>hq c (List.mem_cons_of_mem _ hc)) c hc
theorem anR:∀(V:List Nat)(x y:Nat→Nat)(i:Nat),F.Bd V (fun j=>x j^^^y j) i=F.Bd V x i^^^F.Bd V y i:=by
 intro V
 induction V with
 |nil=>intro x y i;simp [Bd]
 |cons v vs ih=>
  intro x y i
  simp only [Bd]
  rw [F.add]
  cases i with
  |zero=>simp
  |succ i=>
   simp only
   rw [show (fun j=>F.sq (x j^^^y j))=fun j=>F.sq (x j)^^^F.sq (y j) from funext fun j=>F.avJ _ _,ih]
   ac_rfl
theorem anS:∀(V:List Nat)(d:Nat)(x:Nat→Nat)(j:Nat),V.length≤d+1→(∀i,j<i→x i=0)→F.Bd V x (d+j)=F.mul (cf V d) (F.sqn d (x j)):=by
 intro V
 induction V with
 |nil=>intro d x j _ _;rw [X6,F.zero_mul];rfl
 |cons v vs ih=>
  intro d x j hl hx
  cases d with
  |zero=>
   have:vs=[]:=by simpa using hl
   subst this
   rw [Nat.zero_add,agI]
   simp only [Bd,sqn]
   cases j with
   |zero=>simp
   |succ j=>simp
  |succ d=>
   rw [show d+1+j=d+j+1 by omega]
   simp only [Bd]
   rw [hx _ (by omega),F.mul_zero,Nat.zero_xor,ih d (fun i=>F.sq (x i)) j (by simpa using hl) (fun i hi=>by rw [hx i hi,F.anF]),Ak]
   rfl
theorem apw{V x:List Nat}(hV:∀c∈V,c<F.q)(hx:∀c∈x,c<F.q)(hn:V≠[])(hl:cf V (V.length-1)≠0)(h:∀i,V.length-1≤i→F.Bd V (cf x) i=0):∀i,cf x i=0:=by
 have hvl:0<V.length:=List.length_pos_iff.2 hn
 have hlt:∀{l:List Nat},(∀c∈l,c<F.q)→∀i,cf l i<F.q:=by
  intro l hl i
  unfold cf
  rw [List.getD_eq_getElem?_getD]
  cases hi:l[i]? with
  |none=>exact F.zlt
  |some c=>exact hl c (List.mem_of_getElem? hi)
 have key:Ns x=[]:=by
  apply Classical.byContradiction
  intro hne
  have ht:=aew x hne
  rw [Vz] at ht
  have htop:=F.anS V (V.length-1) (cf x) ((Ns x).length-1) (by omega) (fun i hi=>by rw [←Vz];exact apq (by omega))
  rw [h _ (by omega)] at htop
  rcases F.nz (hlt hV _) (F.avL _ (hlt hx _)) htop.symm with h0|h0
  ·exact hl h0
  ·exact ht (F.as2 _ (hlt hx _) h0)
 intro i
 rw [←Vz,key,X6]
end FO
-- shared
def Tw(M k:Nat):List Int:=(List.replicate M 0).set k 1
def okV(f:TF3)(M:Nat)(r:List Int):Prop:=r.length=M∧∀y∈r,inF f y
theorem akN{f:TF3}(hf:aO f=true)(M k:Nat):okV f M (Tw M k):=by
 refine ⟨by simp [Tw],fun y hy=>?_⟩
 rcases List.mem_or_eq_of_mem_set hy with h|rfl
 ·rw [(List.mem_replicate.1 h).2];exact lV
 ·exact aha hf
theorem KJ{f:TF3}(M:Nat):okV f M (List.replicate M 0):=⟨by simp,fun y hy=>by rw [(List.mem_replicate.1 hy).2];exact lV⟩
theorem QI{f:TF3}(hf:aO f=true){M:Nat}{u w:List Int}{x:Int}(hu:okV f M u)(hw:okV f M w)(hx:inF f x):okV f M (lJ f u w x):=by
 unfold lJ
 refine ⟨by simp [hu.1,hw.1],fun y hy=>?_⟩
 obtain ⟨p,hp,rfl⟩:=List.mem_map.1 hy
 have h1:=List.of_mem_zip (a:=p.1) (b:=p.2) hp
 exact QV hf (hu.2 _ h1.1) (yE hf (hw.2 _ h1.2) hx)
def uM(f:TF3)(src:Nat→List Int):Nat→List Int→List Int→List Int
 |_,acc,[]=>acc
 |k,acc,x::cs=>uM f src (k+1) (lJ f acc (src k) x) cs
theorem Oq{f:TF3}(hf:aO f=true){M:Nat}{src:Nat→List Int}:∀(cs:List Int)(k:Nat)(acc:List Int),okV f M acc→(∀x∈cs,inF f x)→(∀j,k≤j→j<k+cs.length→okV f M (src j))→okV f M (uM f src k acc cs):=by
 intro cs
 induction cs with
 |nil=>intro k acc h _ _;exact h
 |cons x cs ih=>
  intro k acc h hx hs
  exact ih (k+1) _ (QI hf h (hs k (Nat.le_refl _) (by simp)) (hx x (List.mem_cons_self ..))) (fun y hy=>hx y (List.mem_cons_of_mem _ hy)) fun j h1 h2=>hs j (by omega) (by simp;omega)
def DL(f:TF3):List Int→List Int→Int
 |x::u,y::w=>jD .i64 (fZ f x y) (DL f u w)
 |_,_=>0
theorem KV{f:TF3}(hf:aO f=true):∀{u w:List Int},(∀x∈u,inF f x)→(∀x∈w,inF f x)→inF f (DL f u w):=by
 intro u
 induction u with
 |nil=>intro w _ _;exact lV
 |cons x u ih=>
  intro w hu hw
  cases w with
  |nil=>exact lV
  |cons y w=>exact QV hf (yE hf (hu x (List.mem_cons_self ..)) (hw y (List.mem_cons_self ..))) (ih (fun z hz=>hu z (List.mem_cons_of_mem _ hz)) fun z hz=>hw z (List.mem_cons_of_mem _ hz))
theorem Yb{f:TF3}(hf:aO f=true):∀{u w:List Int},(∀x∈u,inF f x)→(∀x∈w,inF f x)→DL f u w=DL f w u:=by
 intro u
 induction u with
 |nil=>intro w _ _;cases w<;>rfl
 |cons x u ih=>
  intro w hu hw
  cases w with
  |nil=>rfl
  |cons y w=>
   simp only [DL]
   rw [kP hf (hu x (List.mem_cons_self ..)) (hw y (List.mem_cons_self ..)),ih (fun z hz=>hu z (List.mem_cons_of_mem _ hz)) fun z hz=>hw z (List.mem_cons_of_mem _ hz)]
theorem awJ{f:TF3}(hf:aO f=true){a b c d:Int}(ha:inF f a)(hb:inF f b)(hc:inF f c)(hd:inF f d):jD .i64 (jD .i64 a b) (jD .i64 c d)=jD .i64 (jD .i64 a c) (jD .i64 b d):=by
 rw [F9 hf ha hb (QV hf hc hd),←F9 hf hb hc hd,agx hf hb hc,F9 hf hc hb hd,←F9 hf ha hc (QV hf hb hd)]
theorem an4{f:TF3}(hf:aO f=true){c:Int}(hc:inF f c):∀{u v w:List Int},u.length=v.length→(∀x∈u,inF f x)→(∀x∈v,inF f x)→(∀x∈w,inF f x)→DL f (lJ f u v c) w=jD .i64 (DL f u w) (fZ f c (DL f v w)):=by
 intro u
 induction u with
 |nil=>
  intro v w hl _ _ _
  cases v with
  |nil=>simp only [lJ,List.zip_nil_left,List.map_nil,DL];rw [zX hf hc,Aj hf lV]
  |cons y v=>simp at hl
 |cons x u ih=>
  intro v w hl hu hv hw
  cases v with
  |nil=>simp at hl
  |cons y v=>
   cases w with
   |nil=>simp only [DL,lJ,List.zip_cons_cons,List.map_cons];rw [zX hf hc,Aj hf lV]
   |cons z w=>
    have hx:=hu x (List.mem_cons_self ..)
    have hy:=hv y (List.mem_cons_self ..)
    have hz:=hw z (List.mem_cons_self ..)
    have hu2:∀x∈u,inF f x:=fun z hz=>hu z (List.mem_cons_of_mem _ hz)
    have hv2:∀x∈v,inF f x:=fun z hz=>hv z (List.mem_cons_of_mem _ hz)
    have hw2:∀x∈w,inF f x:=fun z hz=>hw z (List.mem_cons_of_mem _ hz)
    have:=ih (by simpa using hl) hu2 hv2 hw2
    unfold lJ at this
    simp only [lJ,List.zip_cons_cons,List.map_cons,DL]
    rw [this]
    have hd1:=KV hf hu2 hw2
    have hd2:=KV hf hv2 hw2
    have hyc:=yE hf hy hc
    rw [adi hf hc (yE hf hy hz) hd2]
    rw [kP hf (QV hf hx hyc) hz,adi hf hz hx hyc,kP hf hz hx]
    rw [show fZ f z (fZ f y c)=fZ f c (fZ f y z) from by
     rw [kP hf hy hc,←adh hf hz hc hy,kP hf hz hc,adh hf hc hz hy,kP hf hz hy]]
    exact awJ hf (yE hf hx hz) (yE hf hc (yE hf hy hz)) hd1 (yE hf hc hd2)
theorem afU{f:TF3}(hf:aO f=true):∀{w:List Int}(n:Nat),(∀x∈w,inF f x)→DL f (List.replicate n 0) w=0:=by
 intro w n
 induction n generalizing w with
 |zero=>intro _;rfl
 |succ n ih=>
  intro hw
  cases w with
  |nil=>rfl
  |cons y w=>
   simp only [List.replicate_succ,DL]
   rw [ih fun z hz=>hw z (List.mem_cons_of_mem _ hz),kP hf lV (hw y (List.mem_cons_self ..)),zX hf (hw y (List.mem_cons_self ..)),Aj hf lV]
theorem Yc{f:TF3}(hf:aO f=true):∀{w:List Int}(n k:Nat),(∀x∈w,inF f x)→n=w.length→k<n→DL f (Tw n k) w=w.getD k 0:=by
 intro w
 induction w with
 |nil=>intro n k _ h1 h2;simp at h1;omega
 |cons y w ih=>
  intro n k hw h1 h2
  simp only [List.length_cons] at h1
  subst h1
  have hy:=hw y (List.mem_cons_self ..)
  have hw2:∀x∈w,inF f x:=fun z hz=>hw z (List.mem_cons_of_mem _ hz)
  cases k with
  |zero=>
   simp only [Tw,List.replicate_succ,List.set_cons_zero,DL,List.getD_cons_zero]
   rw [afU hf _ hw2,kP hf (aha hf) hy,Wv hf hy,Rp hf hy]
  |succ k=>
   have:=ih w.length k hw2 rfl (by omega)
   unfold Tw at this
   simp only [Tw,List.replicate_succ,List.set_cons_succ,DL,List.getD_cons_succ]
   rw [this,kP hf lV hy,zX hf hy]
   refine Aj hf ?_
   rw [List.getD_eq_getElem?_getD,List.getElem?_eq_getElem (by omega)]
   exact hw2 _ (List.getElem_mem _)
theorem alj{f:TF3}(hf:aO f=true){M:Nat}{src:Nat→List Int}{w:List Int}(hw:∀x∈w,inF f x):∀(cs:List Int)(k:Nat)(acc:List Int),okV f M acc→(∀x∈cs,inF f x)→(∀j,k≤j→j<k+cs.length→okV f M (src j)) →
  DL f (uM f src k acc cs) w=jD .i64 (DL f acc w) (DL f cs ((List.range' k cs.length).map fun j=>DL f (src j) w)):=by
 intro cs
 induction cs with
 |nil=>intro k acc h _ _;simp only [uM,DL];rw [Rp hf (KV hf h.2 hw)]
 |cons x cs ih=>
  intro k acc h hx hs
  have hk:=hs k (Nat.le_refl _) (by simp)
  have hx0:=hx x (List.mem_cons_self ..)
  have hx2:∀y∈cs,inF f y:=fun y hy=>hx y (List.mem_cons_of_mem _ hy)
  have hs2:∀j,k+1≤j→j<k+1+cs.length→okV f M (src j):=fun j h1 h2=>hs j (by omega) (by simp;omega)
  have hd:∀y∈(List.range' (k+1) cs.length).map (fun j=>DL f (src j) w),inF f y:=by
   intro y hy
   obtain ⟨j,hj,rfl⟩:=List.mem_map.1 hy
   have:=List.mem_range'_1.1 hj
   exact KV hf (hs2 j (by omega) (by omega)).2 hw
  unfold uM
  rw [ih (k+1) _ (QI hf h hk hx0) hx2 hs2,an4 hf hx0 (by rw [h.1,hk.1]) h.2 hk.2 hw]
  simp only [List.length_cons,List.range'_succ,List.map_cons,DL]
  exact F9 hf (KV hf h.2 hw) (yE hf hx0 (KV hf hk.2 hw)) (KV hf hx2 hd)
-- shared
def cell(L:List (List Int))(j c:Nat):Int:=(L.getD j []).getD c 0
theorem cell_of{L:List (List Int)}{j c:Nat}{r:List Int}{x:Int}(h:L[j]?=some r)(hx:r[c]?=some x):cell L j c=x:=by
 unfold cell;rw [nZ h,nZ hx]
theorem aiH{L:List (List Int)}{j c:Nat}{r:List Int}(h:L[j]?=some r):cell L j c=r.getD c 0:=by
 unfold cell;rw [nZ h]
theorem amO{f:TF3}{n:Nat}{L:List (List Int)}(h:GR f n L)(j c:Nat):inF f (cell L j c):=by
 unfold cell
 cases hj:L[j]? with
 |none=>rw [List.getD_eq_getElem?_getD (l:=L),hj];exact lV
 |some r=>
  rw [nZ hj,List.getD_eq_getElem?_getD]
  cases hc:r[c]? with
  |none=>exact lV
  |some x=>exact (Bb h hj).2 x (List.mem_of_getElem? hc)
theorem agd{f:TF3}{n:Nat}{L:List (List Int)}(h:GR f n L){j c:Nat}(hc:c<n){r:List Int}(hr:L[j]?=some r):uF c r = !decide (cell L j c=0):=by
 have hx:=List.getElem?_eq_getElem (show c<r.length by rw [(Bb h hr).1];exact hc)
 rw [cell_of hr hx]
 unfold uF
 rw [hx]
theorem ajg{α:Type}(p:α→Bool):∀(l:List α)(i:Nat){k:Nat},lF p i l=((i+k:Nat):Int)→∀j,j<k→∀x,l[j]?=some x→p x=false:=by
 intro l
 induction l with
 |nil=>intro i k h j hj x hx;simp at hx
 |cons y l ih=>
  intro i k h j hj x hx
  rcases Bool.eq_false_or_eq_true (p y) with hp|hp
  ·simp only [lF,hp,cond_true] at h;omega
  ·simp only [lF,hp,cond_false] at h
   cases j with
   |zero=>simp only [List.getElem?_cons_zero,Option.some.injEq] at hx;subst hx;exact hp
   |succ j=>exact ih (i+1) (k:=k-1) (by rw [h];congr 1;omega) j (by omega) x (by simpa using hx)
theorem aeQ{f:TF3}(hf:aO f=true){n c:Nat}(hc:c<n){a:Nat}{L:List (List Int)}(h:GR f n L) :
  ((∀j,a≤j→j<L.length→cell L j c=0)∧iE f c (a,L)=(a,L)) ∨
  ∃(k:Nat) (G:List (List Int)),a≤k∧k<L.length∧cell L k c≠0∧(∀j,a≤j→j<k→cell L j c=0)∧iE f c (a,L)=(a+1,G)∧GR f n G∧G.length=L.length ∧
   (∀e,e<n→cell G a e=fZ f (cell L k e) (yC f (cell L k c))) ∧
   ∀j,j<L.length→j≠a→∀e,e<n→cell G j e=jD .i64 (cell L (if j=k then a else j) e) (fZ f (cell L (if j=k then a else j) c) (cell G a e)):=by
 have hok:=KW (c:=c) (s:=(a,L)) hf h
 rcases wu (uF c) (L.drop a) a with ⟨h1,h2⟩|⟨k,row,h1,h2,h3⟩
 ·left
  refine ⟨fun j hj hl=>?_,?_⟩
  ·have hr:=List.getElem?_eq_getElem hl
   have hm:L[j]∈L.drop a:=by
    refine List.mem_of_getElem? (i:=j-a) ?_
    rw [List.getElem?_drop,show a+(j-a)=j by omega]
    exact hr
   have:=h2 _ hm
   rw [agd h hc hr] at this
   simpa using this
  ·unfold iE
   dsimp only
   rw [h1]
   rfl
 ·right
  have hak:L[a+k]?=some row:=by rw [←h1,List.getElem?_drop]
  have hlt:=(List.getElem?_eq_some_iff.1 hak).1
  obtain ⟨r0,hr0⟩:∃r0,L[a]?=some r0:=⟨_,List.getElem?_eq_getElem (by omega)⟩
  obtain ⟨x,hx,hx0⟩:=ahC h2
  have hxf:=(Bb h hak).2 x (List.mem_of_getElem? hx)
  have hrl:=(Bb h hak).1
  have hst:iE f c (a,L)=(a+1,xO f c a (Kg f c (a+k) a L)):=by
   unfold iE
   dsimp only
   rw [h3,decide_eq_false (by omega),cond_false,Int.toNat_natCast]
  have hp:Kg f c (a+k) a L=(L.set (a+k) r0).set a (row.map fun y=>fZ f y (yC f x)):=by
   unfold Kg Jt
   rw [hak,hr0]
   simp only [hx]
  have hpg:=abH (c:=c) (k:=a+k) (a:=a) hf h
  have hpa:(Kg f c (a+k) a L)[a]?=some (row.map fun y=>fZ f y (yC f x)):=by rw [hp];exact List.getElem?_set_self (by simp;omega)
  have hcl:xO f c a (Kg f c (a+k) a L)=(Kg f c (a+k) a L).mapIdx (kD f c a (row.map fun y=>fZ f y (yC f x))):=by
   unfold xO;rw [hpa]
  have hcg:=afR (c:=c) (a:=a) hf hpg.1
  have hkc:cell L (a+k) c=x:=cell_of hak hx
  have hone:fZ f x (yC f x)=1:=(zT hf hxf).2 hx0
  have hownc:(row.map fun y=>fZ f y (yC f x))[c]?=some 1:=by rw [List.getElem?_map,hx,Option.map_some,hone]
  have hga:(xO f c a (Kg f c (a+k) a L))[a]?=some (row.map fun y=>fZ f y (yC f x)):=by
   rw [hcl,List.getElem?_mapIdx,hpa,Option.map_some]
   unfold kD
   rw [hownc]
   simp
  refine ⟨a+k,xO f c a (Kg f c (a+k) a L),by omega,hlt,by rw [hkc];exact hx0,fun j h4 h5=>?_,hst,hcg.1,by rw [hcg.2,hpg.2],fun e he=>?_,fun j hj hja e he=>?_⟩
  ·-- those before the pivot
   have hr:=List.getElem?_eq_getElem (show j<L.length by omega)
   have hb:=ajg (uF c) (L.drop a) a h3 (j-a) (by omega) L[j] (by rw [List.getElem?_drop,show a+(j-a)=j by omega];exact hr)
   rw [agd h hc hr] at hb
   simpa using hb
  ·have hy:=List.getElem?_eq_getElem (show e<row.length by omega)
   rw [cell_of hak hy,hkc]
   exact cell_of hga (by rw [List.getElem?_map,hy];rfl)
  ·have hj0:(Kg f c (a+k) a L)[j]?=L[if j=a+k then a else j]?:=by
    rw [hp,List.getElem?_set_ne (Ne.symm hja),List.getElem?_set]
    by_cases hjk:j=a+k
    ·rw [if_pos hjk.symm,if_pos hlt,if_pos hjk,hr0]
    ·rw [if_neg (Ne.symm hjk),if_neg hjk]
   obtain ⟨r,hr⟩:∃r,L[if j=a+k then a else j]?=some r:=⟨_,List.getElem?_eq_getElem (by split<;>omega)⟩
   rw [hr] at hj0
   obtain ⟨hrl2,hrf2⟩:=Bb h hr
   have hz:=List.getElem?_eq_getElem (show c<r.length by omega)
   have hy:=List.getElem?_eq_getElem (show e<r.length by omega)
   have hye:=List.getElem?_eq_getElem (show e<(row.map fun y=>fZ f y (yC f x)).length by simp;omega)
   have hyf:=hrf2 _ (List.mem_of_getElem? hy)
   have hown:=(Bb hpg.1 hpa).2
   rw [cell_of hr hy,cell_of hr hz,cell_of hga hye]
   have hgj:(xO f c a (Kg f c (a+k) a L))[j]?=some (kD f c a (row.map fun y=>fZ f y (yC f x)) j r):=by
    rw [hcl,List.getElem?_mapIdx,hj0,Option.map_some]
   have hwe:=hown _ (List.mem_of_getElem? hye)
   unfold kD at hgj
   rw [hz] at hgj
   dsimp only at hgj
   rw [decide_eq_false hja,Bool.false_or] at hgj
   by_cases h0:r[c]=0
   ·rw [decide_eq_true h0,cond_true] at hgj
    rw [cell_of hgj hy,h0,kP hf lV hwe,zX hf hwe,Rp hf hyf]
   ·rw [decide_eq_false h0,cond_false] at hgj
    refine cell_of hgj ?_
    rw [List.getElem?_map]
    rw [show (r.zip (row.map fun y=>fZ f y (yC f x)))[e]?=some (r[e],(row.map fun y=>fZ f y (yC f x))[e]'(by simp;omega)) from List.getElem?_zip_eq_some.2 ⟨hy,hye⟩]
    rfl
-- shared
structure TA(f:TF3)(n c a:Nat)(L:List (List Int))(p:List Nat):Prop where
 gr:GR f n L
 ac:a≤c
 al:a≤L.length
 pl:p.length=a
 plt:∀q∈p,q<c
 pinc:p.Pairwise (· < ·)
 low:∀j,a≤j→j<L.length→∀e,e<c→cell L j e=0
 dia:∀i q,p[i]?=some q→∀j,j<L.length→cell L j q=if j=i then 1 else 0
 lead:∀i q,p[i]?=some q→∀e,e<q→cell L i e=0
 full:a=c→p=List.range c
theorem TA.start{f:TF3}{n:Nat}{L:List (List Int)}(h:GR f n L):TA f n 0 0 L []:=
 ⟨h,Nat.le_refl _,Nat.zero_le _,rfl,fun _ h=>absurd h List.not_mem_nil,List.Pairwise.nil,fun _ _ _ _ h=>absurd h (Nat.not_lt_zero _),fun i q h=>absurd h (by simp),fun i q h=>absurd h (by simp),fun _=>rfl⟩
theorem TA.step{f:TF3}(hf:aO f=true){n c a:Nat}{L:List (List Int)}{p:List Nat}(h:TA f n c a L p)(hc hn:c<n):∃p',TA f n (c+1) (iE f c (a,L)).1 (iE f c (a,L)).2 p'∧(iE f c (a,L)).2.length=L.length:=by
 rcases aeQ hf hc (a:=a) h.gr with ⟨h1,h2⟩|⟨k,G,hak,hk,hx,_,h2,hg,hgl,hga,hgj⟩
 ·rw [h2]
  refine ⟨p,⟨h.gr,by have:=h.ac;omega,h.al,h.pl,fun q hq=>by have:=h.plt q hq;omega,h.pinc,fun j hj hl e he=>?_,h.dia,h.lead,fun hh=>by have:=h.ac;dsimp only at hh;omega⟩,rfl⟩
  by_cases hec:e=c
  ·subst hec;exact h1 j hj hl
  ·exact h.low j hj hl e (by omega)
 ·rw [h2]
  have hin:=amO h.gr
  have hgin:=amO hg
  have hxi:=zT hf (hin k c)
  have g1:cell G a c=1:=by rw [hga c hc];exact hxi.2 hx
  have g0:∀e,e<c→cell G a e=0:=by
   intro e he
   rw [hga e (by omega),h.low k hak hk e he,kP hf lV hxi.1,zX hf hxi.1]
  have gj0:∀j,j<L.length→j≠a→∀e,e<c→cell G j e=cell L (if j=k then a else j) e:=by
   intro j hj hja e he
   rw [hgj j hj hja e (by omega),g0 e he,zX hf (hin _ _),Rp hf (hin _ _)]
  have gjc:∀j,j<L.length→j≠a→cell G j c=0:=by
   intro j hj hja
   rw [hgj j hj hja c hc,g1,Wv hf (hin _ _),ao9 hf (hin _ _)]
  have hpa:∀i q,(p++[c])[i]?=some q→(p[i]?=some q∧i<a)∨(i=a∧q=c):=by
   intro i q hi
   rw [List.getElem?_append,h.pl] at hi
   by_cases hia:i<a
   ·rw [if_pos hia] at hi;exact .inl ⟨hi,hia⟩
   ·rw [if_neg hia] at hi
    have:=(List.getElem?_eq_some_iff.1 hi).1
    simp only [List.length_cons,List.length_nil] at this
    have hia2:i=a:=by omega
    subst hia2
    rw [Nat.sub_self] at hi
    exact .inr ⟨rfl,(Option.some.inj hi).symm⟩
  refine ⟨p++[c],⟨hg,by have:=h.ac;dsimp only;omega,by dsimp only;rw [hgl];omega,by simp [h.pl],fun q hq=>?_,?_,fun j hj hl e he=>?_,fun i q hi j hj=>?_,fun i q hi e he=>?_,fun hh=>?_⟩,hgl⟩
  ·rcases List.mem_append.1 hq with hq|hq
   ·have:=h.plt q hq;omega
   ·simp only [List.mem_singleton] at hq;omega
  ·refine List.pairwise_append.2 ⟨h.pinc,List.pairwise_singleton _ _,fun z hz y hy=>?_⟩
   rw [List.mem_singleton.1 hy];exact h.plt z hz
  ·rw [hgl] at hl
   dsimp only at hj
   by_cases hec:e=c
   ·subst hec;exact gjc j hl (by omega)
   ·rw [gj0 j hl (by omega) e (by omega)]
    exact h.low _ (by split<;>omega) (by split<;>omega) e (by omega)
  ·rw [hgl] at hj
   rcases hpa i q hi with ⟨hi,hia⟩|⟨rfl,rfl⟩
   ·have hqc:=h.plt q (List.mem_of_getElem? hi)
    by_cases hja:j=a
    ·subst hja;rw [g0 q hqc,if_neg (by omega)]
    ·rw [gj0 j hj hja q hqc,h.dia i q hi _ (by split<;>omega)]
     by_cases hjk:j=k
     ·rw [if_pos hjk,if_neg (by omega),if_neg (by omega)]
     ·rw [if_neg hjk]
   ·by_cases hja:j=i
    ·subst hja;rw [g1,if_pos rfl]
    ·rw [gjc j hj hja,if_neg hja]
  ·rcases hpa i q hi with ⟨hi,hia⟩|⟨rfl,rfl⟩
   ·have hqc:=h.plt q (List.mem_of_getElem? hi)
    rw [gj0 i (by have:=h.al;omega) (by omega) e (by omega),if_neg (by omega)]
    exact h.lead i q hi e he
   ·exact g0 e he
  ·dsimp only at hh
   rw [h.full (by omega),←List.range_succ]
theorem TA.from{f:TF3}(hf:aO f=true){n:Nat}:∀(m c a:Nat)(L:List (List Int))(p:List Nat),c+m≤n→TA f n c a L p→∃p',TA f n (c+m) (jM f c m (a,L)).1 (jM f c m (a,L)).2 p'∧(jM f c m (a,L)).2.length=L.length:=by
 intro m
 induction m with
 |zero=>intro c a L p _ h;exact ⟨p,h,rfl⟩
 |succ m ih=>
  intro c a L p hc h
  obtain ⟨p1,h1,hl1⟩:=h.step hf (by omega) (by omega)
  obtain ⟨p2,h2,hl2⟩:=ih (c+1) _ _ p1 (by omega) h1
  rw [show c+1+m=c+(m+1) by omega] at h2
  exact ⟨p2,h2,by rw [←hl1];exact hl2⟩
theorem TA.all{f:TF3}(hf:aO f=true){n m:Nat}{L:List (List Int)}(hm:m≤n)(h:GR f n L):∃p,TA f n m (jM f 0 m (0,L)).1 (jM f 0 m (0,L)).2 p∧(jM f 0 m (0,L)).2.length=L.length:=by
 have:=TA.from hf m 0 0 L [] (by omega) (TA.start h)
 rw [Nat.zero_add] at this
 exact this
section
variable {f : TF3} (hf : aO f = true) {n c : Nat} (hc : c < n) {x : List Int} (hx : ∀ y ∈ x, inF f y)
include hc
include hf hx
end
-- shared
-- shared
section
variable {f : TF3} {n a : Nat} {G : List (List Int)} {p : List Nat}
theorem TA.row(h:TA f n n a G p){i:Nat}(hi:i<a):∃r,(G.take a)[i]?=some r∧okV f n r∧(∀e,r.getD e 0=cell G i e):=by
 have:=h.al
 have hr:=List.getElem?_eq_getElem (show i<G.length by omega)
 exact ⟨G[i],by rw [List.getElem?_take_of_lt hi];exact hr,Bb h.gr hr,fun e=>(aiH hr).symm⟩
end
theorem eX{σ β:Type}{step:σ→Tre (σ ⊕ β)}(st:Nat→σ)(n:Nat)(b:β)(hs:∀i,i<n→(step (st i)).run some=some (.inl (st (i+1))))(he:(step (st n)).run some=some (.inr b)):aP step (st 0)=some b:=by
 have key:∀m i,i+m=n→aP step (st i)=some b:=by
  intro m
  induction m with
  |zero=>intro i hi;have hi:i=n:=hi;subst hi;exact fC he
  |succ m ih=>intro i hi;rw [iJ (hs i (by omega))];exact ih (i+1) (by omega)
 exact key n 0 (by omega)
def Wd(l:List Nat):List Int:=l.map fun x:Nat=>(x:Int)
theorem ajl(l:List Nat):(Wd l).length=l.length:=by unfold Wd;exact List.length_map _
-- shared
theorem ahd{d p a:Nat}(hq:(d,p)∈iT)(ha:a<2 ^ d)(h0:a≠0):ql d p a<2 ^ d∧mulN p a (ql d p a)=1:=by
 have h:=List.all_eq_true.1 (List.all_eq_true.1 Wh (d,p) hq) a (List.mem_range.2 ha)
 rw [Bool.and_eq_true,Bool.or_eq_true] at h
 exact ⟨by simpa [Nat.blt_eq] using h.1,(h.2.resolve_left fun h=>h0 (Nat.eq_of_beq_eq_true h)) |> Nat.eq_of_beq_eq_true⟩
theorem HV{a d:Nat}:a%2 ^ d<2 ^ d:=Nat.mod_lt _ (Nat.two_pow_pos d)
theorem one_mod{d:Nat}(hd:1≤d):1%2 ^ d=1:=Nat.mod_eq_of_lt (Nat.lt_of_lt_of_le (by decide:1<2 ^ 1) (Nat.pow_le_pow_right (by decide) hd))
theorem TS{d p:Nat}(hq:(d,p)∈iT):1≤d∧d≤5:=by
 have:∀q∈iT,1≤q.1∧q.1≤5:=by decide
 exact this _ hq
def foN(d p:Nat)(hq:(d,p)∈iT):FO where
 q:=2 ^ d
 dg:=d
 mul:=fun a b=>mulN p (a%2 ^ d) (b%2 ^ d)
 hq:=Nat.lt_of_lt_of_le (by decide:1<2 ^ 1) (Nat.pow_le_pow_right (by decide) (TS hq).1)
 hd:=(TS hq).1
 lt:=fun a b=>(ng hq HV HV).1
 xlt:=fun a b ha hb=>Nat.xor_lt_two_pow ha hb
 comm:=fun a b=>(ng hq HV HV).2
 assoc:=fun a b c=>by rw [Nat.mod_eq_of_lt (ng hq HV HV).1,Nat.mod_eq_of_lt (ng hq (a:=b%2 ^ d) (b:=c%2 ^ d) HV HV).1];exact adj hq HV HV HV
 add:=fun a b c=>by rw [Nat.xor_mod_two_pow];exact BN hq HV _ _ HV HV
 one:=fun a ha=>by rw [Nat.mod_eq_of_lt ha,one_mod (TS hq).1];exact (Ww hq ha).1
 inv:=fun a ha h0=>⟨ql d p a,(ahd hq ha h0).1,by rw [Nat.mod_eq_of_lt ha,Nat.mod_eq_of_lt (ahd hq ha h0).1];exact (ahd hq ha h0).2⟩
theorem alA{f:TF3}(hf:aO f=true):(f.1.toNat,f.2.1.toNat)∈iT∧f=((f.1.toNat:Int),(f.2.1.toNat:Int),()):=by
 obtain ⟨d,p,hq,rfl⟩:=zK hf
 exact ⟨hq,rfl⟩
def FOf(f:TF3)(hf:aO f=true):FO:=foN f.1.toNat f.2.1.toNat (alA hf).1
section
variable {f : TF3} (hf : aO f = true)
theorem GD:(FOf f hf).q=2 ^ f.1.toNat:=rfl
theorem ajj{x:Int}:inF f x ↔ ∃n:Nat,x=(n:Int)∧n<(FOf f hf).q:=by
 unfold inF
 rw [GD]
 constructor
 ·intro h;exact ⟨x.toNat,by omega,by omega⟩
 ·rintro ⟨n,rfl,h⟩;exact ⟨by omega,by exact_mod_cast h⟩
theorem F63{n:Nat}(h:n<(FOf f hf).q):n<2 ^ 63:=by
 rw [GD] at h
 have:=Nat.pow_le_pow_right (show 0<2 by decide) (show f.1.toNat≤63 by have:=(VD hf).2;omega)
 omega
theorem auV{a b:Nat}(ha:a<(FOf f hf).q)(hb:b<(FOf f hf).q):fZ f (a:Int) (b:Int)=(((FOf f hf).mul a b:Nat):Int):=by
 rw [GD] at ha hb
 unfold fZ FOf foN
 simp only [Int.toNat_natCast]
 rw [Nat.mod_eq_of_lt ha,Nat.mod_eq_of_lt hb]
theorem arn{a b:Nat}(ha:a<(FOf f hf).q)(hb:b<(FOf f hf).q):jD .i64 (a:Int) (b:Int)=((a^^^b:Nat):Int):=lW (F63 hf ha) (F63 hf hb)
theorem auT{a:Nat}(ha:a<(FOf f hf).q):∃b:Nat,yC f (a:Int)=(b:Int)∧b<(FOf f hf).q∧(a≠0→(FOf f hf).mul a b=1):=by
 obtain ⟨h1,h2⟩:=zT hf ((ajj hf).2 ⟨a,rfl,ha⟩)
 obtain ⟨b,hb,hbl⟩:=(ajj hf).1 h1
 refine ⟨b,hb,hbl,fun h0=>?_⟩
 have:=h2 (by omega)
 rw [hb,auV hf ha hbl] at this
 omega
end
def inL(F:FO)(l:List Nat):Prop:=∀x∈l,x<F.q
theorem ahc{f:TF3}(hf:aO f=true){l:List Int}(h:∀x∈l,inF f x):∃L,l=Wd L∧inL (FOf f hf) L:=by
 induction l with
 |nil=>exact ⟨[],rfl,fun x hx=>absurd hx List.not_mem_nil⟩
 |cons x l ih=>
  obtain ⟨L,rfl,hL⟩:=ih fun y hy=>h y (List.mem_cons_of_mem _ hy)
  obtain ⟨n,rfl,hn⟩:=(ajj hf).1 (h x (List.mem_cons_self ..))
  refine ⟨n::L,rfl,fun y hy=>?_⟩
  rcases List.mem_cons.1 hy with rfl|hy
  ·exact hn
  ·exact hL y hy
theorem ahb{f:TF3}(hf:aO f=true){L:List Nat}(h:inL (FOf f hf) L):∀x∈Wd L,inF f x:=by
 intro x hx
 obtain ⟨n,hn,rfl⟩:=List.mem_map.1 hx
 exact (ajj hf).2 ⟨n,rfl,h n hn⟩
theorem ate{F:FO}{l:List Nat}(h:inL F l)(i:Nat):cf l i<F.q:=by
 unfold cf
 rw [List.getD_eq_getElem?_getD]
 cases hi:l[i]? with
 |none=>exact F.zlt
 |some c=>exact h c (List.mem_of_getElem? hi)
theorem apr{l:List Nat}{i:Nat}(h:i<l.length):l[i]?=some (cf l i):=by
 unfold cf
 rw [List.getD_eq_getElem?_getD,List.getElem?_eq_getElem h];rfl
-- shared
structure Rre(f:TF3)(n:Nat)(C:List (List Int))(p:List Nat):Prop where
 gr:GR f n C
 pl:p.length=C.length
 plt:∀q∈p,q<n
 pinc:p.Pairwise (· < ·)
 dia:∀i q,p[i]?=some q→∀j,j<C.length→cell C j q=if j=i then 1 else 0
 lead:∀i q,p[i]?=some q→∀e,e<q→cell C i e=0
theorem afQ{G:List (List Int)}{a j:Nat}(h:j<a)(e:Nat):cell (G.take a) j e=cell G j e:=by
 unfold cell
 have:(G.take a).getD j []=G.getD j []:=by rw [List.getD_eq_getElem?_getD,List.getElem?_take_of_lt h,List.getD_eq_getElem?_getD]
 rw [this]
theorem avC{f:TF3}(hf:aO f=true){n:Nat}{L:List (List Int)}(h:GR f n L):∃p,Rre f n (TR f n L) p:=by
 obtain ⟨p,hI,_⟩:=TA.all hf (Nat.le_refl n) h
 have hal:=hI.al
 have hlen:(TR f n L).length=(jM f 0 n (0,L)).1:=aiW hf h
 refine ⟨p,arC hf h,by rw [hlen];exact hI.pl,hI.plt,hI.pinc,fun i q hq j hj=>?_,fun i q hq e he=>?_⟩
 ·rw [hlen] at hj
  unfold TR
  rw [afQ hj]
  exact hI.dia i q hq j (by omega)
 ·have hi:=(List.getElem?_eq_some_iff.1 hq).1
  have:=hI.pl
  unfold TR
  rw [afQ (by omega)]
  exact hI.lead i q hq e he
section
variable {f : TF3} {n : Nat} {C : List (List Int)} {p : List Nat}
theorem Rre.row(h:Rre f n C p){i:Nat}(hi:i<C.length):∃r,C[i]?=some r∧okV f n r∧∀e,e<n→r[e]?=some (cell C i e):=by
 have hr:=List.getElem?_eq_getElem hi
 have hok:=Bb h.gr hr
 refine ⟨_,hr,hok,fun e he=>?_⟩
 have:=List.getElem?_eq_getElem (show e<C[i].length by rw [hok.1];exact he)
 rw [aiH hr,nZ this]
 exact this
theorem inv_one(hf:aO f=true):yC f 1=1:=by
 have hq:=(FOf f hf).hq
 obtain ⟨b,h1,h2,h3⟩:=auT hf (a:=1) hq
 have h4:=h3 (by decide)
 have h1:yC f 1=(b:Int):=h1
 rw [FO.comm,FO.one _ _ h2] at h4
 rw [h1,h4];rfl
theorem Rre.hit(hf:aO f=true)(h:Rre f n C p){a c:Nat}(hq:p[a]?=some c):iE f c (a,C)=(a+1,C):=by
 have ha:a<C.length:=by have:=(List.getElem?_eq_some_iff.1 hq).1;have:=h.pl;omega
 have hc:=h.plt c (List.mem_of_getElem? hq)
 obtain ⟨r,hr,hrok,hrc⟩:=h.row ha
 have h1:cell C a c=1:=by rw [h.dia a c hq a ha,if_pos rfl]
 have hr1:r[c]?=some 1:=by rw [hrc c hc,h1]
 have hidx:lF (uF c) a (C.drop a)=(a:Int):=by
  have:C.drop a=r::C.drop (a+1):=by
   obtain ⟨h2,h3⟩:=List.getElem?_eq_some_iff.1 hr
   rw [List.drop_eq_getElem_cons h2,h3]
  rw [this,lF]
  have hz:uF c r=true:=by unfold uF;rw [hr1];rfl
  rw [hz];rfl
 have hs:Jt f c r=r:=by
  unfold Jt
  rw [hr1]
  show (r.map fun y=>fZ f y (yC f 1))=r
  rw [inv_one hf]
  conv=>rhs;rw [←List.map_id r]
  exact List.map_congr_left fun y hy=>Wv hf (hrok.2 y hy)
 have hset:C.set a r=C:=by
  obtain ⟨h2,h3⟩:=List.getElem?_eq_some_iff.1 hr
  rw [←h3,List.set_getElem_self]
 have hp:Kg f c a a C=C:=by
  unfold Kg
  rw [hr]
  show (C.set a r).set a (Jt f c r)=C
  rw [hs,hset,hset]
 have hcl:xO f c a C=C:=by
  unfold xO
  rw [hr]
  show C.mapIdx (kD f c a r)=C
  apply List.ext_getElem?
  intro i
  rw [List.getElem?_mapIdx]
  cases hi:C[i]? with
  |none=>rfl
  |some x=>
   have hil:=(List.getElem?_eq_some_iff.1 hi).1
   obtain ⟨x',hx',_,hxc⟩:=h.row hil
   rw [hi] at hx'
   obtain rfl:=Option.some.inj hx'
   show some (kD f c a r i x)=some x
   unfold kD
   rw [hxc c hc,h.dia a c hq i hil]
   by_cases hia:i=a
   ·subst hia;simp
   ·rw [if_neg hia];simp
 unfold iE
 dsimp only
 rw [hidx,decide_eq_false (by omega),cond_false,Int.toNat_natCast,hp,hcl]
theorem Rre.miss(h:Rre f n C p){a c:Nat}(hc:c<n)(hgt:∀i q,a≤i→p[i]?=some q→c<q):iE f c (a,C)=(a,C):=by
 have hidx:lF (uF c) a (C.drop a) = -1:=by
  rcases wu (uF c) (C.drop a) a with h1|⟨k,x,hx,hp,_⟩
  ·exact h1.1
  ·exfalso
   rw [List.getElem?_drop] at hx
   have hil:=(List.getElem?_eq_some_iff.1 hx).1
   obtain ⟨x',hx',_,hxc⟩:=h.row hil
   rw [hx] at hx'
   obtain rfl:=Option.some.inj hx'
   have hq:=List.getElem?_eq_getElem (show a+k<p.length by rw [h.pl];exact hil)
   have h0:=h.lead (a+k) _ hq c (hgt _ _ (by omega) hq)
   have h2:=hxc c hc
   unfold uF at hp
   rw [h2,h0] at hp
   exact absurd hp (by simp)
 unfold iE
 dsimp only
 rw [hidx,decide_eq_true (by decide),cond_true]
theorem Rre.idem(hf:aO f=true)(h:Rre f n C p):TR f n C=C:=by
 have key:∀(m c a:Nat),c+m=n→a≤C.length→(∀i q,p[i]?=some q→(q<c↔i<a))→jM f c m (a,C)=(C.length,C):=by
  intro m
  induction m with
  |zero=>
   intro c a hcm ha hI
   have hac:a=C.length:=by
    rcases Nat.lt_or_ge a C.length with hlt|hge
    ·exfalso
     have hq:=List.getElem?_eq_getElem (show a<p.length by rw [h.pl];exact hlt)
     have h1:=h.plt _ (List.mem_of_getElem? hq)
     have h2:=(hI a _ hq).1 (by omega)
     omega
    ·omega
   rw [hac];rfl
  |succ m ih=>
   intro c a hcm ha hI
   unfold jM
   by_cases hq:p[a]?=some c
   ·rw [h.hit hf hq]
    have hal:a<C.length:=by have:=(List.getElem?_eq_some_iff.1 hq).1;have:=h.pl;omega
    refine ih (c+1) (a+1) (by omega) (by omega) fun i q hi=>?_
    have hI':=hI i q hi
    obtain ⟨h1,h1'⟩:=List.getElem?_eq_some_iff.1 hi
    obtain ⟨h2,h2'⟩:=List.getElem?_eq_some_iff.1 hq
    constructor
    ·intro hqc
     rcases Nat.lt_or_ge q c with hl|hl
     ·have:=hI'.1 hl;omega
     ·have hqe:q=c:=by omega
      rcases Nat.lt_trichotomy i a with hia|hia|hia
      ·omega
      ·omega
      ·have:=List.pairwise_iff_getElem.1 h.pinc a i h2 h1 hia
       omega
    ·intro hia
     rcases Nat.lt_or_ge i a with hl|hl
     ·have:=hI'.2 hl;omega
     ·have:i=a:=by omega
      subst this
      omega
   ·rw [h.miss (by omega) fun i q hai hi=>?_]
    ·refine ih (c+1) a (by omega) ha fun i q hi=>?_
     have hI':=hI i q hi
     constructor
     ·intro hqc
      rcases Nat.lt_or_ge q c with hl|hl
      ·exact hI'.1 hl
      ·exfalso
       have hqe:q=c:=by omega
       subst hqe
       have hia:¬i<a:=fun hh=>by have:=hI'.2 hh;omega
       have hne:i≠a:=fun hh=>hq (by rw [←hh];exact hi)
       have hap:a<p.length:=by have:=(List.getElem?_eq_some_iff.1 hi).1;omega
       have h3:=List.getElem?_eq_getElem hap
       have h4:=hI a _ h3
       obtain ⟨h1,h1'⟩:=List.getElem?_eq_some_iff.1 hi
       have:=List.pairwise_iff_getElem.1 h.pinc a i hap h1 (by omega)
       have:=h4.1 (by omega)
       omega
     ·intro hia
      have:=hI'.2 hia;omega
    ·have hI':=hI i q hi
     rcases Nat.lt_trichotomy c q with hl|hl|hl
     ·exact hl
     ·exfalso
      subst hl
      have hne:i≠a:=fun hh=>hq (by rw [←hh];exact hi)
      have hap:a<p.length:=by have:=(List.getElem?_eq_some_iff.1 hi).1;omega
      have h3:=List.getElem?_eq_getElem hap
      have h4:=hI a _ h3
      obtain ⟨h1,h1'⟩:=List.getElem?_eq_some_iff.1 hi
      have:=List.pairwise_iff_getElem.1 h.pinc a i hap h1 (by omega)
      have:=h4.1 (by omega)
      omega
     ·have:=hI'.1 hl;omega
 unfold TR
 rw [key n 0 0 (by omega) (Nat.zero_le _) fun i q _=>by omega]
 show C.take C.length=C
 exact List.take_length
def aeR(f:TF3)(n:Nat)(C:List (List Int))(m:List Int):List Int:=uM f (fun i=>C.getD i []) 0 (List.replicate n 0) m
def aeA(u w:List Int):List Int:=(u.zip w).map fun p=>jD .i64 p.1 p.2
theorem rows_ok(h:GR f n C){j:Nat}(hj:j<C.length):okV f n (C.getD j []):=by
 have hr:=List.getElem?_eq_getElem hj
 rw [nZ hr]
 exact Bb h hr
theorem apI(hf:aO f=true)(h:GR f n C){m:List Int}(hm:okV f C.length m):okV f n (aeR f n C m):=
 Oq hf m 0 _ (KJ n) hm.2 fun j _ hj=>rows_ok h (by rw [hm.1] at hj;omega)
theorem Rre.aln(hf:aO f=true)(h:Rre f n C p){m:List Int}(hm:okV f C.length m){i q:Nat}(hq:p[i]?=some q):(aeR f n C m).getD q 0=m.getD i 0:=by
 have hqn:=h.plt q (List.mem_of_getElem? hq)
 have hi:i<C.length:=by have:=(List.getElem?_eq_some_iff.1 hq).1;have:=h.pl;omega
 have hu:=akN hf n q
 have he:=apI hf h.gr hm
 have h1:=Yc hf n q he.2 he.1.symm hqn
 rw [Yb hf hu.2 he.2] at h1
 rw [←h1]
 unfold aeR
 rw [alj hf hu.2 m 0 _ (KJ n) hm.2 fun j _ hj=>rows_ok h.gr (by rw [hm.1] at hj;omega),afU hf n hu.2]
 have hl:(List.range' 0 m.length).map (fun j=>DL f (C.getD j []) (Tw n q))=Tw m.length i:=by
  apply List.ext_getElem?
  intro j
  rw [List.getElem?_map]
  by_cases hj:j<m.length
  ·rw [List.getElem?_range' hj,Option.map_some,Nat.zero_add,Nat.one_mul]
   have hok:=rows_ok h.gr (show j<C.length by rw [←hm.1];exact hj)
   rw [Yb hf hok.2 hu.2,Yc hf n q hok.2 hok.1.symm hqn]
   have hcell:(C.getD j []).getD q 0=cell C j q:=rfl
   rw [hcell,h.dia i q hq j (by rw [←hm.1];exact hj)]
   unfold Tw
   rw [List.getElem?_set]
   by_cases hji:j=i
   ·subst hji;rw [if_pos rfl,if_pos rfl,if_pos (by simp;exact hj)]
   ·rw [if_neg hji,if_neg (fun hh=>hji hh.symm),List.getElem?_replicate,if_pos hj]
  ·rw [List.getElem?_eq_none (by simp;omega),List.getElem?_eq_none (by unfold Tw;simp;omega)]
   rfl
 rw [hl,Yb hf hm.2 (akN hf _ _).2,Yc hf m.length i hm.2 rfl (by rw [hm.1];exact hi)]
 exact Aj hf (by
  rcases Nat.lt_or_ge i m.length with hlt|hge
  ·have:=List.getElem?_eq_getElem hlt
   rw [nZ this];exact hm.2 _ (List.mem_of_getElem? this)
  ·rw [hm.1] at hge;omega)
theorem Rre.arD(hf:aO f=true)(h:Rre f n C p){m m':List Int}(hm:okV f C.length m)(hm':okV f C.length m')(he:aeR f n C m=aeR f n C m'):m=m':=by
 apply List.ext_getElem?
 intro i
 by_cases hi:i<C.length
 ·have hq:=List.getElem?_eq_getElem (show i<p.length by rw [h.pl];exact hi)
  have h1:=h.aln hf hm hq
  have h2:=h.aln hf hm' hq
  rw [he,h2] at h1
  have h3:=List.getElem?_eq_getElem (show i<m.length by rw [hm.1];exact hi)
  have h4:=List.getElem?_eq_getElem (show i<m'.length by rw [hm'.1];exact hi)
  rw [nZ h3,nZ h4] at h1
  rw [h3,h4,h1]
 ·rw [List.getElem?_eq_none (by rw [hm.1];omega),List.getElem?_eq_none (by rw [hm'.1];omega)]
theorem aph(hf:aO f=true){x y:Int}(hx:inF f x)(hy:inF f y):∀{a b r:List Int},(∀z∈a,inF f z)→(∀z∈b,inF f z)→(∀z∈r,inF f z)→lJ f (aeA a b) r (jD .i64 x y)=aeA (lJ f a r x) (lJ f b r y):=by
 intro a
 induction a with
 |nil=>intro b r _ _ _;simp [lJ,aeA]
 |cons a0 a ih=>
  intro b r ha hb hr
  cases b with
  |nil=>simp [lJ,aeA]
  |cons b0 b=>
   cases r with
   |nil=>simp [lJ,aeA]
   |cons r0 r=>
    have ha0:=ha a0 (.head _)
    have hb0:=hb b0 (.head _)
    have hr0:=hr r0 (.head _)
    have:=ih (b:=b) (r:=r) (fun z hz=>ha z (.tail _ hz)) (fun z hz=>hb z (.tail _ hz)) (fun z hz=>hr z (.tail _ hz))
    unfold lJ aeA at this ⊢
    simp only [List.zip_cons_cons,List.map_cons]
    rw [this,adi hf hr0 hx hy,awJ hf ha0 hb0 (yE hf hr0 hx) (yE hf hr0 hy)]
theorem aiK{src:Nat→List Int}(hf:aO f=true):∀(cs ds:List Int)(k:Nat)(a b:List Int),cs.length=ds.length→okV f n a→okV f n b→(∀x∈cs,inF f x)→(∀x∈ds,inF f x)→(∀j,k≤j→j<k+cs.length→okV f n (src j)) →
  uM f src k (aeA a b) (aeA cs ds)=aeA (uM f src k a cs) (uM f src k b ds):=by
 intro cs
 induction cs with
 |nil=>
  intro ds k a b hl _ _ _ _ _
  cases ds with
  |nil=>rfl
  |cons d ds=>simp at hl
 |cons c cs ih=>
  intro ds k a b hl ha hb hc hd hs
  cases ds with
  |nil=>simp at hl
  |cons d ds=>
   have hk:=hs k (Nat.le_refl _) (by simp)
   have hc0:=hc c (.head _)
   have hd0:=hd d (.head _)
   have hx:aeA (c::cs) (d::ds)=jD .i64 c d::aeA cs ds:=rfl
   rw [hx]
   unfold uM
   rw [aph hf hc0 hd0 ha.2 hb.2 hk.2]
   exact ih ds (k+1) _ _ (by simpa using hl) (QI hf ha hk hc0) (QI hf hb hk hd0) (fun x hx=>hc x (.tail _ hx)) (fun x hx=>hd x (.tail _ hx)) (fun j h1 h2=>hs j (by omega) (by simp;omega))
end
-- shared
def vk(M:Int):List Int→Option (List Int)
 |[]=>none
 |c::t=>match vk M t with
  |some t'=>some (c::t')
  |none=>cond (decide (c=M-1)) none (some ((c+1)::List.replicate t.length 0))
theorem Q6(M:Int):∀n:Nat,vk M (List.replicate n (M-1))=none:=by
 intro n
 induction n with
 |zero=>rfl
 |succ n ih=>simp only [List.replicate_succ,vk,ih,decide_true,cond_true]
theorem YN(M c:Int)(hc:c≠M-1)(k:Nat):∀zs:List Int,vk M (zs++c::List.replicate k (M-1))=some (zs++(c+1)::List.replicate k 0):=by
 intro zs
 induction zs with
 |nil=>simp only [List.nil_append,vk,Q6,decide_eq_false hc,cond_false,List.length_replicate]
 |cons z zs ih=>simp only [List.cons_append,vk,ih]
theorem Ph(M:Int):∀xs:List Int,xs=List.replicate xs.length (M-1)∨∃zs c k,c≠M-1∧xs=zs++c::List.replicate k (M-1):=by
 intro xs
 induction xs with
 |nil=>exact .inl rfl
 |cons x xs ih=>
  rcases ih with h|⟨zs,c,k,hc,h⟩
  ·by_cases hx:x=M-1
   ·refine .inl ?_
    rw [List.length_cons,List.replicate_succ,←h,hx]
   ·exact .inr ⟨[],x,xs.length,hx,by rw [List.nil_append,←h]⟩
  ·exact .inr ⟨x::zs,c,k,hc,by rw [h];rfl⟩
section
variable {step : Int × List Int → Tre ((Int × List Int) ⊕ (Int × List Int))} {M : Int} {N : Nat}
theorem X5(h1:∀l,(step (-1,l)).run some=some (.inr (-1,l)))(h2:∀(i:Nat)(l:List Int)(x:Int),l[i]?=some x→l.length≤N→(step ((i:Int),l)).run some=some (cond (decide (x=M-1)) (.inl ((i:Int)-1,l.set i 0)) (.inr ((i:Int),l)))) :
  ∀k j:Nat,k+j≤N→aP step ((k:Int)-1,List.replicate k (M-1)++List.replicate j 0)=some (-1,List.replicate (k+j) 0):=by
 intro k
 induction k with
 |zero=>intro j _;rw [show ((0:Nat):Int)-1 = -1 from rfl,fC (h1 _)];simp
 |succ k ih=>
  intro j hN
  have hx:(List.replicate (k+1) (M-1)++List.replicate j 0)[k]?=some (M-1):=by
   rw [List.getElem?_append_left (by simp),List.getElem?_replicate];simp
  have hs:(List.replicate (k+1) (M-1)++List.replicate j 0).set k 0=List.replicate k (M-1)++List.replicate (j+1) 0:=by
   rw [List.replicate_succ',List.append_assoc,List.set_append_right _ _ (by simp)]
   simp [List.replicate_succ]
  have h:=h2 k _ _ hx (by simp;omega)
  rw [decide_eq_true rfl,cond_true,hs] at h
  rw [show ((k+1:Nat):Int)-1=(k:Int) by omega,iJ h,ih (j+1) (by omega),show k+(j+1)=k+1+j by omega]
theorem X4(h2:∀(i:Nat)(l:List Int)(x:Int),l[i]?=some x→l.length≤N→(step ((i:Int),l)).run some=some (cond (decide (x=M-1)) (.inl ((i:Int)-1,l.set i 0)) (.inr ((i:Int),l)))){zs:List Int}{c:Int}(hc:c≠M-1) :
  ∀k j:Nat,zs.length+k+j+1≤N→aP step (((zs.length+k:Nat):Int),zs++c::(List.replicate k (M-1)++List.replicate j 0))=some ((zs.length:Int),zs++c::List.replicate (k+j) 0):=by
 intro k
 induction k with
 |zero=>
  intro j hN
  have h:=h2 zs.length (zs++c::(List.replicate 0 (M-1)++List.replicate j 0)) c (by simp) (by simp;omega)
  rw [decide_eq_false hc,cond_false] at h
  rw [Nat.add_zero,fC h]
  simp
 |succ k ih=>
  intro j hN
  have hx:(zs++c::(List.replicate (k+1) (M-1)++List.replicate j 0))[zs.length+(k+1)]?=some (M-1):=by
   rw [List.getElem?_append_right (by omega),show zs.length+(k+1)-zs.length=k+1 by omega,List.getElem?_cons_succ,List.getElem?_append_left (by simp),List.getElem?_replicate]
   simp
  have hs:(zs++c::(List.replicate (k+1) (M-1)++List.replicate j 0)).set (zs.length+(k+1)) 0=zs++c::(List.replicate k (M-1)++List.replicate (j+1) 0):=by
   rw [List.set_append_right _ _ (by omega),show zs.length+(k+1)-zs.length=k+1 by omega,List.set_cons_succ,List.replicate_succ',List.append_assoc,List.set_append_right _ _ (by simp)]
   simp [List.replicate_succ]
  have h:=h2 _ _ _ hx (by simp;omega)
  rw [decide_eq_true rfl,cond_true,hs,show ((zs.length+(k+1):Nat):Int)-1=((zs.length+k:Nat):Int) by omega] at h
  rw [iJ h,ih (j+1) (by omega),show k+(j+1)=k+1+j by omega]
end
inductive ML {α:Type} (nx:α→Option α):α→List α→Option α→Prop
 |last {x:α} {e:Option α}:nx x=e→ML nx x [x] e
 |next {x y:α} {L:List α} {e:Option α}:nx x=some y→ML nx y L e→ML nx x (x::L) e
theorem ML.app{α:Type}{nx:α→Option α}{x y:α}{L L':List α}{e:Option α}(h:ML nx x L (some y))(k:ML nx y L' e):ML nx x (L++L') e:=by
 generalize he:some y=e' at h
 induction h with
 |last h1=>subst he;exact .next h1 k
 |next h1 _ ih=>exact .next h1 (ih he)
def qO(M:Nat):Nat→List (List Int)
 |0=>[[]]
 |n+1=>(List.range M).flatMap fun c:Nat=>(qO M n).map fun t=>(c:Int)::t
theorem Hy(M:Nat):∀(n:Nat)(t:List Int),t∈qO M n↔t.length=n∧∀x∈t,∃k:Nat,x=(k:Int)∧k<M:=by
 intro n
 induction n with
 |zero=>
  intro t
  simp only [qO,List.mem_singleton]
  constructor
  ·rintro rfl;exact ⟨rfl,fun x hx=>by cases hx⟩
  ·exact fun h=>List.eq_nil_of_length_eq_zero h.1
 |succ n ih=>
  intro t
  simp only [qO,List.mem_flatMap,List.mem_map,List.mem_range]
  constructor
  ·rintro ⟨c,hc,u,hu,rfl⟩
   obtain ⟨h1,h2⟩:=(ih u).1 hu
   refine ⟨by simp [h1],fun x hx=>?_⟩
   rcases List.mem_cons.1 hx with rfl|hx
   ·exact ⟨c,rfl,hc⟩
   ·exact h2 x hx
  ·rintro ⟨h1,h2⟩
   cases t with
   |nil=>simp at h1
   |cons x u=>
    obtain ⟨k,rfl,hk⟩:=h2 x (List.mem_cons_self)
    exact ⟨k,hk,u,(ih u).2 ⟨by simpa using h1,fun y hy=>h2 y (List.mem_cons_of_mem _ hy)⟩,rfl⟩
theorem QZ(M:Nat):∀n:Nat,(qO M n).Nodup:=by
 intro n
 induction n with
 |zero=>simp [qO]
 |succ n ih=>
  unfold qO List.Nodup
  rw [List.pairwise_flatMap]
  refine ⟨fun c _=>?_,?_⟩
  ·rw [List.pairwise_map]
   exact List.Pairwise.imp (fun h h2=>h (List.cons.inj h2).2) ih
  ·refine List.Pairwise.imp ?_ (List.nodup_range (n:=M))
   intro a b hab x hx y hy hxy
   obtain ⟨u,_,rfl⟩:=List.mem_map.1 hx
   obtain ⟨v,_,rfl⟩:=List.mem_map.1 hy
   have:=(List.cons.inj hxy).1
   omega
theorem ahj(M:Nat):∀n:Nat,(qO M n).length=M ^ n:=by
 intro n
 induction n with
 |zero=>rfl
 |succ n ih=>
  have key:∀l:List Nat,(l.flatMap fun c:Nat=>(qO M n).map fun t=>(c:Int)::t).length=l.length*M ^ n:=by
   intro l
   induction l with
   |nil=>simp
   |cons c l ihl=>rw [List.flatMap_cons,List.length_append,List.length_map,ih,ihl,List.length_cons,Nat.add_mul,Nat.one_mul,Nat.add_comm]
  rw [qO,key,List.length_range,Nat.pow_succ,Nat.mul_comm]
theorem aj4{M c n:Nat}{x:List Int}{L:List (List Int)}(h:ML (vk M) x L none)(hl:∀t∈L,t.length=n) :
  ML (vk M) ((c:Int)::x) (L.map fun t=>(c:Int)::t) (cond (decide ((c:Int)=(M:Int)-1)) none (some (((c+1:Nat):Int)::List.replicate n 0))):=by
 generalize he:none=e at h
 induction h with
 |last h1=>
  subst he
  refine .last ?_
  simp only [vk,h1]
  rw [hl _ (List.mem_singleton_self _)]
  rfl
 |next h1 _ ih=>
  refine .next ?_ (ih (fun t ht=>hl t (List.mem_cons_of_mem _ ht)) he)
  simp only [vk,h1]
theorem ahL{M:Nat}(hM:1≤M):∀n:Nat,ML (vk M) (List.replicate n 0) (qO M n) none:=by
 intro n
 induction n with
 |zero=>exact .last rfl
 |succ n ih=>
  have hl:∀t∈qO M n,t.length=n:=fun t ht=>((Hy M n t).1 ht).1
  have key:∀k c:Nat,c+(k+1)=M→ML (vk M) ((c:Int)::List.replicate n 0) ((List.range' c (k+1)).flatMap fun c:Nat=>(qO M n).map fun t=>(c:Int)::t) none:=by
   intro k
   induction k with
   |zero=>
    intro c hc
    have h:=aj4 (c:=c) ih hl
    rw [decide_eq_true (by omega),cond_true] at h
    simpa using h
   |succ k ihk=>
    intro c hc
    have h:=aj4 (c:=c) ih hl
    rw [decide_eq_false (by omega),cond_false] at h
    rw [List.range'_succ,List.flatMap_cons]
    exact h.app (ihk (c+1) (by omega))
  obtain ⟨m,rfl⟩:∃m,M=m+1:=⟨M-1,by omega⟩
  rw [qO,List.range_eq_range',List.replicate_succ]
  exact key m 0 (by omega)
theorem adw{α β γ σ:Type}{nx:α→Option α}{step:σ→Tre (σ ⊕ β)}(mk:γ→α→σ)(fin:γ→β)(F:γ→α→γ)(I:List α→γ→Prop){all:List α}
  (hs:∀(pre:List α)(x:α)(g:γ),x∈all→x ∉ pre→pre.length<all.length→I pre g→(step (mk g x)).run some=some (match nx x with
   |some t=>.inl (mk (F g x) t)
   |none=>.inr (fin (F g x)))∧I (pre++[x]) (F g x)) :
  ∀{x:α}{L:List α},ML nx x L none→∀(pre:List α)(g:γ),pre++L=all→all.Nodup→I pre g→∃g',aP step (mk g x)=some (fin g')∧I all g':=by
 intro x L h
 generalize he:none=e at h
 induction h with
 |last h1=>
  rename_i x e
  intro pre g ha hn hI
  subst he
  have hx:x ∉ pre:=fun hx=>by
   rw [←ha,List.nodup_append] at hn
   exact hn.2.2 x hx x (List.mem_singleton_self _) rfl
  obtain ⟨h2,h3⟩:=hs pre x g (by rw [←ha];simp) hx (by rw [←ha];simp) hI
  rw [h1] at h2
  rw [ha] at h3
  exact ⟨_,fC h2,h3⟩
 |next h1 _ ih=>
  rename_i x y L e _
  intro pre g ha hn hI
  have hx:x ∉ pre:=fun hx=>by
   rw [←ha,List.nodup_append] at hn
   exact hn.2.2 x hx x (List.mem_cons_self) rfl
  obtain ⟨h2,h3⟩:=hs pre x g (by rw [←ha];simp) hx (by rw [←ha];simp) hI
  rw [h1] at h2
  obtain ⟨g',h4,h5⟩:=ih he (pre++[x]) (F g x) (by rw [List.append_assoc];exact ha) hn h3
  exact ⟨g',by rw [iJ h2];exact h4,h5⟩
structure Best{α:Type}(m:α→Int)(L:List α)(least:Int)(best:α)(many:Bool):Prop where
 mem:best∈L
 at_:m best=least
 low:∀y∈L,least≤m y
 many:many=true ↔ ∃y∈L,y≠best∧m y=least
theorem Best.first{α:Type}(m:α→Int)(x:α):Best m [x] (m x) x false:=
 ⟨List.mem_singleton_self _,rfl,fun y hy=>by rw [List.mem_singleton.1 hy];exact Int.le_refl _,by
  constructor
  ·intro h;cases h
  ·rintro ⟨y,hy,h,_⟩;exact absurd (List.mem_singleton.1 hy) h⟩
theorem Best.more{α:Type}{m:α→Int}{L:List α}{a:Int}{b:α}{c:Bool}{x:α}(h:Best m L a b c)(hx:a<m x):Best m (L++[x]) a b c:=by
 refine ⟨by simp [h.mem],h.at_,fun y hy=>?_,?_⟩
 ·rcases List.mem_append.1 hy with hy|hy
  ·exact h.low y hy
  ·rw [List.mem_singleton.1 hy];omega
 ·rw [h.many]
  constructor
  ·rintro ⟨y,hy,h1,h2⟩;exact ⟨y,by simp [hy],h1,h2⟩
  ·rintro ⟨y,hy,h1,h2⟩
   rcases List.mem_append.1 hy with hy|hy
   ·exact ⟨y,hy,h1,h2⟩
   ·rw [List.mem_singleton.1 hy] at h2;omega
theorem Best.eq{α:Type}{m:α→Int}{L L':List α}{a a':Int}{b b':α}{c c':Bool}(h:Best m L a b c)(h':Best m L' a' b' c')(hL:∀y,y∈L↔y∈L'):a=a'∧c=c'∧(c=false→b=b'):=by
 have h1:=h.low b' ((hL _).2 h'.mem)
 have h2:=h'.low b ((hL _).1 h.mem)
 have e1:=h.at_
 have e2:=h'.at_
 have ha:a=a':=by omega
 subst ha
 have key:∀{L L':List α}{b b':α}{c c':Bool},Best m L a b c→Best m L' a b' c'→(∀y,y∈L↔y∈L')→c=true→c'=true:=by
  intro L L' b b' c c' h h' hL hc
  obtain ⟨y,hy,h3,h4⟩:=h.many.1 hc
  by_cases hb:y=b'
  ·exact h'.many.2 ⟨b,(hL _).1 h.mem,fun e=>h3 (by rw [hb,←e]),h.at_⟩
  ·exact h'.many.2 ⟨y,(hL _).1 hy,hb,h4⟩
 have hc:c=c':=by
  cases hc:c
  ·cases hc':c'
   ·rfl
   ·subst hc;subst hc'
    exact absurd (key h' h (fun y=>(hL y).symm) rfl) (by simp)
  ·subst hc;exact (key h h' hL rfl).symm
 refine ⟨rfl,hc,fun hf=>?_⟩
 by_cases hb:b'=b
 ·exact hb.symm
 ·have:=h.many.2 ⟨b',(hL _).2 h'.mem,hb,h'.at_⟩
  rw [hf] at this
  cases this
def adP (p0:List Int):Tre (List Int):=
 .ite ((0+p0.length)*8≤bS∧1≤8)<|
 .ret ([]++p0)
def adQ (p0:List Int):Option (List Int):=(adP p0).run some
theorem afp(p0 y:List Int)(h:xP p0=some y):adQ p0=some y:=by
 obtain ⟨hl,rfl⟩:=ada h
 have hb:(0+p0.length)*8≤bS∧1≤8:=by unfold bS;omega
 unfold adQ adP
 rw [Tre.run_ite,if_pos hb]
 rfl
def adR:Env:=⟨tau,[],[]⟩
def amo:FnI:=fnI Try.f188 []
def W9 (_:Bool) (_:List Int):(List Int)→aA:=fun r=>⟨(.ref (1,0) []),[],[⟨false,.il,.own,r⟩]⟩
theorem akj:∀(zp0:Bool)(p0:List Int),bI adR amo ⟨[(.imm zp0 .il p0)],[]⟩=(adP p0).run fun r=>some (W9 zp0 p0 r):=fun _ _=>by kernel_rfl
def amn (av:List AV) (rs:List Root):Tre aA:=
 aB av fun a0_ av0=>
 aL av0<|
 aL rs<|
 bE .il a0_ fun z2 d1=>
 .mat (xP d1) fun r=>.ret (W9 z2 d1 r)
def adS:Ctr:=dD [] amn
theorem akk:Contract Try.prog .none 188 adS:=aD (V:=adR) aT aI Try.func188 bF fun _ _ _=>aH fun _ _=>bn<|bn<|dI fun _ _=>fun h=>by intros;subst_vars;exact Am (akj _ _) (afp _) h
def ad4 (p0:Int) (p1:Int):Tre Int:=
 .ite (0≤aN .u64 p1)<|
 let v1:=Pe .i64 p0 (aN .u64 p1)
 .ret (LC .i64 v1 1)
def ad5 (p0:Int) (p1:Int):Option Int:=(ad4 p0 p1).run some
def aiE(x j:Int):Option Int:=agF (inR j 0 9223372036854775807) (LC .i64 (Pe .i64 x j) 1)
theorem afx(p0 p1 y:Int)(h:aiE p0 p1=some y):ad5 p0 p1=some y:=by
 obtain ⟨hl,rfl⟩:=wP h
 rw [sM] at hl
 unfold ad5 ad4
 rw [YF hl.1 (by omega),Tre.run_ite,if_pos hl.1]
 rfl
theorem aiF{x:Int}{j:Nat}(h:j≤1048576):aiE x (j:Int)=some (LC .i64 (Pe .i64 x j) 1):=wQ (by rw [sM];omega)
def ad6:Env:=⟨tau,[],[]⟩
def amw:FnI:=fnI Try.f222 []
def Xk (_:Int) (_:Int):Int→aA:=fun r=>⟨(.i r),[],[]⟩
theorem akt:∀(p0 p1:Int),bI ad6 amw ⟨[(.i p0),(.i p1)],[]⟩=(ad4 p0 p1).run fun r=>some (Xk p0 p1 r):=fun _ _=>by kernel_rfl
def amv (av:List AV) (rs:List Root):Tre aA:=
 aB av fun a0_ av0=>
 aB av0 fun a1_ av1=>
 aL av1<|
 aL rs<|
 aC true .n a0_ fun d1=>
 aC true .n a1_ fun d2=>
 .mat (aiE d1 d2) fun r=>.ret (Xk d1 d2 r)
def ad7:Ctr:=dD [] amv
theorem aku:Contract Try.prog .none 222 ad7:=aD (V:=ad6) aT aI Try.func222 bF fun _ _ _=>aH fun _ _=>aH fun _ _=>bn<|bn<|aM fun _=>aM fun _=>fun h=>by intros;subst_vars;exact Am (akt _ _) (afx _ _) h
def kg (oq:Int) (Cy:List Int):(Int×Int)→Tre ((Int×Int) ⊕ Int):=fun s8=>
 .cond (decide (s8.2<(Cy.length:Int)))
  (.cond (decide (s8.1<0))
   (.ite (0≤s8.2∧s8.2<(Cy.length:Int))<|
   .mat (Cy[s8.2.toNat]?) fun x2=>
   .mat (aiE x2 oq) fun r3=>
   .cond (decide (r3=1))
    (.ret (.inl (s8.2,aN .i64 (s8.2+1))))
    (.ret (.inl (s8.1,aN .i64 (s8.2+1)))))
   (.ret (.inr s8.1)))
  (.ret (.inr s8.1))
def iy (Ap:Int) (Aq:Int):(Int×(List Int))→Tre ((Int×(List Int)) ⊕ (List Int)):=fun s16=>
 .cond (decide (s16.1<(s16.2.length:Int)))
  (.ite (0≤s16.1∧s16.1<(s16.2.length:Int))<|
  .mat (s16.2[s16.1.toNat]?) fun x7=>
  .mat (aiE x7 Ap) fun r8=>
  .cond (decide (r8=1))
   (.ite (0≤s16.1∧s16.1<(s16.2.length:Int))<|
   .mat (s16.2[s16.1.toNat]?) fun x9=>
   .ite (0≤s16.1∧s16.1<(s16.2.length:Int))<|
   .mat (s16.2[s16.1.toNat]?) fun _=>
   let v11:=s16.2.set s16.1.toNat (jD .i64 x9 Aq)
   .ret (.inl (aN .i64 (s16.1+1),v11)))
   (.ret (.inl (aN .i64 (s16.1+1),s16.2))))
  (.ret (.inr s16.2))
def nO (Ay:Int) (Az:Int):(Int×(List Int))→Tre ((Int×(List Int)) ⊕ (List Int)):=fun s21=>
 .cond (decide (s21.1<(s21.2.length:Int)))
  (.ite (0≤s21.1∧s21.1<(s21.2.length:Int))<|
  .mat (s21.2[s21.1.toNat]?) fun x13=>
  .mat (aiE x13 Ay) fun r14=>
  .cond (decide (r14=1))
   (.ite (0≤s21.1∧s21.1<(s21.2.length:Int))<|
   .mat (s21.2[s21.1.toNat]?) fun x15=>
   .ite (0≤s21.1∧s21.1<(s21.2.length:Int))<|
   .mat (s21.2[s21.1.toNat]?) fun _=>
   let v17:=s21.2.set s21.1.toNat (jD .i64 x15 Az)
   .ret (.inl (aN .i64 (s21.1+1),v17)))
   (.ret (.inl (aN .i64 (s21.1+1),s21.2))))
  (.ret (.inr s21.2))
def fO (aX:Int):(Int×(List Int)×(List Int))→Tre ((Int×(List Int)×(List Int)) ⊕ (List Int)):=fun s4=>
 .cond (decide (s4.1<aX))
  (.mat (aP (kg s4.1 s4.2.1) (-1,0)) fun l4=>
  .cond (decide (l4<0))
   (.ret (.inl (aN .i64 (s4.1+1),s4.2.1,s4.2.2)))
   (.ite (0≤l4∧l4<(s4.2.1.length:Int))<|
   .mat (s4.2.1[l4.toNat]?) fun x5=>
   .ite (0≤l4∧l4<(s4.2.1.length:Int))<|
   .mat (s4.2.1[l4.toNat]?) fun _=>
   .mat (aP (iy s4.1 x5) (0,s4.2.1.set l4.toNat 0)) fun l12=>
   .mat (aP (nO s4.1 x5) (0,s4.2.2)) fun l18=>
   .ite ((l18.length+1)*8≤bS∧1≤8)<|
   .ret (.inl (aN .i64 (s4.1+1),l12,l18++([x5])))))
  (.ret (.inr s4.2.2))
def Mg (p0:Int) (p1:List Int):Tre (List Int):=
 .mat (xP p1) fun r1=>
 .mat (aP (fO p0) (0,r1,[])) fun l19=>
 .ret l19
def Qg (p0:Int) (p1:List Int):Option (List Int):=(Mg p0 p1).run some
def arB (m:Int) (xs:List Int):Option (List Int):=agF (inR m 0 62&&L6 m.toNat xs) (aiV xs)
theorem Xl(c:Nat)(hc:c≤62)(xs:List Int)(hl:xs.length≤1048576):aP (kg (c:Int) xs) (-1,0)=some (lF (fun x=>y7 x (c:Int)) 0 xs):=by
 have:=pR (xs:=xs) (step:=kg (c:Int) xs) (fun i acc=>(acc,(i:Int))) (fun i acc x=>cond (decide (acc<0)) (.inl (cond (y7 x (c:Int)) (i:Int) acc)) (.inr acc)) id (fun _ _=>True) (by
  intro i acc x hx _
  refine ⟨?_,fun _ _=>trivial⟩
  have hi:i<xs.length:=(List.getElem?_eq_some_iff.1 hx).1
  unfold kg
  rw [Tre.aF,show decide (((acc,(i:Int)):Int×Int).2<(xs.length:Int))=true from by simpa using hi,cond_true,Tre.aF]
  by_cases h0:acc<0
  ·rw [show decide (acc<0)=true from by simpa using h0]
   rw [cond_true,eG hx,ah (aiF (by omega):aiE x (c:Int)=_),Tre.aF]
   show cond (y7 x (c:Int)) _ _=_
   cases y7 x (c:Int)
   ·rw [cond_false,Tre.aK,aV (by omega)];rfl
   ·rw [cond_true,Tre.aK,aV (by omega)];rfl
  ·rw [show decide (acc<0)=false from by simpa using h0]
   rfl)
  (by
  intro acc _
  unfold kg
  exact dY) xs 0 (-1) rfl (Nat.zero_le _) trivial
 rw [show (((-1:Int),(0:Int)):Int×Int)=(-1,((0:Nat):Int)) from rfl,this]
 have key:∀(l:List Int)(i:Nat),Bh (β:=Int) (fun (i:Nat) (acc:Int) x=>cond (decide (acc<0)) (.inl (cond (y7 x (c:Int)) (i:Int) acc)) (.inr acc)) id i (-1) l=lF (fun x=>y7 x (c:Int)) i l:=by
  intro l
  induction l with
  |nil=>intro i;rfl
  |cons x l ih=>
   intro i
   simp only [Bh,lF,show decide ((-1:Int)<0)=true from rfl,cond_true]
   cases y7 x (c:Int)
   ·exact ih (i+1)
   ·have hn:decide ((i:Int)<0)=false:=by simp
    cases l with
    |nil=>rfl
    |cons y l=>simp only [Bh,cond_true,hn,cond_false]
 rw [key]
theorem Io(c r:Nat)(hc:c≤62)(hr:r<2 ^ 62)(l:List Nat)(hb:∀n∈l,n<2 ^ 62)(hl:l.length≤1048576):aP (iy (c:Int) (r:Int)) (0,up l)=some (up (l.map (gK c r))):=by
 have:=agh (step:=iy (c:Int) (r:Int)) (fun _ x=>gK c r x) l id (by
  intro i x hx
  have hi:i<l.length:=(List.getElem?_eq_some_iff.1 hx).1
  have hx2:=XO (abG (g:=fun _ x=>gK c r x) (i:=i) hx)
  rw [if_neg (Nat.lt_irrefl i)] at hx2
  have hlen:(up (xA (fun _ x=>gK c r x) i l)).length=l.length:=by rw [kJ,WC]
  have hxb:=hb x (List.mem_of_getElem? hx)
  rw [←ajZ hx]
  unfold iy
  rw [fq hx2,ah (aiF (by omega):aiE (x:Int) (c:Int)=_),Tre.aF]
  show cond (y7 (x:Int) (c:Int)) _ _=_
  rw [D6 (by omega) (by omega)]
  have he:gK c r x=cond (x.testBit c) (x^^^r) x:=rfl
  rw [he]
  cases x.testBit c
  ·rw [cond_false,Tre.aK,aV (by omega)]
   refine congrArg (fun z=>some (Sum.inl (((i+1:Nat):Int),z))) ?_
   rw [cond_false,←MI]
   exact (List.ext_getElem? fun j=>by
    rw [List.getElem?_set]
    by_cases hj:i=j
    ·subst hj;rw [if_pos rfl,hx2,if_pos (List.getElem?_eq_some_iff.1 hx2).1]
    ·rw [if_neg hj]).symm
  ·rw [cond_true,eG hx2,eG hx2,Tre.aK,aV (by omega),lW (by omega) (by omega),Int.toNat_natCast,cond_true,←MI])
  (by
  unfold iy
  have:((xA (fun _ x=>gK c r x) l.length l).length:Int)=(l.length:Int):=by rw [WC]
  show (Tre.cond (decide ((l.length:Int)<((up (xA (fun _ x=>gK c r x) l.length l)).length:Int))) _ _).run some=_
  rw [kJ,WC]
  exact dY)
 rw [this,ahl]
 rfl
theorem RZ:nO=iy:=rfl
theorem Xo(m:Nat)(hm:m≤62)(orig:List Nat):∀(n c:Nat)(E:List (Nat×Nat))(R:List Nat),c+n=m→Inv orig c E R→E.length≤c→R.length≤1048576→(∀x∈R,x<2 ^ m)→(∀a∈E,a.2<2 ^ m) →
  ∃E':List Nat,aP (fO (m:Int)) ((c:Int),up R,up (E.map (·.2)))=some (up E')∧qQ orig E':=by
 intro n
 have hp:=L9 hm
 induction n with
 |zero=>
  intro c E R hc hI _ _ hR _
  have:c=m:=hc
  subst this
  refine ⟨E.map (·.2),fC ?_,hI.done fun x hx=>MK (hR x hx) (hI.low x hx)⟩
  unfold fO
  exact dY
 |succ n ih=>
  intro c E R hc hI hE hl hR hEb
  have hcm:c<m:=by omega
  have hstep:∀E2 R2,Inv orig (c+1) E2 R2→E2.length≤c+1→R2.length≤1048576→(∀x∈R2,x<2 ^ m)→(∀a∈E2,a.2<2 ^ m)→(fO (m:Int) ((c:Int),up R,up (E.map (·.2)))).run some=some (.inl (((c+1:Nat):Int),up R2,up (E2.map (·.2)))) →
    ∃E':List Nat,aP (fO (m:Int)) ((c:Int),up R,up (E.map (·.2)))=some (up E')∧qQ orig E':=by
   intro E2 R2 h1 h2 h3 h4 h5 h6
   rw [iJ h6]
   exact ih (c+1) E2 R2 (by omega) h1 h2 h3 h4 h5
  have hfind:=Xl c (by omega) (up R) (by rw [kJ];exact hl)
  have hw:aN .i64 ((c:Int)+1)=((c+1:Nat):Int):=aV (by omega)
  have hdec:decide ((c:Int)<(m:Int))=true:=by simpa using hcm
  rcases wu (fun x=>y7 x (c:Int)) (up R) 0 with ⟨h1,h2⟩|⟨k,x,h1,h2,h3⟩
  ·refine hstep E R (hI.skip fun x hx=>?_) (by omega) hl hR hEb ?_
   ·have:=h2 (x:Int) (List.mem_map.2 ⟨x,hx,rfl⟩)
    have hxb:=hR x hx
    rwa [D6 (by omega) (by omega)] at this
   ·unfold fO
    rw [Tre.aF]
    show cond (decide ((c:Int)<(m:Int))) _ _=_
    rw [hdec,cond_true,ah (hfind.trans (by rw [h1])),Tre.aF]
    simp only [show decide ((-1:Int)<0)=true from rfl,cond_true,Tre.aK,hw]
  ·obtain ⟨r,hr1,rfl⟩:∃r:Nat,R[k]?=some r∧(r:Int)=x:=by
    simp only [up,List.getElem?_map,Option.map_eq_some_iff] at h1
    exact h1
   have hrm:r∈R:=List.mem_of_getElem? hr1
   have hrb:=hR r hrm
   rw [D6 (by omega) (by omega)] at h2
   rw [Nat.zero_add] at h3
   have hk:k<R.length:=(List.getElem?_eq_some_iff.1 hr1).1
   have hE2:((E.map fun a=>(a.1,gK c r a.2))++[(c,r)]).map (·.2)=(E.map (·.2)).map (gK c r)++[r]:=by simp [List.map_map,Function.comp_def]
   refine hstep (E.map (fun a=>(a.1,gK c r a.2))++[(c,r)]) ((R.set k 0).map (gK c r)) (hI.step hrm h2 ?_ ?_) (by simp;omega) (by simpa using hl) ?_ ?_ ?_
   ·intro y hy
    obtain ⟨x,hx,rfl⟩:=List.mem_map.1 hy
    rcases List.mem_or_eq_of_mem_set hx with hx|rfl
    ·exact .inr ⟨x,hx,rfl⟩
    ·exact .inl (by unfold gK;simp)
   ·intro x hx
    obtain ⟨j,hj⟩:=List.getElem?_of_mem hx
    by_cases hjk:k=j
    ·subst hjk;rw [hr1] at hj;exact .inl (Option.some.inj hj).symm
    ·refine .inr (List.mem_map.2 ⟨x,List.mem_of_getElem? (i:=j) ?_,rfl⟩)
     rw [List.getElem?_set,if_neg hjk,hj]
   ·intro y hy
    obtain ⟨x,hx,rfl⟩:=List.mem_map.1 hy
    refine Ov hrb ?_
    rcases List.mem_or_eq_of_mem_set hx with hx|rfl
    ·exact hR x hx
    ·exact Nat.two_pow_pos m
   ·intro a ha
    rcases List.mem_append.1 ha with ha|ha
    ·obtain ⟨b,hb,rfl⟩:=List.mem_map.1 ha
     exact Ov hrb (hEb b hb)
    ·simp only [List.mem_singleton] at ha;subst ha;exact hrb
   ·have e1:=Io c r (by omega) (by omega) (R.set k 0) (fun x hx=>by
     rcases List.mem_or_eq_of_mem_set hx with hx|rfl
     ·have:=hR x hx;omega
     ·decide) (by simpa using hl)
    have e2:aP (nO (c:Int) (r:Int)) (0,up (E.map (·.2)))=some (up ((E.map (·.2)).map (gK c r))):=by
     rw [RZ]
     exact Io c r (by omega) (by omega) (E.map (·.2)) (fun x hx=>by
     obtain ⟨a,ha,rfl⟩:=List.mem_map.1 hx
     have:=hEb a ha
     omega) (by simp;omega)
    unfold fO
    rw [Tre.aF]
    show cond (decide ((c:Int)<(m:Int))) _ _=_
    rw [hdec,cond_true,ah (hfind.trans (by rw [h3])),Tre.aF]
    rw [show decide ((k:Int)<0)=false from by simp,cond_false,eG h1,eG h1,Int.toNat_natCast]
    rw [show (up R).set k 0=up (R.set k 0) from MI R k 0,ah e1,ah e2]
    rw [Tre.run_ite,if_pos (by unfold bS;rw [kJ];simp;omega),Tre.aK,hw,hE2]
    simp [up]
theorem Xp(p0:Int)(p1 y:List Int)(h:arB p0 p1=some y):Qg p0 p1=some y:=by
 obtain ⟨hl,rfl⟩:=wP h
 rw [Bool.and_eq_true,sM] at hl
 obtain ⟨m,rfl⟩:∃m:Nat,p0=(m:Int):=⟨p0.toNat,by omega⟩
 obtain ⟨ns,rfl,hlen,hb,hn⟩:=Y1 hl.2
 rw [Int.toNat_natCast] at hb
 obtain ⟨E,h1,h2⟩:=Xo m (by omega) ns m 0 [] ns (by omega) (Inv.start ns) (Nat.zero_le _) hlen hb (fun a ha=>by cases ha)
 unfold Qg Mg
 have e1:xP (up ns)=some (up ns):=ahk (by rw [kJ];exact hlen)
 have h1:aP (fO (m:Int)) (0,up ns,[])=some (up E):=h1
 rw [ah e1,ah h1]
 unfold aiV
 rw [hn,agO h2]
 rfl
def gP:Env:=⟨tau,[(188,adS),(222,ad7)],[]⟩
def jH:Code:=(Try.f194.body).getD .skip
def Fj (mK:Int) (oq:Int) (Cy:List Int) (T9:List Int):(Int×Int)→St:=fun x=>bR [(0,(.i mK)),(5,(.ref (7,0) [])),(6,(.ref (8,0) [])),(7,(.i oq)),(8,(.i x.1)),(9,(.i x.2))] [((7,0),some ⟨false,.il,.own,Cy⟩),((8,0),some ⟨false,.il,.own,T9⟩)]
def Dv (mK:Int) (oq:Int) (Cy:List Int) (T9:List Int):Int→Ex×St:=fun x=>(.exit 2,bR [(0,(.i mK)),(5,(.ref (7,0) [])),(6,(.ref (8,0) [])),(7,(.i oq)),(8,(.i x))] [((7,0),some ⟨false,.il,.own,Cy⟩),((8,0),some ⟨false,.il,.own,T9⟩)])
def Xn (s:St):Tre (Ex×St):=
 aC true .n (s.tmps 0) fun d2=>
 fA (7,0) [] (s.tmps 5)<|
 fA (8,0) [] (s.tmps 6)<|
 aC true .n (s.tmps 7) fun d6=>
 aC true .n (s.tmps 8) fun d8=>
 aC true .n (s.tmps 9) fun d10=>
 aW false .il (s.roots (7,0)) fun m12 d13=>
 asM .own m12<|
 aW false .il (s.roots (8,0)) fun m15 d16=>
 asM .own m15<|
 .mat (aP (kg d6 d13) (d8,d10)) fun x=>.ret (Dv d2 d6 d13 d16 x)
def qI:bB:=⟨([0,5,6,7,8,9],[(7,0),(8,0)]),([0,5,6,7,8],[(7,0),(8,0)]),Xn⟩
def Dr (K7:Int) (Ap:Int) (Aq:Int) (K8:List Int):(Int×(List Int))→St:=fun x=>bR [(0,(.i K7)),(5,(.ref (7,0) [])),(6,(.ref (8,0) [])),(7,(.i Ap)),(10,(.i Aq)),(11,(.i x.1))] [((7,0),some ⟨false,.il,.own,x.2⟩),((8,0),some ⟨false,.il,.own,K8⟩)]
def BZ (K7:Int) (Ap:Int) (Aq:Int) (K8:List Int):(List Int)→Ex×St:=fun x=>(.exit 4,bR [(0,(.i K7)),(5,(.ref (7,0) [])),(6,(.ref (8,0) [])),(7,(.i Ap)),(10,(.i Aq))] [((7,0),some ⟨false,.il,.own,x⟩),((8,0),some ⟨false,.il,.own,K8⟩)])
def U6 (s:St):Tre (Ex×St):=
 aC true .n (s.tmps 0) fun d2=>
 fA (7,0) [] (s.tmps 5)<|
 fA (8,0) [] (s.tmps 6)<|
 aC true .n (s.tmps 7) fun d6=>
 aC true .n (s.tmps 10) fun d8=>
 aC true .n (s.tmps 11) fun d10=>
 aW false .il (s.roots (7,0)) fun m12 d13=>
 asM .own m12<|
 aW false .il (s.roots (8,0)) fun m15 d16=>
 asM .own m15<|
 .mat (aP (iy d6 d8) (d10,d13)) fun x=>.ret (BZ d2 d6 d8 d16 x)
def oN:bB:=⟨([0,5,6,7,10,11],[(7,0),(8,0)]),([0,5,6,7,10],[(7,0),(8,0)]),U6⟩
def Dt (Lc:Int) (Ay:Int) (Az:Int) (Ld:List Int):(Int×(List Int))→St:=fun x=>bR [(0,(.i Lc)),(5,(.ref (7,0) [])),(6,(.ref (8,0) [])),(7,(.i Ay)),(10,(.i Az)),(12,(.i x.1))] [((7,0),some ⟨false,.il,.own,Ld⟩),((8,0),some ⟨false,.il,.own,x.2⟩)]
def Ca (Lc:Int) (Ay:Int) (Az:Int) (Ld:List Int):(List Int)→Ex×St:=fun x=>(.exit 6,bR [(0,(.i Lc)),(5,(.ref (7,0) [])),(6,(.ref (8,0) [])),(7,(.i Ay)),(10,(.i Az))] [((7,0),some ⟨false,.il,.own,Ld⟩),((8,0),some ⟨false,.il,.own,x⟩)])
def U7 (s:St):Tre (Ex×St):=
 aC true .n (s.tmps 0) fun d2=>
 fA (7,0) [] (s.tmps 5)<|
 fA (8,0) [] (s.tmps 6)<|
 aC true .n (s.tmps 7) fun d6=>
 aC true .n (s.tmps 10) fun d8=>
 aC true .n (s.tmps 12) fun d10=>
 aW false .il (s.roots (7,0)) fun m12 d13=>
 asM .own m12<|
 aW false .il (s.roots (8,0)) fun m15 d16=>
 asM .own m15<|
 .mat (aP (nO d6 d8) (d10,d16)) fun x=>.ret (Ca d2 d6 d8 d13 x)
def oO:bB:=⟨([0,5,6,7,10,12],[(7,0),(8,0)]),([0,5,6,7,10],[(7,0),(8,0)]),U7⟩
def Fh (aX:Int):(Int×(List Int)×(List Int))→St:=fun x=>bR [(0,(.i aX)),(5,(.ref (7,0) [])),(6,(.ref (8,0) [])),(7,(.i x.1))] [((7,0),some ⟨false,.il,.own,x.2.1⟩),((8,0),some ⟨false,.il,.own,x.2.2⟩)]
def Du (_:Int):(List Int)→Ex×St:=fun x=>(.exit 0,bR [(6,(.ref (8,0) []))] [((8,0),some ⟨false,.il,.own,x⟩)])
def Xm (s:St):Tre (Ex×St):=
 aC true .n (s.tmps 0) fun d2=>
 fA (7,0) [] (s.tmps 5)<|
 fA (8,0) [] (s.tmps 6)<|
 aC true .n (s.tmps 7) fun d6=>
 aW false .il (s.roots (7,0)) fun m8 d9=>
 asM .own m8<|
 aW false .il (s.roots (8,0)) fun m11 d12=>
 asM .own m11<|
 .mat (aP (fO d2) (d6,d9,d12)) fun x=>.ret (Du d2 x)
def qH:bB:=⟨([0,5,6,7],[(7,0),(8,0)]),([6],[(8,0)]),Xm⟩
def iK:List (Nat×bB):=[(8,qI),(16,oN),(21,oO),(4,qH)]
theorem Qj:∀(mK oq:Int)(Cy T9:List Int)(x:(Int×Int))(c:St→Option (Ex×St)),den gP iK (aU jH 1) (Fj mK oq Cy T9 x) (bY qI.kp qI.kx c)=(kg oq Cy x).run (bZ (Fj mK oq Cy T9) (Dv mK oq Cy T9) c):=fun _ _ _ _ _ _=>by
 kernel_rfl
theorem U9:bP gP iK (aU jH 1) qI:=dw fun _ _ _=>aM fun _=>kW<|kW<|aM fun _=>aM fun _=>aM fun _=>bN fun _ _=>tM<|bN fun _ _=>tM<|fun h _ e14 _ e11 e9 e7 e5 e4 e3 e1=>bT (Qj _ _ _ _) h (by subst_vars;exact aR rfl rfl ⟨e1,e3,e4,e5,e7,e9,trivial⟩ ⟨e11,e14,trivial⟩)
theorem NS:∀(K7 Ap Aq:Int)(K8:List Int)(x:(Int×(List Int)))(c:St→Option (Ex×St)),den gP iK (aU jH 2) (Dr K7 Ap Aq K8 x) (bY oN.kp oN.kx c)=(iy Ap Aq x).run (bZ (Dr K7 Ap Aq K8) (BZ K7 Ap Aq K8) c):=fun _ _ _ _ _ _=>by
 kernel_rfl
theorem RY:bP gP iK (aU jH 2) oN:=dw fun _ _ _=>aM fun _=>kW<|kW<|aM fun _=>aM fun _=>aM fun _=>bN fun _ _=>tM<|bN fun _ _=>tM<|fun h _ e14 _ e11 e9 e7 e5 e4 e3 e1=>bT (NS _ _ _ _) h (by subst_vars;exact aR rfl rfl ⟨e1,e3,e4,e5,e7,e9,trivial⟩ ⟨e11,e14,trivial⟩)
theorem NT:∀(Lc Ay Az:Int)(Ld:List Int)(x:(Int×(List Int)))(c:St→Option (Ex×St)),den gP iK (aU jH 3) (Dt Lc Ay Az Ld x) (bY oO.kp oO.kx c)=(nO Ay Az x).run (bZ (Dt Lc Ay Az Ld) (Ca Lc Ay Az Ld) c):=fun _ _ _ _ _ _=>by
 kernel_rfl
theorem R3:bP gP iK (aU jH 3) oO:=dw fun _ _ _=>aM fun _=>kW<|kW<|aM fun _=>aM fun _=>aM fun _=>bN fun _ _=>tM<|bN fun _ _=>tM<|fun h _ e14 _ e11 e9 e7 e5 e4 e3 e1=>bT (NT _ _ _ _) h (by subst_vars;exact aR rfl rfl ⟨e1,e3,e4,e5,e7,e9,trivial⟩ ⟨e11,e14,trivial⟩)
theorem Qi:∀(aX:Int)(x:(Int×(List Int)×(List Int)))(c:St→Option (Ex×St)),den gP iK (aU jH 0) (Fh aX x) (bY qH.kp qH.kx c)=(fO aX x).run (bZ (Fh aX) (Du aX) c):=fun _ _ _=>by
 kernel_rfl
theorem U8:bP gP iK (aU jH 0) qH:=dw fun _ _ _=>aM fun _=>kW<|kW<|aM fun _=>bN fun _ _=>tM<|bN fun _ _=>tM<|fun h _ e10 _ e7 e5 e4 e3 e1=>bT (Qi _) h (by subst_vars;exact aR rfl rfl ⟨e1,e3,e4,e5,trivial⟩ ⟨e7,e10,trivial⟩)
def ad9:FnI:=fnI Try.f194 iK
def Kr (_:Bool) (_:Int) (_:List Int):(List Int)→aA:=fun r=>⟨(.ref (1,0) []),[],[⟨false,.il,.own,r⟩]⟩
theorem abj:∀(zp0:Bool)(p0:Int)(p1:List Int),bI gP ad9 ⟨[(.i p0),(.imm zp0 .il p1)],[]⟩=(Mg p0 p1).run fun r=>some (Kr zp0 p0 p1 r):=fun _ _ _=>by kernel_rfl
def ad8 (av:List AV) (rs:List Root):Tre aA:=
 aB av fun a0_ av0=>
 aB av0 fun a1_ av1=>
 aL av1<|
 aL rs<|
 aC true .n a0_ fun d1=>
 bE .il a1_ fun z3 d2=>
 .mat (arB d1 d2) fun r=>.ret (Kr z3 d1 d2 r)
def Qh:Ctr:=dD [] ad8
theorem abk:Contract Try.prog .none 194 Qh:=aD (V:=gP) aT (ak akk apS (ak aku auK aI)) Try.func194 (bJ (n:=4) fun k hk=>by
 match k,hk with
 |0,_=>exact bM (id:=4) U8
 |1,_=>exact bM (id:=8) U9
 |2,_=>exact bM (id:=16) RY
 |3,_=>exact bM (id:=21) R3) fun _ _ _=>aH fun _ _=>aH fun _ _=>bn<|bn<|aM fun _=>dI fun _ _=>fun h=>by intros;subst_vars;exact Am (abj _ _ _) (Xp _ _) h
-- shared
theorem atV{b:Nat}(orig:List Nat):∀(n c:Nat)(E:List (Nat×Nat))(R:List Nat),c+n=b→Inv orig c E R→(∀x∈R,x<2 ^ b)→∃E',qQ orig E':=by
 intro n
 induction n with
 |zero=>
  intro c E R hc h hb
  exact ⟨_,h.done fun x hx=>MK (hb x hx) fun q hq=>h.low x hx q (by omega)⟩
 |succ n ih=>
  intro c E R hc h hb
  by_cases hr:∃r∈R,r.testBit c=true
  ·obtain ⟨r,hr,hrb⟩:=hr
   refine ih (c+1) _ _ (by omega) (h.step (R':=R.map (gK c r)) hr hrb (fun y hy=>?_) fun x hx=>.inr (List.mem_map_of_mem hx)) fun x hx=>?_
   ·obtain ⟨x,hx,rfl⟩:=List.mem_map.1 hy
    exact .inr ⟨x,hx,rfl⟩
   ·obtain ⟨y,hy,rfl⟩:=List.mem_map.1 hx
    exact Ov (hb r hr) (hb y hy)
  ·exact ih (c+1) E R (by omega) (h.skip fun x hx=>Bool.eq_false_iff.2 fun hx'=>hr ⟨x,hx,hx'⟩) hb
theorem atW{b:Nat}{xs:List Int}(_:b≤62)(h:L6 b xs=true):qQ (xs.map Int.toNat) (ech (xs.map Int.toNat)):=by
 obtain ⟨ns,rfl,hlen,hn,he⟩:=Y1 h
 obtain ⟨E,h2⟩:=atV ns b 0 [] ns (by omega) (Inv.start ns) hn
 rw [he,agO h2];exact h2
theorem apG(xs:List Int):(aiV xs).length=(ech (xs.map Int.toNat)).length:=by unfold aiV;rw [kJ]
theorem Vs:∀(l:List (Nat×Nat))(lo b:Nat),(l.Pairwise fun a b=>a.1<b.1)→(∀a∈l,lo≤a.1∧a.1<b)→l.length≤b-lo:=by
 intro l
 induction l with
 |nil=>intro lo b _ _;exact Nat.zero_le _
 |cons a l ih=>
  intro lo b h hb
  obtain ⟨h1,h2⟩:=List.pairwise_cons.1 h
  have:=ih (a.1+1) b h2 fun x hx=>⟨h1 x hx,(hb x (.tail _ hx)).2⟩
  have h0:=hb a (.head _)
  simp only [List.length_cons]
  omega
-- shared
theorem ar8(l:List Nat):Wd l=up l:=rfl
theorem acS(l:List Nat):(Wd l).map Int.toNat=l:=up_toNat l
theorem alS{f:TF3}(hf:aO f=true){L:List Nat}(h:inL (FOf f hf) L)(hl:L.length≤1000){b:Nat}(hb:f.1.toNat≤b):L6 b (Wd L)=true:=by
 rw [ar8]
 exact aoD (by omega) fun n hn=>Nat.lt_of_lt_of_le (h n hn) (Nat.pow_le_pow_right (by decide) hb)
def rkN (L:List Nat):Nat:=(ech L).length
theorem atJ(L:List Nat):(aiV (Wd L)).length=rkN L:=by rw [apG,acS];rfl
theorem adH{f:TF3}(hf:aO f=true){L:List Nat}(h:inL (FOf f hf) L)(hl:L.length≤1000):qQ L (ech L):=by
 have h5:=(VD hf).2
 have:=atW (b:=62) (by omega) (alS hf h hl (by omega))
 rwa [acS] at this
-- shared
theorem acU{k:Nat}(h:k≤10):Gs .i64 1 (k:Int)=((2 ^ k:Nat):Int):=by
 have:∀k:Nat,k<11→Gs .i64 1 (k:Int)=((2 ^ k:Nat):Int):=by decide
 exact this k (by omega)
-- shared
def xK(u w:List Nat):List Nat:=(u.zip w).map fun p=>p.1^^^p.2
theorem sw{u w:List Nat}(h:u.length=w.length):(xK u w).length=u.length:=by simp [xK,h]
theorem aez{u w:List Nat}{i x y:Nat}(hu:u[i]?=some x)(hw:w[i]?=some y):(xK u w)[i]?=some (x^^^y):=by
 unfold xK
 rw [List.getElem?_map,List.getElem?_zip_eq_some.2 (show u[i]?=some (x,y).1∧w[i]?=some (x,y).2 from ⟨hu,hw⟩)]
 rfl
theorem Iz{F:FO}{k:Nat}(hF:F.q=2 ^ k){u w:List Nat}(hu:inL F u)(hw:inL F w):inL F (xK u w):=by
 intro x hx
 obtain ⟨z,hz,rfl⟩:=List.mem_map.1 hx
 have:=List.of_mem_zip (a:=z.1) (b:=z.2) hz
 have h1:=hu _ this.1
 have h2:=hw _ this.2
 rw [hF] at h1 h2 ⊢
 exact Nat.xor_lt_two_pow h1 h2
theorem apa{u:List Nat}:∀x∈xK u u,x=0:=by
 intro x hx
 obtain ⟨i,hi⟩:=List.getElem?_of_mem hx
 have hl:=(List.getElem?_eq_some_iff.1 hi).1
 rw [sw rfl] at hl
 have h1:=List.getElem?_eq_getElem hl
 rw [aez h1 h1] at hi
 rw [←Option.some.inj hi,Nat.xor_self]
theorem ata{u w:List Nat}(hl:u.length=w.length)(h:∀x∈xK u w,x=0):u=w:=by
 apply List.ext_getElem?
 intro i
 by_cases hi:i<u.length
 ·have h1:=List.getElem?_eq_getElem hi
  have h2:=List.getElem?_eq_getElem (show i<w.length by omega)
  have h3:=h _ (List.mem_of_getElem? (aez h1 h2))
  rw [h1,h2]
  congr 1
  have h4:=congrArg (u[i] ^^^ ·) h3
  simp only [MJ,Nat.xor_zero] at h4
  exact h4.symm
 ·rw [List.getElem?_eq_none (by omega),List.getElem?_eq_none (by omega)]
theorem aqS{f:TF3}(hf:aO f=true){L:List Nat}(h:inL (FOf f hf) L)(hl:L.length≤1000):rkN L≤f.1.toNat∧rkN L≤L.length:=by
 have hI:=adH hf h hl
 refine ⟨?_,hI.le⟩
 obtain ⟨P,k,hR,hm,hs⟩:=hI
 have hall:∀a∈P,0≤a.1∧a.1<f.1.toNat:=by
  intro a ha
  refine ⟨Nat.zero_le _,?_⟩
  have hSp:Sp L a.2:=(hs a.2).2 (Sp.mem (by rw [←hm];exact List.mem_map.2 ⟨a,ha,rfl⟩))
  have hlt:a.2<2 ^ f.1.toNat:=by
   have key:∀v,Sp L v→v<2 ^ f.1.toNat:=by
    intro v hv
    induction hv with
    |zero=>exact Nat.two_pow_pos _
    |add hr _ ih=>exact Nat.xor_lt_two_pow (by have:=h _ hr;rwa [GD] at this) ih
   exact key _ hSp
  have hb:=(hR.1 a ha).2.1
  rcases Nat.lt_or_ge a.1 f.1.toNat with h1|h1
  ·exact h1
  ·rw [Nat.testBit_lt_two_pow (Nat.lt_of_lt_of_le hlt (Nat.pow_le_pow_right (by decide) h1))] at hb
   cases hb
 have:=Abs.Vs P 0 f.1.toNat (hR.2.imp fun h=>h.1) hall
 unfold rkN
 rw [←hm,List.length_map]
 omega
theorem asz{f:TF3}(hf:aO f=true){L:List Nat}(h:inL (FOf f hf) L)(hl:L.length≤1000)(h0:rkN L=0):∀x∈L,x=0:=by
 obtain ⟨P,k,_,hm,hs⟩:=adH hf h hl
 have hE:ech L=[]:=List.length_eq_zero_iff.1 h0
 intro x hx
 have:=(hs x).1 (Sp.mem hx)
 rw [hE] at this
 cases this with
 |zero=>rfl
 |add hr _=>cases hr
-- shared
abbrev TRC:=TF3×Int×List (List Int)×Unit
structure jJ(c:TRC)(n:Nat)(p:List Nat):Prop where
 hf:aO c.1=true
 len:c.2.1=(n:Int)
 h1:1≤n
 h5:n≤5
 r10:c.2.2.1.length≤10
 rre:Rre c.1 n c.2.2.1 p
theorem ab8{f:TF3}(_:aO f=true){w:List Int}(hw:∀x∈w,inF f x):Ow f w=true:=by
 unfold Ow
 rw [List.all_eq_true]
 intro x hx
 have:=hw x hx
 unfold inF at this
 rw [sM]
 refine ⟨this.1,?_⟩
 unfold D5
 have h2:((2:Int) ^ f.1.toNat)=((2 ^ f.1.toNat:Nat):Int):=by push_cast;rfl
 rw [h2];omega
def qF(f:TF3):Nat:=2 ^ f.1.toNat
theorem Aa(f:TF3):1≤qF f:=Nat.two_pow_pos _
def Gt(q:Nat):Nat→Nat→List Int
 |0,_=>[]
 |t+1,n=>((n/q ^ t%q:Nat):Int)::Gt q t n
theorem ase(q:Nat):∀t n,(Gt q t n).length=t:=by
 intro t
 induction t with
 |zero=>intro n;rfl
 |succ t ih=>intro n;simp [Gt,ih]
theorem asf{q k:Nat}(hq:1≤q)(c r:Nat):∀t,t≤k→Gt q t (c*q ^ k+r)=Gt q t r:=by
 intro t
 induction t with
 |zero=>intro _;rfl
 |succ t ih=>
  intro ht
  unfold Gt
  rw [ih (by omega)]
  have hp:0<q ^ t:=Nat.pow_pos hq
  have e:c*q ^ k+r=r+q ^ t*(q*(c*q ^ (k-t-1))):=by
   have:q ^ k=q ^ t*(q*q ^ (k-t-1)):=by rw [←Nat.pow_succ',←Nat.pow_add];congr 1;omega
   rw [this,Nat.add_comm]
   congr 1
   rw [Nat.mul_left_comm,Nat.mul_left_comm c q]
  rw [e,Nat.add_mul_div_left _ _ hp,Nat.add_mul_mod_self_left]
theorem aoH(q m:Nat):List.range (q*m)=(List.range q).flatMap fun c=>(List.range m).map fun r=>c*m+r:=by
 induction q with
 |zero=>simp
 |succ q ih=>rw [Nat.succ_mul,List.range_add,ih,List.range_succ,List.flatMap_append];simp
theorem asb{q:Nat}(hq:1≤q):∀k,qO q k=(List.range (q ^ k)).map (Gt q k):=by
 intro k
 induction k with
 |zero=>simp [qO,Gt]
 |succ k ih=>
  have hp:0<q ^ k:=Nat.pow_pos hq
  unfold qO
  rw [ih,Nat.pow_succ',aoH,List.map_flatMap]
  have:∀(l:List Nat),(∀c∈l,c<q)→(l.flatMap fun c:Nat=>((List.range (q ^ k)).map (Gt q k)).map fun t=>(c:Int)::t)=l.flatMap fun c=>((List.range (q ^ k)).map fun r=>c*q ^ k+r).map (Gt q (k+1)):=by
   intro l
   induction l with
   |nil=>intro _;rfl
   |cons c l ihl=>
    intro hl
    simp only [List.flatMap_cons]
    rw [ihl fun x hx=>hl x (.tail _ hx)]
    congr 1
    rw [List.map_map,List.map_map]
    refine List.map_congr_left fun r hr=>?_
    have hr:=List.mem_range.1 hr
    show (c:Int)::Gt q k r=(((c*q ^ k+r)/q ^ k%q:Nat):Int)::Gt q k (c*q ^ k+r)
    rw [asf hq c r k (Nat.le_refl _)]
    congr 2
    rw [Nat.add_comm,Nat.add_mul_div_right _ _ hp,Nat.div_eq_of_lt hr,Nat.zero_add,Nat.mod_eq_of_lt (hl c (.head _))]
  exact this _ fun c hc=>List.mem_range.1 hc
def dG(c:TRC):List (List Int):=qO (qF c.1) c.2.2.1.length
def dJ(c:TRC)(m:List Int):List Int:=aeR c.1 c.2.1.toNat c.2.2.1 m
def su(c:TRC)(m:List Int):List Nat:=(dJ c m).map Int.toNat
section
variable {c : TRC} {n : Nat} {p : List Nat}
theorem wB{m:List Int}(hm:m∈dG c):okV c.1 c.2.2.1.length m:=by
 obtain ⟨h1,h2⟩:=(Hy _ _ _).1 hm
 refine ⟨h1,fun x hx=>?_⟩
 obtain ⟨k,rfl,hk⟩:=h2 x hx
 unfold inF
 unfold qF at hk
 omega
theorem auU{m:List Int}(hm:okV c.1 c.2.2.1.length m):m∈dG c:=by
 refine (Hy _ _ _).2 ⟨hm.1,fun x hx=>?_⟩
 have:=hm.2 x hx
 unfold inF at this
 exact ⟨x.toNat,by omega,by unfold qF;omega⟩
theorem abN(h:jJ c n p){m:List Int}(hm:okV c.1 c.2.2.1.length m):okV c.1 n (dJ c m):=by
 unfold dJ
 rw [h.len,Int.toNat_natCast]
 exact apI h.hf h.rre.gr hm
theorem mH(h:jJ c n p){m:List Int}(hm:okV c.1 c.2.2.1.length m):up (su c m)=dJ c m∧inL (FOf c.1 h.hf) (su c m)∧(su c m).length=n:=by
 have hw:=abN h hm
 obtain ⟨L,hL,hi⟩:=ahc h.hf hw.2
 have:su c m=L:=by unfold su;rw [hL];exact acS L
 refine ⟨by rw [this,hL];rfl,by rw [this];exact hi,by unfold su;rw [List.length_map,hw.1]⟩
theorem word_inj(h:jJ c n p){m m':List Int}(hm:okV c.1 c.2.2.1.length m)(hm':okV c.1 c.2.2.1.length m')(he:su c m=su c m'):m=m':=by
 have h1:=(mH h hm).1
 have h2:=(mH h hm').1
 rw [he,h2] at h1
 unfold dJ at h1
 rw [h.len,Int.toNat_natCast] at h1
 exact (h.rre.arD h.hf hm' hm h1).symm
end
theorem QJ(f:TF3)(src:Nat→List Int)(x:Int):∀(cs:List Int)(k:Nat)(acc:List Int),uM f src k acc (cs++[x])=lJ f (uM f src k acc cs) (src (k+cs.length)) x:=by
 intro cs
 induction cs with
 |nil=>intro k acc;rfl
 |cons y cs ih=>
  intro k acc
  rw [List.cons_append]
  unfold uM
  rw [ih]
  congr 2
  simp only [List.length_cons];omega
def Y7 (p0:List Int):Tre au:=
 .mat (rT (p0,(0,(0,())))) fun r1=>
 .ret (r1.1,(r1.2.1,(r1.2.2.2,())))
def Ig (p0:List Int):Option au:=(Y7 p0).run some
-- more
theorem aoE{code:List Int}(hl:code.length≤5000)(hc:∀x∈code,0≤x∧x≤255):∃r,Ig code=some r∧((∃n p,jJ r n p)∧r.1.1≤4∧r.2.2.1.length≤2):=by
 have h0:xJ 0 (code,0,0,()):=⟨hl,hc,Int.le_refl _,Int.le_refl _⟩
 unfold Ig Y7
 refine fG.run (fG.mat (P:=fun r=>(∃n p,jJ (r.1,r.2.1,r.2.2.2,()) n p)∧r.1.1≤4∧r.2.2.2.length≤2) ?_ fun a ha=>.ret ha)
 unfold rT wI
 refine fG.run (fG.mat (agN (m:=4) (by decide) (by decide) h0 (by decide)) fun a ha=>fG.mat (Ri ha.2 (by decide)) fun b hb=>fG.mat (Ri hb.2 (by decide)) fun d hd=>?_)
 obtain ⟨M,hM⟩:∃M:Nat,b.1=(M:Int):=⟨b.1.toNat,by omega⟩
 have hwr:aN .i64 (1+b.1)=((M+1:Nat):Int):=by rw [dh (by omega) (by omega)];omega
 rw [hwr]
 have hM2:M≤2:=by omega
 have key:∀(k c:Nat)(s:Src)(L:List (List Int)),xJ c s→c+100*k≤60000→GR a.1 (M+1) L→L.length+k≤2→∃r,aP (fD ((M+1:Nat):Int) a.1) ((k:Int),s,L)=some r∧(GR a.1 (M+1) r.2∧r.2.length≤2):=by
  intro k
  induction k with
  |zero=>
   intro c s L _ _ hG hlen
   refine ⟨(s,L),fC ?_,hG,by omega⟩
   unfold fD
   rfl
  |succ k ih=>
   intro c s L hs hc2 hG hlen
   obtain ⟨w,hw,hws,hwl,hwi⟩:=ZH ha.1.1 (M:=M+1) (by omega) (by omega) hs (by omega)
   have hstep:(fD ((M+1:Nat):Int) a.1 (((k+1:Nat):Int),s,L)).run some=some (.inl ((k:Int),w.1,L++[w.2])):=by
    unfold fD
    dsimp only
    rw [Tre.aF,decide_eq_true (by omega),cond_true,ah hw,Tre.run_ite,if_pos (by unfold bS;omega),Tre.aK,dh (by omega) (by omega),show ((k+1:Nat):Int)-1=(k:Int) by omega]
   rw [iJ hstep]
   exact ih (c+2*(M+1)+2) w.1 (L++[w.2]) hws (by omega) (fun r hr=>by
    rcases List.mem_append.1 hr with hr|hr
    ·exact hG r hr
    ·rw [List.mem_singleton] at hr;subst hr;exact ⟨hwl,hwi⟩) (by simp;omega)
 obtain ⟨K,hK⟩:∃K:Nat,d.1=(K:Int):=⟨d.1.toNat,by omega⟩
 obtain ⟨r,hr,hG,hrl⟩:=key K _ d.2 [] hd.2 (by omega) (fun r hr=>by cases hr) (by simp;omega)
 rw [hK]
 refine fG.get hr (fG.get (anC ha.1.1 (by omega) hG (by omega)) (.ret ?_))
 obtain ⟨p,hp⟩:=avC ha.1.1 hG
 have hle:(TR a.1 (M+1) r.2).length≤2:=by
  rw [aiW ha.1.1 hG]
  exact Nat.le_trans (Eb ha.1.1 (n:=M+1) (M+1) 0 (0,r.2) hG (Nat.zero_le _)).2.2 hrl
 exact ⟨⟨M+1,p,ha.1.1,rfl,by omega,by omega,by show (TR a.1 (M+1) r.2).length≤10;omega,hp⟩,by have:=ha.1.2.2;omega,hle⟩
def aag:Env:=⟨tau,[(86,PS),(101,Cg)],[(1000000,[((4,0),[.snd,.snd,.fst],false)])]⟩
def aj8:FnI:=fnI Try.f36 []
def Ta (_:Bool) (_:List Int):au→aA:=fun r=>⟨(.imm true aG r),[],[]⟩
theorem ahM:∀(zp0:Bool)(p0:List Int),bI aag aj8 ⟨[(.imm zp0 (.sl (.int .u8)) p0)],[]⟩=(Y7 p0).run fun r=>some (Ta zp0 p0 r):=fun _ _=>by kernel_rfl
def aj7 (av:List AV) (rs:List Root):Tre aA:=
 aB av fun a0_ av0=>
 aL av0<|
 aL rs<|
 bE (.sl (.int .u8)) a0_ fun z2 d1=>
 .mat (Ig d1) fun r=>.ret (Ta z2 d1 r)
def aah:Ctr:=dD [] aj7
theorem ahN:Contract Try.prog .none 36 aah:=aD (V:=aag) aT (ak WY atj (ak NV atY aI)) Try.func36 bF fun _ _ _=>aH fun _ _=>bn<|bn<|dI fun _ _=>fun h=>by intros;subst_vars;exact bg (ahM _ _) h
def Rl (p0:List Int) (p1:(Int×(Int×Unit))) (p2:Int):Tre (List Int):=
 .mat (fM p1 p2 (p0,(0,(0,())))) fun r1=>
 .ret r1.2
def l7 (p0:List Int) (p1:(Int×(Int×Unit))) (p2:Int):Option (List Int):=(Rl p0 p1 p2).run some
-- more
theorem ady{code:List Int}(hl:code.length≤5000)(hc:∀x∈code,0≤x∧x≤255){f:TF3}(hf:aO f=true){M:Nat}(h1:1≤M)(hM:M≤1000):∃r,l7 code f (M:Int)=some r∧(r.length=M∧∀x∈r,inF f x):=by
 have h0:xJ 0 (code,0,0,()):=⟨hl,hc,Int.le_refl _,Int.le_refl _⟩
 unfold l7 Rl
 exact fG.run (fG.mat (ZH hf h1 hM h0 (by omega)) fun a ha=>.ret ha.2)
theorem ahE{code:List Int}(hl:code.length≤5000)(hc:∀x∈code,0≤x∧x≤255){f:TF3}(hf:aO f=true):l7 code f ((0:Nat):Int)=some []:=by
 have h0:xJ 0 (code,0,0,()):=⟨hl,hc,Int.le_refl _,Int.le_refl _⟩
 obtain ⟨r,hr,_,h3,_⟩:=Sr hf (M:=0) (by decide) 0 0 (l:=[]) rfl h0 (by decide) rfl (fun x hx=>by cases hx)
 have hr2:r.2=[]:=List.length_eq_zero_iff.1 h3
 unfold l7 Rl
 rw [ah (show fM f ((0:Nat):Int) (code,(0,(0,())))=some (r.1,[]) from by
  unfold fM oQ
  rw [ah (show aP (dQ ((0:Nat):Int) f) (0,(code,(0,(0,()))),[])=some r from hr),Tre.aF,decide_eq_false (by decide),cond_false,Tre.aK,hr2]),Tre.aK]
def aai:Env:=⟨tau,[(86,PS),(102,rV)],[(1000000,[((8,0),[],false)])]⟩
def akb:FnI:=fnI Try.f37 []
def Tc (_:Bool) (_:List Int) (_:(Int×(Int×Unit))) (_:Int):(List Int)→aA:=fun r=>⟨(.imm true .il r),[],[]⟩
theorem ahO:∀(zp0:Bool)(p0:List Int)(p1:(Int×(Int×Unit)))(p2:Int),bI aai akb ⟨[(.imm zp0 (.sl (.int .u8)) p0),(.imm true aJ p1),(.i p2)],[]⟩=(Rl p0 p1 p2).run fun r=>some (Tc zp0 p0 p1 p2 r):=fun _ _ _ _=>by kernel_rfl
def aj9 (av:List AV) (rs:List Root):Tre aA:=
 aB av fun a0_ av0=>
 aB av0 fun a1_ av1=>
 aB av1 fun a2_ av2=>
 aL av2<|
 aL rs<|
 bE (.sl (.int .u8)) a0_ fun z2 d1=>
 aC true aJ a1_ fun d3=>
 aC true .n a2_ fun d4=>
 .mat (l7 d1 d3 d4) fun r=>.ret (Tc z2 d1 d3 d4 r)
def aaj:Ctr:=dD [] aj9
theorem ahP:Contract Try.prog .none 37 aaj:=aD (V:=aai) aT (ak WY atj (ak zB apJ aI)) Try.func37 bF fun _ _ _=>aH fun _ _=>aH fun _ _=>aH fun _ _=>bn<|bn<|dI fun _ _=>aM fun _=>aM fun _=>fun h=>by intros;subst_vars;exact bg (ahO _ _ _ _) h
def acN (p0:Int) (p1:Int) (p2:Int):Tre Bool:=
 .cond (decide (p0 ≥ p1))
  (.ret (decide (p0≤p2)))
  (.ret false)
def acO (p0:Int) (p1:Int) (p2:Int):Option Bool:=(acN p0 p1 p2).run some
theorem afa(n a b:Int):acO n a b=some (inR n a b):=by
 unfold acO acN inR
 by_cases h:a≤n
 ·simp [Tre.aF,Tre.aK,h]
 ·simp [Tre.aF,Tre.aK,h]
def acP:Env:=⟨tau,[],[]⟩
def alP:FnI:=fnI Try.f57 []
def V8 (_:Int) (_:Int) (_:Int):Bool→aA:=fun r=>⟨(.imm true .bool r),[],[]⟩
theorem aje:∀(p0 p1 p2:Int),bI acP alP ⟨[(.i p0),(.i p1),(.i p2)],[]⟩=(acN p0 p1 p2).run fun r=>some (V8 p0 p1 p2 r):=fun _ _ _=>by kernel_rfl
def alO (av:List AV) (rs:List Root):Tre aA:=
 aB av fun a0_ av0=>
 aB av0 fun a1_ av1=>
 aB av1 fun a2_ av2=>
 aL av2<|
 aL rs<|
 aC true .n a0_ fun d1=>
 aC true .n a1_ fun d2=>
 aC true .n a2_ fun d3=>
 .ret (V8 d1 d2 d3 (inR d1 d2 d3))
def ER:Ctr:=dD [] alO
theorem Hw:Contract Try.prog .none 57 ER:=aD (V:=acP) aT aI Try.func57 bF fun _ _ _=>aH fun _ _=>aH fun _ _=>aH fun _ _=>bn<|bn<|aM fun _=>aM fun _=>aM fun _=>fun h=>by intros;subst_vars;exact xR (aje _ _ _) (afa _ _ _) h
def Ja:(Int×Int)→Tre ((Int×Int) ⊕ Int):=fun s2=>
 .cond (decide (s2.1>0))
  (.ret (.inl (Pe .i64 s2.1 1,aN .i64 (s2.2+1))))
  (.ret (.inr s2.2))
def acA (p0:Int):Tre Int:=
 .mat (aP Ja (p0,-1)) fun l1=>
 .ret l1
def oJ (p0:Int):Option Int:=(acA p0).run some
def DV:Env:=⟨tau,[],[]⟩
def VW:Code:=(Try.f206.body).getD .skip
def J4:(Int×Int)→St:=fun x=>bR [(0,(.i x.1)),(3,(.i x.2))] []
def Ho:Int→Ex×St:=fun x=>(.exit 0,bR [(3,(.i x))] [])
def aaV (s:St):Tre (Ex×St):=
 aC true .n (s.tmps 0) fun d2=>
 aC true .n (s.tmps 3) fun d4=>
 .mat (aP Ja (d2,d4)) fun x=>.ret (Ho x)
def vJ:bB:=⟨([0,3],[]),([3],[]),aaV⟩
def Lv:List (Nat×bB):=[(2,vJ)]
theorem Ur:∀(x:(Int×Int))(c:St→Option (Ex×St)),den DV Lv (aU VW 0) (J4 x) (bY vJ.kp vJ.kx c)=(Ja x).run (bZ (J4) (Ho) c):=fun _ _=>by
 kernel_rfl
theorem Yy:bP DV Lv (aU VW 0) vJ:=dw fun _ _ _=>aM fun _=>aM fun _=>fun h e3 e1=>bT Ur h (by subst_vars;exact aR rfl rfl ⟨e1,e3,trivial⟩ trivial)
def ag2:FnI:=fnI Try.f206 Lv
def O5 (_:Int):Int→aA:=fun r=>⟨(.i r),[],[]⟩
theorem ae6:∀(p0:Int),bI DV ag2 ⟨[(.i p0)],[]⟩=(acA p0).run fun r=>some (O5 p0 r):=fun _=>by kernel_rfl
def ag1 (av:List AV) (rs:List Root):Tre aA:=
 aB av fun a0_ av0=>
 aL av0<|
 aL rs<|
 aC true .n a0_ fun d1=>
 .mat (oJ d1) fun r=>.ret (O5 d1 r)
def DW:Ctr:=dD [] ag1
theorem Jb:Contract Try.prog .none 206 DW:=aD (V:=DV) aT aI Try.func206 (bJ (n:=1) fun k hk=>by
 match k,hk with
 |0,_=>exact bM (id:=2) Yy) fun _ _ _=>aH fun _ _=>bn<|bn<|aM fun _=>fun h=>by intros;subst_vars;exact bg (ae6 _) h
def O8 (bq:Int) (dx:Int):Int→Tre (Int ⊕ Int):=fun s2=>
 .mat (oJ s2) fun r2=>
 .cond (decide (r2 ≥ dx))
  (.mat (oJ s2) fun r3=>
  .ite (0≤aN .i64 (r3-dx))<|
  let v4:=Gs .i64 bq (aN .i64 (r3-dx))
  .ret (.inl (jD .i64 s2 v4)))
  (.ret (.inr s2))
def ajc (p0:Int) (p1:Int):Tre Int:=
 .mat (oJ p1) fun r1=>
 .mat (aP (O8 p1 r1) p0) fun l5=>
 .ret l5
def Uw (p0:Int) (p1:Int):Option Int:=(ajc p0 p1).run some
def LB:Env:=⟨tau,[(206,DW)],[]⟩
def acI:Code:=(Try.f200.body).getD .skip
def O9 (bq:Int) (dx:Int):Int→St:=fun x=>bR [(0,(.i x)),(1,(.i bq)),(5,(.i dx))] []
def M6 (_:Int) (_:Int):Int→Ex×St:=fun x=>(.exit 0,bR [(0,(.i x))] [])
def ae7 (s:St):Tre (Ex×St):=
 aC true .n (s.tmps 0) fun d2=>
 aC true .n (s.tmps 1) fun d4=>
 aC true .n (s.tmps 5) fun d6=>
 .mat (aP (O8 d4 d6) d2) fun x=>.ret (M6 d4 d6 x)
def AL:bB:=⟨([0,1,5],[]),([0],[]),ae7⟩
def Uv:List (Nat×bB):=[(2,AL)]
theorem YB:∀(bq dx x:Int)(c:St→Option (Ex×St)),den LB Uv (aU acI 0) (O9 bq dx x) (bY AL.kp AL.kx c)=(O8 bq dx x).run (bZ (O9 bq dx) (M6 bq dx) c):=fun _ _ _ _=>by
 kernel_rfl
theorem acJ:bP LB Uv (aU acI 0) AL:=dw fun _ _ _=>aM fun _=>aM fun _=>aM fun _=>fun h e5 e3 e1=>bT (YB _ _) h (by subst_vars;exact aR rfl rfl ⟨e1,e3,e5,trivial⟩ trivial)
def alN:FnI:=fnI Try.f200 Uv
def V3 (_:Int) (_:Int):Int→aA:=fun r=>⟨(.i r),[],[]⟩
theorem ajd:∀(p0 p1:Int),bI LB alN ⟨[(.i p0),(.i p1)],[]⟩=(ajc p0 p1).run fun r=>some (V3 p0 p1 r):=fun _ _=>by kernel_rfl
def alM (av:List AV) (rs:List Root):Tre aA:=
 aB av fun a0_ av0=>
 aB av0 fun a1_ av1=>
 aL av1<|
 aL rs<|
 aC true .n a0_ fun d1=>
 aC true .n a1_ fun d2=>
 .mat (Uw d1 d2) fun r=>.ret (V3 d1 d2 r)
def Ux:Ctr:=dD [] alM
theorem ZU:Contract Try.prog .none 200 Ux:=aD (V:=LB) aT (ak Jb alz aI) Try.func200 (bJ (n:=1) fun k hk=>by
 match k,hk with
 |0,_=>exact bM (id:=2) acJ) fun _ _ _=>aH fun _ _=>aH fun _ _=>bn<|bn<|aM fun _=>aM fun _=>fun h=>by intros;subst_vars;exact bg (ajd _ _) h
def oC (aX:Int):Int→Tre (Int ⊕ (Bool ⊕ Unit)):=fun s4=>
 .mat (oJ s4) fun r1=>
 .mat (oJ aX) fun r2=>
 .cond (decide (aN .i64 (2*r1)≤r2))
  (.mat (Uw aX s4) fun r3=>
  .cond (decide (r3=0))
   (.ret (.inr (.inl false)))
   (.ret (.inl (aN .i64 (s4+1)))))
  (.ret (.inr (.inr ())))
def CF (p0:Int):Tre Bool:=
 .cond (decide (p0<2))
  (.ret false)
  (.cond (decide (p0 ≥ 64))
   (.ret false)
   (.mat (aP (oC p0) 2) fun l4=>
   .alt l4
    (fun a5=>
     .ret a5)
    (fun _=>
     .ret true)))
def qB (p0:Int):Option Bool:=(CF p0).run some
def qC:Env:=⟨tau,[(206,DW),(200,Ux)],[]⟩
def Hf:Code:=(Try.f205.body).getD .skip
def qd (aX:Int):Int→St:=fun x=>bR [(0,(.i aX)),(3,(.i x))] []
def kF (_:Int):(Bool ⊕ Unit)→Ex×St
 |.inl x=>(.ret,bR [(2,(.imm true .bool x))] [])
 |.inr _=>(.exit 0,bR [(2,.dead)] [])
def Bw (s:St):Tre (Ex×St):=
 aC true .n (s.tmps 0) fun d2=>
 aC true .n (s.tmps 3) fun d4=>
 .mat (aP (oC d2) d4) fun x=>.alt x (fun a0=>.ret (kF d2 (.inl a0))) (fun b0=>.ret (kF d2 (.inr b0)))
def jA:bB:=⟨([0,3],[]),([2],[]),Bw⟩
def yh:List (Nat×bB):=[(4,jA)]
theorem JI:∀(aX x:Int)(c:St→Option (Ex×St)),den qC yh (aU Hf 0) (qd aX x) (bY jA.kp jA.kx c)=(oC aX x).run (bZ (qd aX) (kF aX) c):=fun _ _ _=>by
 kernel_rfl
theorem NA:bP qC yh (aU Hf 0) jA:=gF fun s e s' h=>by
 generalize hs:restrict jA.kp s=s1 at h
 have h:(Bw s1).run some=some (e,s'):=h
 obtain ⟨d2,e1,h_0⟩:=bQ h
 obtain ⟨d4,e3,h_1⟩:=bQ h_0
 obtain ⟨y,hy,hz⟩:=jd h_1
 refine ⟨_,_,qd d2,kF d2,oC d2,d4,y,?_,hy,?_,JI d2⟩
 ·subst hs;exact aR (T:=[(0,(.i d2)),(3,(.i d4))]) (U:=[]) rfl rfl ⟨e1,e3,trivial⟩ trivial
 ·rcases y with x|x<;>exact Option.some.inj hz
def VO:FnI:=fnI Try.f205 yh
def Di (_:Int):Bool→aA:=fun r=>⟨(.imm true .bool r),[],[]⟩
theorem Uj:∀(p0:Int),bI qC VO ⟨[(.i p0)],[]⟩=(CF p0).run fun r=>some (Di p0 r):=fun _=>by kernel_rfl
def VN (av:List AV) (rs:List Root):Tre aA:=
 aB av fun a0_ av0=>
 aL av0<|
 aL rs<|
 aC true .n a0_ fun d1=>
 .mat (qB d1) fun r=>.ret (Di d1 r)
def Hg:Ctr:=dD [] VN
theorem Uk:Contract Try.prog .none 205 Hg:=aD (V:=qC) aT (ak Jb alz (ak ZU apT aI)) Try.func205 (bJ (n:=1) fun k hk=>by
 match k,hk with
 |0,_=>exact bM (id:=4) NA) fun _ _ _=>aH fun _ _=>bn<|bn<|aM fun _=>fun h=>by intros;subst_vars;exact bg (Uj _) h
def DT (p0:(Int×(Int×Unit))):Tre Bool:=
 .cond (inR p0.1 1 5)
  (.mat (qB p0.2.1) fun r1=>
  .cond r1
   (.mat (oJ p0.2.1) fun r2=>
   .ret (decide (r2=p0.1)))
   (.ret false))
  (.ret false)
def nK (p0:(Int×(Int×Unit))):Option Bool:=(DT p0).run some
-- more
theorem MX(f:Int×Int×Unit):nK f=some (aO f):=by
 refine aiX ?_ ?_ (by kernel_rfl) f
 ·intro f h
  unfold nK DT
  rw [Tre.aF,h];rfl
 ·intro f h
  unfold nK DT
  rw [Tre.aF]
  have:qB f.2.1=some false:=by
   unfold qB CF
   rw [Tre.aF]
   by_cases h1:f.2.1<2
   ·rw [decide_eq_true h1];rfl
   ·rw [decide_eq_false h1,cond_false,Tre.aF,decide_eq_true (by omega)];rfl
  rw [ah this]
  cases inR f.1 1 5<;>rfl
def O1:Env:=⟨tau,[(57,ER),(205,Hg),(206,DW)],[]⟩
def acz:FnI:=fnI Try.f150 []
def JZ (_:(Int×(Int×Unit))):Bool→aA:=fun r=>⟨(.imm true .bool r),[],[]⟩
theorem aaT:∀(p0:(Int×(Int×Unit))),bI O1 acz ⟨[(.imm true aJ p0)],[]⟩=(DT p0).run fun r=>some (JZ p0 r):=fun _=>by kernel_rfl
def acy (av:List AV) (rs:List Root):Tre aA:=
 aB av fun a0_ av0=>
 aL av0<|
 aL rs<|
 aC true aJ a0_ fun d1=>
 .mat (nK d1) fun r=>.ret (JZ d1 r)
def EI:Ctr:=dD [] acy
theorem MZ:Contract Try.prog .none 150 EI:=aD (V:=O1) aT (ak Hw amR (ak Uk auJ (ak Jb alz aI))) Try.func150 bF fun _ _ _=>aH fun _ _=>bn<|bn<|aM fun _=>fun h=>by intros;subst_vars;exact bg (aaT _) h
def V6 (p0:List Int):Tre Int:=
 .ret (p0.length:Int)
def acK (p0:List Int):Option Int:=(V6 p0).run some
theorem V7(p0:List Int):acK p0=some (p0.length:Int):=rfl
def Pd:Env:=⟨tau,[],[]⟩
def acM:FnI:=fnI Try.f163 []
def J9 (_:Bool) (_:List Int):Int→aA:=fun r=>⟨(.i r),[],[]⟩
theorem aa2:∀(zp0:Bool)(p0:List Int),bI Pd acM ⟨[(.imm zp0 .il p0)],[]⟩=(V6 p0).run fun r=>some (J9 zp0 p0 r):=fun _ _=>by kernel_rfl
def acL (av:List AV) (rs:List Root):Tre aA:=
 aB av fun a0_ av0=>
 aL av0<|
 aL rs<|
 bE .il a0_ fun z2 d1=>
 .ret (J9 z2 d1 (d1.length:Int))
def ru:Ctr:=dD [] acL
theorem vL:Contract Try.prog .none 163 ru:=aD (V:=Pd) aT aI Try.func163 bF fun _ _ _=>aH fun _ _=>bn<|bn<|dI fun _ _=>fun h=>by intros;subst_vars;exact xR (aa2 _ _) (V7 _) h
def pW (p0:(Int×(Int×Unit))):Tre Int:=
 .ite (0≤p0.1)<|
 .ret (Gs .i64 1 p0.1)
def dN (p0:(Int×(Int×Unit))):Option Int:=(pW p0).run some
def MN:Env:=⟨tau,[],[]⟩
def aaQ:FnI:=fnI Try.f142 []
def G7 (_:(Int×(Int×Unit))):Int→aA:=fun r=>⟨(.i r),[],[]⟩
theorem Yi:∀(p0:(Int×(Int×Unit))),bI MN aaQ ⟨[(.imm true aJ p0)],[]⟩=(pW p0).run fun r=>some (G7 p0 r):=fun _=>by kernel_rfl
def aaP (av:List AV) (rs:List Root):Tre aA:=
 aB av fun a0_ av0=>
 aL av0<|
 aL rs<|
 aC true aJ a0_ fun d1=>
 .mat (dN d1) fun r=>.ret (G7 d1 r)
def lH:Ctr:=dD [] aaP
theorem nD:Contract Try.prog .none 142 lH:=aD (V:=MN) aT aI Try.func142 bF fun _ _ _=>aH fun _ _=>bn<|bn<|aM fun _=>fun h=>by intros;subst_vars;exact bg (Yi _) h
def vZ (p0:Int) (p1:(Int×(Int×Unit))):Tre Bool:=
 .mat (dN p1) fun r1=>
 let v2:=inR p0 0 (aN .i64 (r1-1))
 .ret (!v2)
def lN (p0:Int) (p1:(Int×(Int×Unit))):Option Bool:=(vZ p0 p1).run some
def Bo:Env:=⟨tau,[(142,lH),(57,ER)],[]⟩
def OG:FnI:=fnI Try.f159 []
def xX (_:Int) (p1:(Int×(Int×Unit))):Bool→aA:=fun r=>⟨(.imm true .bool r),[⟨true,aJ,.own,p1⟩],[]⟩
theorem Nt:∀(p0:Int)(p1:(Int×(Int×Unit))),bI Bo OG ⟨[(.i p0),(.ptr (0,0) [])],[⟨true,aJ,.own,p1⟩]⟩=(vZ p0 p1).run fun r=>some (xX p0 p1 r):=fun _ _=>by kernel_rfl
def OE (av:List AV) (rs:List Root):Tre aA:=
 aB av fun a0_ av0=>
 aB av0 fun a1_ av1=>
 aL av1<|
 aB rs fun r0_ rs0=>
 aL rs0<|
 aC true .n a0_ fun d1=>
 dB (0,0) [] a1_<|
 gH true aJ r0_ fun m2 d3=>
 asM .own m2<|
 .mat (lN d1 d3) fun r=>.ret (xX d1 d3 r)
def Bp:Ctr:=dD [] OE
theorem Nu:Contract Try.prog .none 159 Bp:=aD (V:=Bo) aT (ak nD ab9 (ak Hw amR aI)) Try.func159 bF fun _ _ _=>aH fun _ _=>aH fun _ _=>bn<|aH fun _ _=>bn<|aM fun _=>fT<|tRt fun _ _=>tM<|fun h=>by intros;subst_vars;exact bg (Nt _ _) h
def YX (aY:List Int) (bq:Int) (bD:(Int×(Int×Unit))):Int→Tre (Int ⊕ (Int ⊕ Unit)):=fun s2=>
 .cond (decide (s2<bq))
  (.ite (0≤s2∧s2<(aY.length:Int))<|
  .mat (aY[s2.toNat]?) fun x1=>
  .mat (lN x1 bD) fun r2=>
  .cond r2
   (.ret (.inr (.inl s2)))
   (.ret (.inl (aN .i64 (s2+1)))))
  (.ret (.inr (.inr ())))
def nm9 (p0:List Int) (p1:(Int×(Int×Unit))):Tre Int:=
 .mat (aP (YX p0 (p0.length:Int) p1) 0) fun l3=>
 .alt l3
  (fun a4=>
   .ret a4)
  (fun _=>
   .ret (-1))
def anu (p0:List Int) (p1:(Int×(Int×Unit))):Option Int:=(nm9 p0 p1).run some
def anv:Env:=⟨tau,[(159,Bp)],[]⟩
def atF:Code:=(Try.f125.body).getD .skip
def YZ (kX:Bool) (aY:List Int) (bq:Int) (bD:(Int×(Int×Unit))):Int→St:=fun x=>bR [(0,(.imm kX .il aY)),(1,(.fn 159 [(0,0)])),(7,(.i bq)),(8,(.i x))] [((0,0),some ⟨true,aJ,.own,bD⟩)]
def LZ (_:Bool) (_:List Int) (_:Int) (bD:(Int×(Int×Unit))):(Int ⊕ Unit)→Ex×St
 |.inl x=>(.ret,bR [(4,(.i x))] [((0,0),some ⟨true,aJ,.own,bD⟩)])
 |.inr _=>(.exit 0,bR [(4,.dead)] [((0,0),some ⟨true,aJ,.own,bD⟩)])
def ajX (s:St):Tre (Ex×St):=
 bE .il (s.tmps 0) fun z3 d2=>
 vW 159 [(0,0)] (s.tmps 1)<|
 aC true .n (s.tmps 7) fun d6=>
 aC true .n (s.tmps 8) fun d8=>
 aW true aJ (s.roots (0,0)) fun m10 d11=>
 asM .own m10<|
 .mat (aP (YX d2 d6 d11) d8) fun x=>.alt x (fun a0=>.ret (LZ z3 d2 d6 d11 (.inl a0))) (fun b0=>.ret (LZ z3 d2 d6 d11 (.inr b0)))
def Pt:bB:=⟨([0,1,7,8],[(0,0)]),([4],[(0,0)]),ajX⟩
def aqC:List (Nat×bB):=[(2,Pt)]
theorem ajY:∀(kX:Bool)(aY:List Int)(bq:Int)(bD:(Int×(Int×Unit)))(x:Int)(c:St→Option (Ex×St)),den anv aqC (aU atF 0) (YZ kX aY bq bD x) (bY Pt.kp Pt.kx c)=(YX aY bq bD x).run (bZ (YZ kX aY bq bD) (LZ kX aY bq bD) c):=fun _ _ _ _ _ _=>by
 kernel_rfl
theorem aoC:bP anv aqC (aU atF 0) Pt:=gF fun s e s' h=>by
 generalize hs:restrict Pt.kp s=s1 at h
 have h:(ajX s1).run some=some (e,s'):=h
 obtain ⟨z3,d2,e1,h_0⟩:=dO h
 obtain ⟨e4,h_1⟩:=wO h_0
 obtain ⟨d6,e5,h_2⟩:=bQ h_1
 obtain ⟨d8,e7,h_3⟩:=bQ h_2
 obtain ⟨m10,d11,e9,h_4⟩:=jw h_3
 obtain ⟨rfl,h_5⟩:=uK h_4
 obtain ⟨y,hy,hz⟩:=jd h_5
 refine ⟨_,_,YZ z3 d2 d6 d11,LZ z3 d2 d6 d11,YX d2 d6 d11,d8,y,?_,hy,?_,ajY z3 d2 d6 d11⟩
 ·subst hs;exact aR (T:=[(0,(.imm z3 .il d2)),(1,(.fn 159 [(0,0)])),(7,(.i d6)),(8,(.i d8))]) (U:=[((0,0),some ⟨true,aJ,.own,d11⟩)]) rfl rfl ⟨e1,e4,e5,e7,trivial⟩ ⟨e9,trivial⟩
 ·rcases y with x|x<;>exact Option.some.inj hz
def awG:FnI:=fnI Try.f125 aqC
def anw (_:Bool) (_:List Int) (p1:(Int×(Int×Unit))):Int→aA:=fun r=>⟨(.i r),[⟨true,aJ,.own,p1⟩],[]⟩
theorem avu:∀(zp0:Bool)(p0:List Int)(p1:(Int×(Int×Unit))),bI anv awG ⟨[(.imm zp0 .il p0),(.fn 159 [(0,0)])],[⟨true,aJ,.own,p1⟩]⟩=(nm9 p0 p1).run fun r=>some (anw zp0 p0 p1 r):=fun _ _ _=>by kernel_rfl
def awF (av:List AV) (rs:List Root):Tre aA:=
 aB av fun a0_ av0=>
 aB av0 fun a1_ av1=>
 aL av1<|
 aB rs fun r0_ rs0=>
 aL rs0<|
 bE .il a0_ fun z2 d1=>
 vW 159 [(0,0)] a1_<|
 gH true aJ r0_ fun m3 d4=>
 asM .own m3<|
 .mat (anu d1 d4) fun r=>.ret (anw z2 d1 d4 r)
def atG:Ctr:=dD [] awF
theorem avv:Contract Try.prog .none 125 atG:=aD (V:=anv) aT (ak Nu auo aI) Try.func125 (bJ (n:=1) fun k hk=>by
 match k,hk with
 |0,_=>exact bM (id:=2) aoC) fun _ _ _=>aH fun _ _=>aH fun _ _=>bn<|aH fun _ _=>bn<|dI fun _ _=>tFn<|tRt fun _ _=>tM<|fun h=>by intros;subst_vars;exact bg (avu _ _ _) h
def nm6 (p0:List Int) (p1:(Int×(Int×Unit))):Tre Bool:=
 .mat (anu p0 p1) fun r1=>
 .ret (decide (r1 ≥ 0))
def anm (p0:List Int) (p1:(Int×(Int×Unit))):Option Bool:=(nm6 p0 p1).run some
def atz:Env:=⟨tau,[(125,atG)],[]⟩
def awy:FnI:=fnI Try.f55 []
def ano (_:Bool) (_:List Int) (p1:(Int×(Int×Unit))):Bool→aA:=fun r=>⟨(.imm true .bool r),[⟨true,aJ,.own,p1⟩],[]⟩
theorem avn:∀(zp0:Bool)(p0:List Int)(p1:(Int×(Int×Unit))),bI atz awy ⟨[(.imm zp0 .il p0),(.fn 159 [(0,0)])],[⟨true,aJ,.own,p1⟩]⟩=(nm6 p0 p1).run fun r=>some (ano zp0 p0 p1 r):=fun _ _ _=>by kernel_rfl
def awx (av:List AV) (rs:List Root):Tre aA:=
 aB av fun a0_ av0=>
 aB av0 fun a1_ av1=>
 aL av1<|
 aB rs fun r0_ rs0=>
 aL rs0<|
 bE .il a0_ fun z2 d1=>
 vW 159 [(0,0)] a1_<|
 gH true aJ r0_ fun m3 d4=>
 asM .own m3<|
 .mat (anm d1 d4) fun r=>.ret (ano z2 d1 d4 r)
def atA:Ctr:=dD [] awx
theorem avo:Contract Try.prog .none 55 atA:=aD (V:=atz) aT (ak avv alu aI) Try.func55 bF fun _ _ _=>aH fun _ _=>aH fun _ _=>bn<|aH fun _ _=>bn<|dI fun _ _=>tFn<|tRt fun _ _=>tM<|fun h=>by intros;subst_vars;exact bg (avn _ _ _) h
def OD (p0:(Int×(Int×Unit))) (p1:List Int):Tre Bool:=
 .mat (anm p1 p0) fun r1=>
 .ret (!r1)
def pX (p0:(Int×(Int×Unit))) (p1:List Int):Option Bool:=(OD p0 p1).run some
-- more
theorem Yj{f:TF3}(hf:aO f=true)(x:Int):lN x f=some (!inR x 0 (D5 f)):=by
 have:=dW hf
 have h1:dN f=some (Gs .i64 1 f.1):=by
  unfold dN pW
  rw [Tre.run_ite,if_pos (by omega)]
  rfl
 unfold lN vZ
 rw [ah h1,aq9 hf]
 rfl
theorem Ej{f:TF3}(hf:aO f=true)(c:List Int)(hc:c.length<4611686018427387904):pX f c=some (Ow f c):=by
 have h1:anu c f=some (lF (fun x=>!inR x 0 (D5 f)) 0 c):=by
  unfold anu nm9
  rw [Tre.qE,Jz (xs:=c) (fun i x=>cond (!inR x 0 (D5 f)) (some (.inl (i:Int))) none) (.inr ())]
  ·rw [Option.bind_some,←Yf (p:=fun x=>!inR x 0 (D5 f))]
   generalize Oy _ _ _ _=r
   cases r<;>rfl
  ·intro i x hx
   have hi:i<c.length:=(List.getElem?_eq_some_iff.1 hx).1
   unfold YX
   rw [fq hx,ah (Yj hf x),Tre.aF]
   cases inR x 0 (D5 f)
   ·rfl
   ·simp only [Bool.not_true,cond_false,Tre.aK,aV (show i<4611686018427387904 by omega)]
  ·unfold YX
   exact dY
 have h2:anm c f=some (decide (lF (fun x=>!inR x 0 (D5 f)) 0 c ≥ 0)):=by
  unfold anm nm6
  rw [ah h1]
  rfl
 unfold pX OD Ow
 rw [ah h2,←aqb (p:=fun x=>inR x 0 (D5 f))]
 rfl
def Sy:Env:=⟨tau,[(55,atA)],[]⟩
def aeY:FnI:=fnI Try.f98 []
def MO (_:Bool) (_:(Int×(Int×Unit))) (_:List Int):Bool→aA:=fun r=>⟨(.imm true .bool r),[],[]⟩
theorem acr:∀(zp0:Bool)(p0:(Int×(Int×Unit)))(p1:List Int),bI Sy aeY ⟨[(.imm true aJ p0),(.imm zp0 .il p1)],[]⟩=(OD p0 p1).run fun r=>some (MO zp0 p0 p1 r):=fun _ _ _=>by kernel_rfl
def aeX (av:List AV) (rs:List Root):Tre aA:=
 aB av fun a0_ av0=>
 aB av0 fun a1_ av1=>
 aL av1<|
 aL rs<|
 aC true aJ a0_ fun d1=>
 bE .il a1_ fun z3 d2=>
 .mat (pX d1 d2) fun r=>.ret (MO z3 d1 d2 r)
def AA:Ctr:=dD [] aeX
theorem El:Contract Try.prog .none 98 AA:=aD (V:=Sy) aT (ak avo awf aI) Try.func98 bF fun _ _ _=>aH fun _ _=>aH fun _ _=>bn<|bn<|aM fun _=>dI fun _ _=>fun h=>by intros;subst_vars;exact bg (acr _ _ _) h
def nG (p0:List Int) (p1:Int) (p2:(Int×(Int×Unit))):Tre Bool:=
 .cond (!decide ((p0.length:Int)=p1))
  (.ret true)
  (.mat (pX p2 p0) fun r1=>
  .ret (!r1))
def iW (p0:List Int) (p1:Int) (p2:(Int×(Int×Unit))):Option Bool:=(nG p0 p1 p2).run some
def tT:Env:=⟨tau,[(163,ru),(98,AA)],[]⟩
def Gh:FnI:=fnI Try.f195 []
def qz (_:Bool) (_:List Int) (p1:Int) (p2:(Int×(Int×Unit))):Bool→aA:=fun r=>⟨(.imm true .bool r),[⟨true,.n,.own,p1⟩,⟨true,aJ,.own,p2⟩],[]⟩
theorem Et:∀(zp0:Bool)(p0:List Int)(p1:Int)(p2:(Int×(Int×Unit))),bI tT Gh ⟨[(.imm zp0 .il p0),(.ptr (0,0) []),(.ptr (0,1) [])],[⟨true,.n,.own,p1⟩,⟨true,aJ,.own,p2⟩]⟩=(nG p0 p1 p2).run fun r=>some (qz zp0 p0 p1 p2 r):=fun _ _ _ _=>by kernel_rfl
def Gg (av:List AV) (rs:List Root):Tre aA:=
 aB av fun a0_ av0=>
 aB av0 fun a1_ av1=>
 aB av1 fun a2_ av2=>
 aL av2<|
 aB rs fun r0_ rs0=>
 aB rs0 fun r1_ rs1=>
 aL rs1<|
 bE .il a0_ fun z2 d1=>
 dB (0,0) [] a1_<|
 dB (0,1) [] a2_<|
 gH true .n r0_ fun m3 d4=>
 asM .own m3<|
 gH true aJ r1_ fun m5 d6=>
 asM .own m5<|
 .mat (iW d1 d4 d6) fun r=>.ret (qz z2 d1 d4 d6 r)
def tV:Ctr:=dD [] Gg
theorem Eu:Contract Try.prog .none 195 tV:=aD (V:=tT) aT (ak vL agT (ak El ap1 aI)) Try.func195 bF fun _ _ _=>aH fun _ _=>aH fun _ _=>aH fun _ _=>bn<|aH fun _ _=>aH fun _ _=>bn<|dI fun _ _=>fT<|fT<|tRt fun _ _=>tM<|tRt fun _ _=>tM<|fun h=>by intros;subst_vars;exact bg (Et _ _ _ _) h
def UL (aY:(List (List Int))) (bq:Int) (bD:Int) (gL:(Int×(Int×Unit))):Int→Tre (Int ⊕ (Int ⊕ Unit)):=fun s2=>
 .cond (decide (s2<bq))
  (.ite (0≤s2∧s2<(aY.length:Int))<|
  .mat (aY[s2.toNat]?) fun x1=>
  .mat (iW x1 bD gL) fun r2=>
  .cond r2
   (.ret (.inr (.inl s2)))
   (.ret (.inl (aN .i64 (s2+1)))))
  (.ret (.inr (.inr ())))
def nm2 (p0:(List (List Int))) (p1:Int) (p2:(Int×(Int×Unit))):Tre Int:=
 .mat (aP (UL p0 (p0.length:Int) p1 p2) 0) fun l3=>
 .alt l3
  (fun a4=>
   .ret a4)
  (fun _=>
   .ret (-1))
def am9 (p0:(List (List Int))) (p1:Int) (p2:(Int×(Int×Unit))):Option Int:=(nm2 p0 p1 p2).run some
def ana:Env:=⟨tau,[(195,tV)],[]⟩
def atq:Code:=(Try.f144.body).getD .skip
def YR (kX:Bool) (aY:(List (List Int))) (bq:Int) (bD:Int) (gL:(Int×(Int×Unit))):Int→St:=fun x=>bR [(0,(.imm kX (.sl .il) aY)),(1,(.fn 195 [(0,0),(0,1)])),(7,(.i bq)),(8,(.i x))] [((0,0),some ⟨true,.n,.own,bD⟩),((0,1),some ⟨true,aJ,.own,gL⟩)]
def LU (_:Bool) (_:(List (List Int))) (_:Int) (bD:Int) (gL:(Int×(Int×Unit))):(Int ⊕ Unit)→Ex×St
 |.inl x=>(.ret,bR [(4,(.i x))] [((0,0),some ⟨true,.n,.own,bD⟩),((0,1),some ⟨true,aJ,.own,gL⟩)])
 |.inr _=>(.exit 0,bR [(4,.dead)] [((0,0),some ⟨true,.n,.own,bD⟩),((0,1),some ⟨true,aJ,.own,gL⟩)])
def ajL (s:St):Tre (Ex×St):=
 bE (.sl .il) (s.tmps 0) fun z3 d2=>
 vW 195 [(0,0),(0,1)] (s.tmps 1)<|
 aC true .n (s.tmps 7) fun d6=>
 aC true .n (s.tmps 8) fun d8=>
 aW true .n (s.roots (0,0)) fun m10 d11=>
 asM .own m10<|
 aW true aJ (s.roots (0,1)) fun m13 d14=>
 asM .own m13<|
 .mat (aP (UL d2 d6 d11 d14) d8) fun x=>.alt x (fun a0=>.ret (LU z3 d2 d6 d11 d14 (.inl a0))) (fun b0=>.ret (LU z3 d2 d6 d11 d14 (.inr b0)))
def Pk:bB:=⟨([0,1,7,8],[(0,0),(0,1)]),([4],[(0,0),(0,1)]),ajL⟩
def aqx:List (Nat×bB):=[(2,Pk)]
theorem ajM:∀(kX:Bool)(aY:(List (List Int)))(bq bD:Int)(gL:(Int×(Int×Unit)))(x:Int)(c:St→Option (Ex×St)),den ana aqx (aU atq 0) (YR kX aY bq bD gL x) (bY Pk.kp Pk.kx c)=(UL aY bq bD gL x).run (bZ (YR kX aY bq bD gL) (LU kX aY bq bD gL) c):=fun _ _ _ _ _ _ _=>by
 kernel_rfl
theorem aox:bP ana aqx (aU atq 0) Pk:=gF fun s e s' h=>by
 generalize hs:restrict Pk.kp s=s1 at h
 have h:(ajL s1).run some=some (e,s'):=h
 obtain ⟨z3,d2,e1,h_0⟩:=dO h
 obtain ⟨e4,h_1⟩:=wO h_0
 obtain ⟨d6,e5,h_2⟩:=bQ h_1
 obtain ⟨d8,e7,h_3⟩:=bQ h_2
 obtain ⟨m10,d11,e9,h_4⟩:=jw h_3
 obtain ⟨rfl,h_5⟩:=uK h_4
 obtain ⟨m13,d14,e12,h_6⟩:=jw h_5
 obtain ⟨rfl,h_7⟩:=uK h_6
 obtain ⟨y,hy,hz⟩:=jd h_7
 refine ⟨_,_,YR z3 d2 d6 d11 d14,LU z3 d2 d6 d11 d14,UL d2 d6 d11 d14,d8,y,?_,hy,?_,ajM z3 d2 d6 d11 d14⟩
 ·subst hs;exact aR (T:=[(0,(.imm z3 (.sl .il) d2)),(1,(.fn 195 [(0,0),(0,1)])),(7,(.i d6)),(8,(.i d8))]) (U:=[((0,0),some ⟨true,.n,.own,d11⟩),((0,1),some ⟨true,aJ,.own,d14⟩)]) rfl rfl ⟨e1,e4,e5,e7,trivial⟩ ⟨e9,e12,trivial⟩
 ·rcases y with x|x<;>exact Option.some.inj hz
def awp:FnI:=fnI Try.f144 aqx
def anb (_:Bool) (_:(List (List Int))) (p1:Int) (p2:(Int×(Int×Unit))):Int→aA:=fun r=>⟨(.i r),[⟨true,.n,.own,p1⟩,⟨true,aJ,.own,p2⟩],[]⟩
theorem avf:∀(zp0:Bool)(p0:(List (List Int)))(p1:Int)(p2:(Int×(Int×Unit))),bI ana awp ⟨[(.imm zp0 (.sl .il) p0),(.fn 195 [(0,0),(0,1)])],[⟨true,.n,.own,p1⟩,⟨true,aJ,.own,p2⟩]⟩=(nm2 p0 p1 p2).run fun r=>some (anb zp0 p0 p1 p2 r):=fun _ _ _ _=>by kernel_rfl
def awo (av:List AV) (rs:List Root):Tre aA:=
 aB av fun a0_ av0=>
 aB av0 fun a1_ av1=>
 aL av1<|
 aB rs fun r0_ rs0=>
 aB rs0 fun r1_ rs1=>
 aL rs1<|
 bE (.sl .il) a0_ fun z2 d1=>
 vW 195 [(0,0),(0,1)] a1_<|
 gH true .n r0_ fun m3 d4=>
 asM .own m3<|
 gH true aJ r1_ fun m5 d6=>
 asM .own m5<|
 .mat (am9 d1 d4 d6) fun r=>.ret (anb z2 d1 d4 d6 r)
def atr:Ctr:=dD [] awo
theorem avg:Contract Try.prog .none 144 atr:=aD (V:=ana) aT (ak Eu auC aI) Try.func144 (bJ (n:=1) fun k hk=>by
 match k,hk with
 |0,_=>exact bM (id:=2) aox) fun _ _ _=>aH fun _ _=>aH fun _ _=>bn<|aH fun _ _=>aH fun _ _=>bn<|dI fun _ _=>tFn<|tRt fun _ _=>tM<|tRt fun _ _=>tM<|fun h=>by intros;subst_vars;exact bg (avf _ _ _ _) h
def nm0 (p0:(List (List Int))) (p1:Int) (p2:(Int×(Int×Unit))):Tre Bool:=
 .mat (am9 p0 p1 p2) fun r1=>
 .ret (decide (r1 ≥ 0))
def am5 (p0:(List (List Int))) (p1:Int) (p2:(Int×(Int×Unit))):Option Bool:=(nm0 p0 p1 p2).run some
def atm:Env:=⟨tau,[(144,atr)],[]⟩
def awl:FnI:=fnI Try.f78 []
def am6 (_:Bool) (_:(List (List Int))) (p1:Int) (p2:(Int×(Int×Unit))):Bool→aA:=fun r=>⟨(.imm true .bool r),[⟨true,.n,.own,p1⟩,⟨true,aJ,.own,p2⟩],[]⟩
theorem auW:∀(zp0:Bool)(p0:(List (List Int)))(p1:Int)(p2:(Int×(Int×Unit))),bI atm awl ⟨[(.imm zp0 (.sl .il) p0),(.fn 195 [(0,0),(0,1)])],[⟨true,.n,.own,p1⟩,⟨true,aJ,.own,p2⟩]⟩=(nm0 p0 p1 p2).run fun r=>some (am6 zp0 p0 p1 p2 r):=fun _ _ _ _=>by kernel_rfl
def awk (av:List AV) (rs:List Root):Tre aA:=
 aB av fun a0_ av0=>
 aB av0 fun a1_ av1=>
 aL av1<|
 aB rs fun r0_ rs0=>
 aB rs0 fun r1_ rs1=>
 aL rs1<|
 bE (.sl .il) a0_ fun z2 d1=>
 vW 195 [(0,0),(0,1)] a1_<|
 gH true .n r0_ fun m3 d4=>
 asM .own m3<|
 gH true aJ r1_ fun m5 d6=>
 asM .own m5<|
 .mat (am5 d1 d4 d6) fun r=>.ret (am6 z2 d1 d4 d6 r)
def atn:Ctr:=dD [] awk
theorem auX:Contract Try.prog .none 78 atn:=aD (V:=atm) aT (ak avg alv aI) Try.func78 bF fun _ _ _=>aH fun _ _=>aH fun _ _=>bn<|aH fun _ _=>aH fun _ _=>bn<|dI fun _ _=>tFn<|tRt fun _ _=>tM<|tRt fun _ _=>tM<|fun h=>by intros;subst_vars;exact bg (auW _ _ _ _) h
def zM (p0:(Int×(Int×Unit))) (p1:Int) (p2:(List (List Int))):Tre Int:=
 .mat (nK p0) fun r1=>
 .cond (!r1)
  (.ret 1)
  (.cond (!(inR p1 1 5))
   (.ret 2)
   (.cond (decide ((p2.length:Int)>10))
    (.ret 2)
    (.mat (am5 p2 p1 p0) fun r2=>
    .cond r2
     (.ret 2)
     (.ret 0))))
def ow (p0:(Int×(Int×Unit))) (p1:Int) (p2:(List (List Int))):Option Int:=(zM p0 p1 p2).run some
def Er:Env:=⟨tau,[(150,EI),(57,ER),(78,atn)],[]⟩
def Ug:FnI:=fnI Try.f138 []
def Bu (_:Bool) (_:(Int×(Int×Unit))) (_:Int) (_:(List (List Int))):Int→aA:=fun r=>⟨(.i r),[],[]⟩
theorem Rw:∀(zp0:Bool)(p0:(Int×(Int×Unit)))(p1:Int)(p2:(List (List Int))),bI Er Ug ⟨[(.imm true aJ p0),(.i p1),(.imm zp0 (.sl .il) p2)],[]⟩=(zM p0 p1 p2).run fun r=>some (Bu zp0 p0 p1 p2 r):=fun _ _ _ _=>by kernel_rfl
def Uf (av:List AV) (rs:List Root):Tre aA:=
 aB av fun a0_ av0=>
 aB av0 fun a1_ av1=>
 aB av1 fun a2_ av2=>
 aL av2<|
 aL rs<|
 aC true aJ a0_ fun d1=>
 aC true .n a1_ fun d2=>
 bE (.sl .il) a2_ fun z4 d3=>
 .mat (ow d1 d2 d3) fun r=>.ret (Bu z4 d1 d2 d3 r)
def Es:Ctr:=dD [] Uf
theorem Rx:Contract Try.prog .none 138 Es:=aD (V:=Er) aT (ak MZ apP (ak Hw amR (ak auX ati aI))) Try.func138 bF fun _ _ _=>aH fun _ _=>aH fun _ _=>aH fun _ _=>bn<|bn<|aM fun _=>aM fun _=>dI fun _ _=>fun h=>by intros;subst_vars;exact bg (Rw _ _ _ _) h
def xH:Tre (List Int):=
 .ret []
def Gx:Option (List Int):=(xH).run some
theorem Dc:Gx=some []:=rfl
def uy:Env:=⟨tau,[],[]⟩
def Gz:FnI:=fnI Try.f61 []
def qN:(List Int)→aA:=fun r=>⟨(.ref (1,0) []),[],[⟨false,.il,.own,r⟩]⟩
theorem F5:bI uy Gz ⟨[.nil],[]⟩=(xH).run fun r=>some (qN r):=by kernel_rfl
def Gy (av:List AV) (rs:List Root):Tre aA:=
 aB av fun a0_ av0=>
 aL av0<|
 aL rs<|
 amN a0_<|
 .ret (qN [])
def GA:Ctr:=dD [] Gy
theorem F6:Contract Try.prog .none 61 GA:=aD (V:=uy) aT aI Try.func61 bF fun _ _ _=>aH fun _ _=>bn<|bn<|awO<|fun h=>by intros;subst_vars;exact xR F5 Dc h
def nR (p0:List Int):Tre (List Int):=
 .ite ((0+p0.length)*8≤bS∧1≤8)<|
 .ret ([]++p0)
def uq (p0:List Int):Option (List Int):=(nR p0).run some
theorem Db(p0 y:List Int)(h:xP p0=some y):uq p0=some y:=by
 obtain ⟨hl,rfl⟩:=ada h
 have hb:(0+p0.length)*8≤bS∧1≤8:=by unfold bS;omega
 unfold uq nR
 rw [Tre.run_ite,if_pos hb]
 rfl
def uw:Env:=⟨tau,[],[]⟩
def Gv:FnI:=fnI Try.f61 []
def qM (_:Bool) (_:List Int):(List Int)→aA:=fun r=>⟨(.ref (1,0) []),[],[⟨false,.il,.own,r⟩]⟩
theorem FY:∀(zp0:Bool)(p0:List Int),bI uw Gv ⟨[(.nn zp0 .n p0)],[]⟩=(nR p0).run fun r=>some (qM zp0 p0 r):=fun _ _=>by kernel_rfl
def Gu (av:List AV) (rs:List Root):Tre aA:=
 aB av fun a0_ av0=>
 aL av0<|
 aL rs<|
 aru .n a0_ fun z1 d2=>
 .mat (xP d2) fun r=>.ret (qM z1 d2 r)
def Gw:Ctr:=dD [] Gu
theorem F4:Contract Try.prog .none 61 Gw:=aD (V:=uw) aT aI Try.func61 bF fun _ _ _=>aH fun _ _=>bn<|bn<|tNn fun _ _=>fun h=>by intros;subst_vars;exact Am (FY _ _) (Db _) h
theorem MC(y:List Int)(h:xP ([]:List Int)=some y):y=[]:=(ada h).2.symm
def Cu (av:List AV) (rs:List Root):Tre aA:=
 aB av fun a0_ av0=>
 aL av0<|
 aL rs<|
 bE .il a0_ fun _ d1=>
 .mat (xP d1) fun r=>.ret ⟨(.ref (1,0) []),[],[⟨false,.il,.own,r⟩]⟩
def mF:Ctr:=⟨[],fun ci=>Cu ci.args ci.roots,false⟩
theorem qm:Contract Try.prog .none 61 mF:=by
 refine agJ (e:=.n) F6 F4 ?_
 rintro ⟨av,rs⟩ co h
 have h:(Cu av rs).run some=some co:=h
 obtain ⟨a0_,av0,rfl,h_0⟩:=ZB h
 obtain ⟨rfl,h_1⟩:=TG h_0
 obtain ⟨rfl,h_2⟩:=TG h_1
 obtain ⟨z2,d1,rfl,h_3⟩:=dO h_2
 refine ⟨z2,d1,rfl,?_,?_⟩
 ·exact h_3
 ·rintro rfl
  obtain ⟨y,h1,h2⟩:=abF h_3
  have hy:y=[]:=by
   have:=MC y h1
   exact this
  subst hy
  rw [←h2];rfl
def qb (p0:List Int) (p1:Int):Tre Bool:=
 .ite (0≤p1∧p1<(p0.length:Int))<|
 .mat (p0[p1.toNat]?) fun x1=>
 .ret (!decide (x1=0))
def jN (p0:List Int) (p1:Int):Option Bool:=(qb p0 p1).run some
-- more
theorem avA{r:List Int}{c:Nat}(h:c<r.length):jN r (c:Int)=some (uF c r):=by
 unfold jN qb
 have hx:=List.getElem?_eq_getElem h
 rw [Tre.run_ite,if_pos ⟨by omega,by omega⟩,Int.toNat_natCast,ah hx,Tre.aK]
 unfold uF
 rw [hx]
def wT:Env:=⟨tau,[],[]⟩
def JH:FnI:=fnI Try.f197 []
def tQ (_:Bool) (_:List Int) (p1:Int):Bool→aA:=fun r=>⟨(.imm true .bool r),[⟨true,.n,.own,p1⟩],[]⟩
theorem II:∀(zp0:Bool)(p0:List Int)(p1:Int),bI wT JH ⟨[(.imm zp0 .il p0),(.ptr (0,0) [])],[⟨true,.n,.own,p1⟩]⟩=(qb p0 p1).run fun r=>some (tQ zp0 p0 p1 r):=fun _ _ _=>by kernel_rfl
def JG (av:List AV) (rs:List Root):Tre aA:=
 aB av fun a0_ av0=>
 aB av0 fun a1_ av1=>
 aL av1<|
 aB rs fun r0_ rs0=>
 aL rs0<|
 bE .il a0_ fun z2 d1=>
 dB (0,0) [] a1_<|
 gH true .n r0_ fun m3 d4=>
 asM .own m3<|
 .mat (jN d1 d4) fun r=>.ret (tQ z2 d1 d4 r)
def wU:Ctr:=dD [] JG
theorem IJ:Contract Try.prog .none 197 wU:=aD (V:=wT) aT aI Try.func197 bF fun _ _ _=>aH fun _ _=>aH fun _ _=>bn<|aH fun _ _=>bn<|dI fun _ _=>fT<|tRt fun _ _=>tM<|fun h=>by intros;subst_vars;exact bg (II _ _ _) h
def YV (aY:(List (List Int))) (bq:Int) (bD:Int):Int→Tre (Int ⊕ (Int ⊕ Unit)):=fun s2=>
 .cond (decide (s2<bq))
  (.ite (0≤s2∧s2<(aY.length:Int))<|
  .mat (aY[s2.toNat]?) fun x1=>
  .mat (jN x1 bD) fun r2=>
  .cond r2
   (.ret (.inr (.inl s2)))
   (.ret (.inl (aN .i64 (s2+1)))))
  (.ret (.inr (.inr ())))
def nm7 (p0:(List (List Int))) (p1:Int):Tre Int:=
 .mat (aP (YV p0 (p0.length:Int) p1) 0) fun l3=>
 .alt l3
  (fun a4=>
   .ret a4)
  (fun _=>
   .ret (-1))
def anp (p0:(List (List Int))) (p1:Int):Option Int:=(nm7 p0 p1).run some
-- more
theorem asy{xs:List (List Int)}{c:Nat}(hc:∀r∈xs,c<r.length)(hl:xs.length≤1048576):anp xs (c:Int)=some (lF (uF c) 0 xs):=by
 unfold anp nm7
 rw [Tre.qE,Jz (xs:=xs) (fun i x=>cond (uF c x) (some (.inl (i:Int))) none) (.inr ())]
 ·rw [Option.bind_some,←Yf (p:=fun x=>uF c x)]
  generalize Oy _ _ _ _=r
  cases r<;>rfl
 ·intro i x hx
  have hi:i<xs.length:=(List.getElem?_eq_some_iff.1 hx).1
  unfold YV
  rw [fq hx,ah (avA (hc x (List.mem_of_getElem? hx))),Tre.aF]
  cases uF c x
  ·simp only [cond_false,Tre.aK,aV (show i<4611686018427387904 by omega)]
  ·rfl
 ·unfold YV
  exact dY
def anq:Env:=⟨tau,[(197,wU)],[]⟩
def atB:Code:=(Try.f144.body).getD .skip
def YW (kX:Bool) (aY:(List (List Int))) (bq:Int) (bD:Int):Int→St:=fun x=>bR [(0,(.imm kX (.sl .il) aY)),(1,(.fn 197 [(0,0)])),(7,(.i bq)),(8,(.i x))] [((0,0),some ⟨true,.n,.own,bD⟩)]
def LY (_:Bool) (_:(List (List Int))) (_:Int) (bD:Int):(Int ⊕ Unit)→Ex×St
 |.inl x=>(.ret,bR [(4,(.i x))] [((0,0),some ⟨true,.n,.own,bD⟩)])
 |.inr _=>(.exit 0,bR [(4,.dead)] [((0,0),some ⟨true,.n,.own,bD⟩)])
def ajU (s:St):Tre (Ex×St):=
 bE (.sl .il) (s.tmps 0) fun z3 d2=>
 vW 197 [(0,0)] (s.tmps 1)<|
 aC true .n (s.tmps 7) fun d6=>
 aC true .n (s.tmps 8) fun d8=>
 aW true .n (s.roots (0,0)) fun m10 d11=>
 asM .own m10<|
 .mat (aP (YV d2 d6 d11) d8) fun x=>.alt x (fun a0=>.ret (LY z3 d2 d6 d11 (.inl a0))) (fun b0=>.ret (LY z3 d2 d6 d11 (.inr b0)))
def Pq:bB:=⟨([0,1,7,8],[(0,0)]),([4],[(0,0)]),ajU⟩
def aqB:List (Nat×bB):=[(2,Pq)]
theorem ajV:∀(kX:Bool)(aY:(List (List Int)))(bq bD x:Int)(c:St→Option (Ex×St)),den anq aqB (aU atB 0) (YW kX aY bq bD x) (bY Pq.kp Pq.kx c)=(YV aY bq bD x).run (bZ (YW kX aY bq bD) (LY kX aY bq bD) c):=fun _ _ _ _ _ _=>by
 kernel_rfl
theorem aoB:bP anq aqB (aU atB 0) Pq:=gF fun s e s' h=>by
 generalize hs:restrict Pq.kp s=s1 at h
 have h:(ajU s1).run some=some (e,s'):=h
 obtain ⟨z3,d2,e1,h_0⟩:=dO h
 obtain ⟨e4,h_1⟩:=wO h_0
 obtain ⟨d6,e5,h_2⟩:=bQ h_1
 obtain ⟨d8,e7,h_3⟩:=bQ h_2
 obtain ⟨m10,d11,e9,h_4⟩:=jw h_3
 obtain ⟨rfl,h_5⟩:=uK h_4
 obtain ⟨y,hy,hz⟩:=jd h_5
 refine ⟨_,_,YW z3 d2 d6 d11,LY z3 d2 d6 d11,YV d2 d6 d11,d8,y,?_,hy,?_,ajV z3 d2 d6 d11⟩
 ·subst hs;exact aR (T:=[(0,(.imm z3 (.sl .il) d2)),(1,(.fn 197 [(0,0)])),(7,(.i d6)),(8,(.i d8))]) (U:=[((0,0),some ⟨true,.n,.own,d11⟩)]) rfl rfl ⟨e1,e4,e5,e7,trivial⟩ ⟨e9,trivial⟩
 ·rcases y with x|x<;>exact Option.some.inj hz
def awC:FnI:=fnI Try.f144 aqB
def anr (_:Bool) (_:(List (List Int))) (p1:Int):Int→aA:=fun r=>⟨(.i r),[⟨true,.n,.own,p1⟩],[]⟩
theorem avp:∀(zp0:Bool)(p0:(List (List Int)))(p1:Int),bI anq awC ⟨[(.imm zp0 (.sl .il) p0),(.fn 197 [(0,0)])],[⟨true,.n,.own,p1⟩]⟩=(nm7 p0 p1).run fun r=>some (anr zp0 p0 p1 r):=fun _ _ _=>by kernel_rfl
def awz (av:List AV) (rs:List Root):Tre aA:=
 aB av fun a0_ av0=>
 aB av0 fun a1_ av1=>
 aL av1<|
 aB rs fun r0_ rs0=>
 aL rs0<|
 bE (.sl .il) a0_ fun z2 d1=>
 vW 197 [(0,0)] a1_<|
 gH true .n r0_ fun m3 d4=>
 asM .own m3<|
 .mat (anp d1 d4) fun r=>.ret (anr z2 d1 d4 r)
def atC:Ctr:=dD [] awz
theorem avq:Contract Try.prog .none 144 atC:=aD (V:=anq) aT (ak IJ auE aI) Try.func144 (bJ (n:=1) fun k hk=>by
 match k,hk with
 |0,_=>exact bM (id:=2) aoB) fun _ _ _=>aH fun _ _=>aH fun _ _=>bn<|aH fun _ _=>bn<|dI fun _ _=>tFn<|tRt fun _ _=>tM<|fun h=>by intros;subst_vars;exact bg (avp _ _ _) h
def Lx:(Int×Int×Int)→Tre ((Int×Int×Int) ⊕ Int):=fun s2=>
 .cond (decide (s2.2.1>0))
  (.cond (decide (LC .i64 s2.2.1 1=1))
   (.ret (.inl (Gs .i64 s2.1 1,Pe .i64 s2.2.1 1,jD .i64 s2.2.2 s2.1)))
   (.ret (.inl (Gs .i64 s2.1 1,Pe .i64 s2.2.1 1,s2.2.2))))
  (.ret (.inr s2.2.2))
def af0 (p0:Int) (p1:Int):Tre Int:=
 .mat (aP Lx (p0,p1,0)) fun l1=>
 .ret l1
def ZQ (p0:Int) (p1:Int):Option Int:=(af0 p0 p1).run some
def Ht:Env:=⟨tau,[],[]⟩
def ZR:Code:=(Try.f201.body).getD .skip
def M5:(Int×Int×Int)→St:=fun x=>bR [(0,(.i x.1)),(1,(.i x.2.1)),(5,(.i x.2.2))] []
def J7:Int→Ex×St:=fun x=>(.exit 0,bR [(5,(.i x))] [])
def acF (s:St):Tre (Ex×St):=
 aC true .n (s.tmps 0) fun d2=>
 aC true .n (s.tmps 1) fun d4=>
 aC true .n (s.tmps 5) fun d6=>
 .mat (aP Lx (d2,d4,d6)) fun x=>.ret (J7 x)
def yA:bB:=⟨([0,1,5],[]),([5],[]),acF⟩
def O6:List (Nat×bB):=[(2,yA)]
theorem VY:∀(x:(Int×Int×Int))(c:St→Option (Ex×St)),den Ht O6 (aU ZR 0) (M5 x) (bY yA.kp yA.kx c)=(Lx x).run (bZ (M5) (J7) c):=fun _ _=>by
 kernel_rfl
theorem aaY:bP Ht O6 (aU ZR 0) yA:=dw fun _ _ _=>aM fun _=>aM fun _=>aM fun _=>fun h e5 e3 e1=>bT VY h (by subst_vars;exact aR rfl rfl ⟨e1,e3,e5,trivial⟩ trivial)
def aja:FnI:=fnI Try.f201 O6
def SH (_:Int) (_:Int):Int→aA:=fun r=>⟨(.i r),[],[]⟩
theorem ag5:∀(p0 p1:Int),bI Ht aja ⟨[(.i p0),(.i p1)],[]⟩=(af0 p0 p1).run fun r=>some (SH p0 p1 r):=fun _ _=>by kernel_rfl
def ai9 (av:List AV) (rs:List Root):Tre aA:=
 aB av fun a0_ av0=>
 aB av0 fun a1_ av1=>
 aL av1<|
 aL rs<|
 aC true .n a0_ fun d1=>
 aC true .n a1_ fun d2=>
 .mat (ZQ d1 d2) fun r=>.ret (SH d1 d2 r)
def ZT:Ctr:=dD [] ai9
theorem ag6:Contract Try.prog .none 201 ZT:=aD (V:=Ht) aT aI Try.func201 (bJ (n:=1) fun k hk=>by
 match k,hk with
 |0,_=>exact bM (id:=2) aaY) fun _ _ _=>aH fun _ _=>aH fun _ _=>bn<|bn<|aM fun _=>aM fun _=>fun h=>by intros;subst_vars;exact bg (ag5 _ _) h
def ZK (p0:(Int×(Int×Unit))) (p1:Int) (p2:Int):Tre Int:=
 .mat (ZQ p1 p2) fun r1=>
 .mat (Uw r1 p0.2.1) fun r2=>
 .ret r2
def cu (p0:(Int×(Int×Unit))) (p1:Int) (p2:Int):Option Int:=(ZK p0 p1 p2).run some
-- more
set_option maxRecDepth 100000
theorem auQ:xM cu mulN 1 2=true:=by kernel_rfl
theorem auR:xM cu mulN 1 3=true:=by kernel_rfl
theorem auS:xM cu mulN 2 7=true:=by kernel_rfl
theorem arV:xM cu mulN 3 11=true:=by kernel_rfl
theorem arW:xM cu mulN 3 13=true:=by kernel_rfl
theorem arX:xM cu mulN 4 19=true:=by kernel_rfl
theorem arY:xM cu mulN 4 25=true:=by kernel_rfl
theorem arZ:xM cu mulN 4 31=true:=by kernel_rfl
theorem ar0:xM cu mulN 5 37=true:=by kernel_rfl
theorem ar1:xM cu mulN 5 41=true:=by kernel_rfl
theorem ar2:xM cu mulN 5 47=true:=by kernel_rfl
theorem ar3:xM cu mulN 5 55=true:=by kernel_rfl
theorem ar4:xM cu mulN 5 59=true:=by kernel_rfl
theorem ar5:xM cu mulN 5 61=true:=by kernel_rfl
theorem abE{f:TF3}(hf:aO f=true){a b:Int}(ha:inF f a)(hb:inF f b):cu f a b=some (fZ f a b):=by
 refine arb (fun q hq=>?_) hf ha hb
 simp only [iT,List.mem_cons,List.not_mem_nil,or_false] at hq
 rcases hq with rfl|rfl|rfl|rfl|rfl|rfl|rfl|rfl|rfl|rfl|rfl|rfl|rfl|rfl
 ·exact auQ
 ·exact auR
 ·exact auS
 ·exact arV
 ·exact arW
 ·exact arX
 ·exact arY
 ·exact arZ
 ·exact ar0
 ·exact ar1
 ·exact ar2
 ·exact ar3
 ·exact ar4
 ·exact ar5
def Sz:Env:=⟨tau,[(201,ZT),(200,Ux)],[]⟩
def ae0:FnI:=fnI Try.f145 []
def MQ (_:(Int×(Int×Unit))) (_:Int) (_:Int):Int→aA:=fun r=>⟨(.i r),[],[]⟩
theorem acs:∀(p0:(Int×(Int×Unit)))(p1 p2:Int),bI Sz ae0 ⟨[(.imm true aJ p0),(.i p1),(.i p2)],[]⟩=(ZK p0 p1 p2).run fun r=>some (MQ p0 p1 p2 r):=fun _ _ _=>by kernel_rfl
def aeZ (av:List AV) (rs:List Root):Tre aA:=
 aB av fun a0_ av0=>
 aB av0 fun a1_ av1=>
 aB av1 fun a2_ av2=>
 aL av2<|
 aL rs<|
 aC true aJ a0_ fun d1=>
 aC true .n a1_ fun d2=>
 aC true .n a2_ fun d3=>
 .mat (cu d1 d2 d3) fun r=>.ret (MQ d1 d2 d3 r)
def uP:Ctr:=dD [] aeZ
theorem xY:Contract Try.prog .none 145 uP:=aD (V:=Sz) aT (ak ag6 auG (ak ZU apT aI)) Try.func145 bF fun _ _ _=>aH fun _ _=>aH fun _ _=>aH fun _ _=>bn<|bn<|aM fun _=>aM fun _=>aM fun _=>fun h=>by intros;subst_vars;exact bg (acs _ _ _) h
def zL (bD:(Int×(Int×Unit))):(Int×Int×Int)→Tre ((Int×Int×Int) ⊕ Int):=fun s2=>
 .cond (decide (s2.2.1>0))
  (.cond (decide (LC .i64 s2.2.1 1=1))
   (.mat (cu bD s2.2.2 s2.1) fun r1=>
   .mat (cu bD s2.1 s2.1) fun r2=>
   .ret (.inl (r2,Pe .i64 s2.2.1 1,r1)))
   (.mat (cu bD s2.1 s2.1) fun r3=>
   .ret (.inl (r3,Pe .i64 s2.2.1 1,s2.2.2))))
  (.ret (.inr s2.2.2))
def SA (p0:(Int×(Int×Unit))) (p1:Int) (p2:Int):Tre Int:=
 .mat (aP (zL p0) (p1,p2,1)) fun l4=>
 .ret l4
def MR (p0:(Int×(Int×Unit))) (p1:Int) (p2:Int):Option Int:=(SA p0 p1 p2).run some
def vI:Env:=⟨tau,[(145,uP)],[]⟩
def MS:Code:=(Try.f223.body).getD .skip
def Dh (bD:(Int×(Int×Unit))):(Int×Int×Int)→St:=fun x=>bR [(1,(.i x.1)),(2,(.i x.2.1)),(3,(.ptr (5,0) [])),(7,(.i x.2.2))] [((5,0),some ⟨true,aJ,.own,bD⟩)]
def Bq (_:(Int×(Int×Unit))):Int→Ex×St:=fun x=>(.exit 0,bR [(7,(.i x))] [])
def Ue (s:St):Tre (Ex×St):=
 aC true .n (s.tmps 1) fun d2=>
 aC true .n (s.tmps 2) fun d4=>
 dB (5,0) [] (s.tmps 3)<|
 aC true .n (s.tmps 7) fun d7=>
 aW true aJ (s.roots (5,0)) fun m9 d10=>
 asM .own m9<|
 .mat (aP (zL d10) (d2,d4,d7)) fun x=>.ret (Bq d10 x)
def ou:bB:=⟨([1,2,3,7],[(5,0)]),([7],[]),Ue⟩
def CB:List (Nat×bB):=[(2,ou)]
theorem Nv:∀(bD:(Int×(Int×Unit)))(x:(Int×Int×Int))(c:St→Option (Ex×St)),den vI CB (aU MS 0) (Dh bD x) (bY ou.kp ou.kx c)=(zL bD x).run (bZ (Dh bD) (Bq bD) c):=fun _ _ _=>by
 kernel_rfl
theorem Rt:bP vI CB (aU MS 0) ou:=dw fun _ _ _=>aM fun _=>aM fun _=>fT<|aM fun _=>bN fun _ _=>tM<|fun h _ e8 e6 e5 e3 e1=>bT (Nv _) h (by subst_vars;exact aR rfl rfl ⟨e1,e3,e5,e6,trivial⟩ ⟨e8,trivial⟩)
def aaS:FnI:=fnI Try.f223 CB
def He (_:(Int×(Int×Unit))) (_:Int) (_:Int):Int→aA:=fun r=>⟨(.i r),[],[]⟩
theorem Ym:∀(p0:(Int×(Int×Unit)))(p1 p2:Int),bI vI aaS ⟨[(.imm true aJ p0),(.i p1),(.i p2)],[]⟩=(SA p0 p1 p2).run fun r=>some (He p0 p1 p2 r):=fun _ _ _=>by kernel_rfl
def aaR (av:List AV) (rs:List Root):Tre aA:=
 aB av fun a0_ av0=>
 aB av0 fun a1_ av1=>
 aB av1 fun a2_ av2=>
 aL av2<|
 aL rs<|
 aC true aJ a0_ fun d1=>
 aC true .n a1_ fun d2=>
 aC true .n a2_ fun d3=>
 .mat (MR d1 d2 d3) fun r=>.ret (He d1 d2 d3 r)
def MU:Ctr:=dD [] aaR
theorem Yn:Contract Try.prog .none 223 MU:=aD (V:=vI) aT (ak xY agR aI) Try.func223 (bJ (n:=1) fun k hk=>by
 match k,hk with
 |0,_=>exact bM (id:=2) Rt) fun _ _ _=>aH fun _ _=>aH fun _ _=>aH fun _ _=>bn<|bn<|aM fun _=>aM fun _=>aM fun _=>fun h=>by intros;subst_vars;exact bg (Ym _ _ _) h
def MP (p0:(Int×(Int×Unit))) (p1:Int):Tre Int:=
 .mat (dN p0) fun r1=>
 .mat (MR p0 p1 (aN .i64 (r1-2))) fun r2=>
 .ret r2
def cK (p0:(Int×(Int×Unit))) (p1:Int):Option Int:=(MP p0 p1).run some
-- more
set_option maxRecDepth 100000
theorem auN:xL cK ql 1 2=true:=by kernel_rfl
theorem auO:xL cK ql 1 3=true:=by kernel_rfl
theorem auP:xL cK ql 2 7=true:=by kernel_rfl
theorem arI:xL cK ql 3 11=true:=by kernel_rfl
theorem arJ:xL cK ql 3 13=true:=by kernel_rfl
theorem arK:xL cK ql 4 19=true:=by kernel_rfl
theorem arL:xL cK ql 4 25=true:=by kernel_rfl
theorem arM:xL cK ql 4 31=true:=by kernel_rfl
theorem arN:xL cK ql 5 37=true:=by kernel_rfl
theorem arO:xL cK ql 5 41=true:=by kernel_rfl
theorem arP:xL cK ql 5 47=true:=by kernel_rfl
theorem arQ:xL cK ql 5 55=true:=by kernel_rfl
theorem arR:xL cK ql 5 59=true:=by kernel_rfl
theorem arS:xL cK ql 5 61=true:=by kernel_rfl
theorem arT{f:TF3}(hf:aO f=true){a:Int}(ha:inF f a):cK f a=some (yC f a):=by
 refine aqJ (fun q hq=>?_) hf ha
 simp only [iT,List.mem_cons,List.not_mem_nil,or_false] at hq
 rcases hq with rfl|rfl|rfl|rfl|rfl|rfl|rfl|rfl|rfl|rfl|rfl|rfl|rfl|rfl
 ·exact auN
 ·exact auO
 ·exact auP
 ·exact arI
 ·exact arJ
 ·exact arK
 ·exact arL
 ·exact arM
 ·exact arN
 ·exact arO
 ·exact arP
 ·exact arQ
 ·exact arR
 ·exact arS
def G8:Env:=⟨tau,[(142,lH),(223,MU)],[]⟩
def VH:FnI:=fnI Try.f198 []
def Df (_:(Int×(Int×Unit))) (_:Int):Int→aA:=fun r=>⟨(.i r),[],[]⟩
theorem Uc:∀(p0:(Int×(Int×Unit)))(p1:Int),bI G8 VH ⟨[(.imm true aJ p0),(.i p1)],[]⟩=(MP p0 p1).run fun r=>some (Df p0 p1 r):=fun _ _=>by kernel_rfl
def VG (av:List AV) (rs:List Root):Tre aA:=
 aB av fun a0_ av0=>
 aB av0 fun a1_ av1=>
 aL av1<|
 aL rs<|
 aC true aJ a0_ fun d1=>
 aC true .n a1_ fun d2=>
 .mat (cK d1 d2) fun r=>.ret (Df d1 d2 r)
def G9:Ctr:=dD [] VG
theorem Ud:Contract Try.prog .none 198 G9:=aD (V:=G8) aT (ak nD ab9 (ak Yn auL aI)) Try.func198 bF fun _ _ _=>aH fun _ _=>aH fun _ _=>bn<|bn<|aM fun _=>aM fun _=>fun h=>by intros;subst_vars;exact bg (Uc _ _) h
def iH (bG:(List (List Int))) (j4:Int):(Int×(List (List Int)))→Tre ((Int×(List (List Int))) ⊕ (List (List Int))):=fun s3=>
 .cond (decide (s3.1<j4))
  (.ite (0≤s3.1∧s3.1<(bG.length:Int))<|
  .mat (bG[s3.1.toNat]?) fun x1=>
  .mat (xP x1) fun r2=>
  .ite ((s3.2.length+1)*24≤bS∧1≤24)<|
  .ret (.inl (aN .i64 (s3.1+1),s3.2++([r2]))))
  (.ret (.inr s3.2))
def gW (qx:Nat) (GU:Int) (GV:Int) (Ao:(Int×(Int×Unit))):(Int×(List (List Int)))→Tre ((Int×(List (List Int))) ⊕ (List (List Int))):=fun s15=>
 .cond (decide (s15.1<GV))
  (.mat (s15.2[qx]?) fun x15=>
  .ite (0≤s15.1∧s15.1<(x15.length:Int))<|
  .mat (s15.2[qx]?) fun x16=>
  .mat (x16[s15.1.toNat]?) fun x17=>
  .mat (cu Ao x17 GU) fun r18=>
  .mat (s15.2[qx]?) fun x19=>
  .ite (0≤s15.1∧s15.1<(x19.length:Int))<|
  .mat (s15.2[qx]?) fun x20=>
  .mat (x20[s15.1.toNat]?) fun _=>
  let v22:=x20.set s15.1.toNat r18
  .ret (.inl (aN .i64 (s15.1+1),s15.2.set qx v22)))
  (.ret (.inr s15.2))
def gX (xW:Nat) (vH:Nat) (GZ:Int) (G5:Int) (uO:(Int×(Int×Unit))):(Int×(List (List Int)))→Tre ((Int×(List (List Int))) ⊕ (List (List Int))):=fun s25=>
 .cond (decide (s25.1<G5))
  (.mat (s25.2[vH]?) fun x29=>
  .ite (0≤s25.1∧s25.1<(x29.length:Int))<|
  .mat (s25.2[vH]?) fun x30=>
  .mat (x30[s25.1.toNat]?) fun x31=>
  .mat (s25.2[xW]?) fun x32=>
  .ite (0≤s25.1∧s25.1<(x32.length:Int))<|
  .mat (s25.2[xW]?) fun x33=>
  .mat (x33[s25.1.toNat]?) fun x34=>
  .mat (cu uO GZ x34) fun r35=>
  .mat (s25.2[vH]?) fun x36=>
  .ite (0≤s25.1∧s25.1<(x36.length:Int))<|
  .mat (s25.2[vH]?) fun x37=>
  .mat (x37[s25.1.toNat]?) fun _=>
  let v39:=x37.set s25.1.toNat (jD .i64 x31 r35)
  .ret (.inl (aN .i64 (s25.1+1),s25.2.set vH v39)))
  (.ret (.inr s25.2))
def fJ (Au:Int) (GX:Nat) (GY:Int) (Av:(Int×(Int×Unit))) (Aw:Int):(Int×(List (List Int)))→Tre ((Int×(List (List Int))) ⊕ (List (List Int))):=fun s20=>
 .cond (decide (s20.1<GY))
  (.ite (0≤s20.1∧s20.1<(s20.2.length:Int))<|
  .mat (s20.2[s20.1.toNat]?) fun _=>
  .mat (s20.2[s20.1.toNat]?) fun x25=>
  .ite (0≤Aw∧Aw<(x25.length:Int))<|
  .mat (s20.2[s20.1.toNat]?) fun x26=>
  .mat (x26[Aw.toNat]?) fun x27=>
  .cond (!decide (s20.1=Au))
   (.cond (!decide (x27=0))
    (.mat (s20.2[s20.1.toNat]?) fun x28=>
    .mat (aP (gX GX s20.1.toNat x27 (x28.length:Int) Av) (0,s20.2)) fun l40=>
    .ret (.inl (aN .i64 (s20.1+1),l40)))
    (.ret (.inl (aN .i64 (s20.1+1),s20.2))))
   (.ret (.inl (aN .i64 (s20.1+1),s20.2))))
  (.ret (.inr s20.2))
def gu (oq:Int) (mM:(Int×(Int×Unit))):(Int×Int×(List (List Int)))→Tre ((Int×Int×(List (List Int))) ⊕ (Int×(List (List Int)))):=fun s8=>
 .cond (decide (s8.2.1<oq))
  (.ite (0≤s8.1∧s8.1≤(s8.2.2.length:Int)∧(s8.2.2.length:Int)≤(s8.2.2.length:Int))<|
  .mat (anp ((s8.2.2.drop s8.1.toNat).take (((s8.2.2.length:Int)-s8.1).toNat)) s8.2.1) fun r4=>
  .cond (decide (r4<0))
   (.ret (.inl (s8.1,aN .i64 (s8.2.1+1),s8.2.2)))
   (.ite (0≤aN .i64 (s8.1+r4)∧aN .i64 (s8.1+r4)<(s8.2.2.length:Int))<|
   .mat (s8.2.2[(aN .i64 (s8.1+r4)).toNat]?) fun _=>
   .ite (0≤s8.1∧s8.1<(s8.2.2.length:Int))<|
   .mat (s8.2.2[s8.1.toNat]?) fun _=>
   .ite (0≤s8.1∧s8.1<(s8.2.2.length:Int))<|
   .ite (0≤aN .i64 (s8.1+r4)∧aN .i64 (s8.1+r4)<(s8.2.2.length:Int))<|
   .ite (Int.ofNat s8.1.toNat=Int.ofNat s8.1.toNat∧Int.ofNat ((aN .i64 (s8.1+r4)).toNat)=Int.ofNat ((aN .i64 (s8.1+r4)).toNat))<|
   let v7:=Cx ((aN .i64 (s8.1+r4)).toNat) s8.1.toNat s8.2.2
   .ite (0≤s8.1∧s8.1<(v7.length:Int))<|
   .mat (v7[s8.1.toNat]?) fun _=>
   .ite (0≤s8.1∧s8.1<(v7.length:Int))<|
   .mat (v7[s8.1.toNat]?) fun _=>
   .mat (v7[s8.1.toNat]?) fun x10=>
   .ite (0≤s8.2.1∧s8.2.1<(x10.length:Int))<|
   .mat (v7[s8.1.toNat]?) fun x11=>
   .mat (x11[s8.2.1.toNat]?) fun x12=>
   .mat (cK mM x12) fun r13=>
   .mat (v7[s8.1.toNat]?) fun x14=>
   .mat (aP (gW s8.1.toNat r13 (x14.length:Int) mM) (0,v7)) fun l23=>
   .mat (aP (fJ s8.1 s8.1.toNat (l23.length:Int) mM s8.2.1) (0,l23)) fun l41=>
   .ret (.inl (aN .i64 (s8.1+1),aN .i64 (s8.2.1+1),l41))))
  (.ret (.inr (s8.1,s8.2.2)))
def Eo (p0:(Int×(Int×Unit))) (p1:Int) (p2:(List (List Int))):Tre (List (List Int)):=
 .mat (aP (iH p2 (p2.length:Int)) (0,[])) fun l3=>
 .mat (aP (gu p1 p0) (0,0,l3)) fun l42=>
 .ite (0≤(0:Int)∧(0:Int)≤l42.1∧l42.1≤(l42.2.length:Int))<|
 .ret ((l42.2.drop 0).take ((l42.1-0).toNat))
def nE (p0:(Int×(Int×Unit))) (p1:Int) (p2:(List (List Int))):Option (List (List Int)):=(Eo p0 p1 p2).run some
-- more
theorem ach{α β γ:Type}(g:α→γ)(fin:List γ→β):∀(l:List α)(i:Nat)(acc:List γ),acc.length=i+l.length→Bh (fun i acc x=>(.inl (acc.set i (g x)):List γ ⊕ β)) fin i acc l=fin (acc.take i++l.map g):=by
 intro l
 induction l with
 |nil=>intro i acc h;simp only [Bh,List.map_nil,List.append_nil];rw [List.take_of_length_le (by simp at h;omega)]
 |cons x l ih=>
  intro i acc h
  simp only [List.length_cons] at h
  simp only [Bh]
  rw [ih (i+1) _ (by simp;omega),List.take_add_one]
  simp [show i<acc.length by omega,List.take_set_of_le (Nat.le_refl i)]
theorem aoJ{f:TF3}(hf:aO f=true){L:List (List Int)}{k:Nat}{row:List Int}(hk:L[k]?=some row)(hn:row.length≤1000000)(hr:∀y∈row,inF f y){x:Int}(hx:inF f x) :
  aP (gW k x (row.length:Int) f) (0,L)=some (L.set k (row.map fun y=>fZ f y x)):=by
 have hkl:=(List.getElem?_eq_some_iff.1 hk).1
 have key:=pR (xs:=row) (step:=gW k x (row.length:Int) f) (fun (i:Nat) (acc:List Int)=>((i:Int),L.set k acc)) (fun i acc y=>.inl (acc.set i (fZ f y x))) (fun acc=>L.set k acc) (fun i acc=>acc.length=row.length∧acc.drop i=row.drop i) (by
  intro i acc y hy hi
  have hlt:=(List.getElem?_eq_some_iff.1 hy).1
  have hg:(L.set k acc)[k]?=some acc:=by rw [List.getElem?_set_self hkl]
  have hai:acc[i]?=some y:=by
   have:=congrArg (·[0]?) hi.2
   simpa [hy] using this
  refine ⟨?_,fun a ha=>?_⟩
  ·unfold gW
   dsimp only
   rw [Tre.aF,decide_eq_true (by omega),cond_true,ah hg,Tre.run_ite,if_pos (by omega),ah hg,Int.toNat_natCast,ah hai,ah (abE hf (hr _ (List.mem_of_getElem? hy)) hx),ah hg,Tre.run_ite,if_pos (by omega),ah hg,ah hai,Tre.aK,aV (by omega),List.set_set]
  ·cases ha
   refine ⟨by simp [hi.1],?_⟩
   rw [List.drop_set_of_lt (by omega),←List.drop_drop,←List.drop_drop,hi.2]) (by
  intro acc _
  unfold gW
  dsimp only
  rw [Tre.aF,decide_eq_false (by omega),cond_false]
  rfl) row 0 row rfl (Nat.zero_le _) ⟨rfl,rfl⟩
 rw [ach _ _ _ _ _ (by simp)] at key
 have h0:L.set k row=L:=by
  apply List.ext_getElem?
  intro j
  rw [List.getElem?_set]
  split
  ·rename_i h;subst h;exact hk.symm
  ·rfl
 rw [h0] at key
 simpa using key
theorem aoI{f:TF3}(hf:aO f=true){L:List (List Int)}{k i2:Nat}(hne:k≠i2){own r:List Int}(hk:L[k]?=some own)(h2:L[i2]?=some r)(hl:r.length=own.length)(hn:r.length≤1000000)(hr:∀y∈own,inF f y){x:Int}(hx:inF f x) :
  aP (gX k i2 x (r.length:Int) f) (0,L)=some (L.set i2 ((r.zip own).map fun p=>jD .i64 p.1 (fZ f x p.2))):=by
 have hkl:=(List.getElem?_eq_some_iff.1 h2).1
 have key:=pR (xs:=r.zip own) (step:=gX k i2 x (r.length:Int) f) (fun (i:Nat) (acc:List Int)=>((i:Int),L.set i2 acc)) (fun i acc p=>.inl (acc.set i (jD .i64 p.1 (fZ f x p.2)))) (fun acc=>L.set i2 acc) (fun i acc=>acc.length=r.length∧acc.drop i=r.drop i) (by
  intro i acc p hp hi
  have hlt:=(List.getElem?_eq_some_iff.1 hp).1
  rw [List.length_zip] at hlt
  obtain ⟨p1,p2⟩:=p
  rw [List.getElem?_zip_eq_some] at hp
  obtain ⟨hp1,hp2⟩:=hp
  have hg:(L.set i2 acc)[i2]?=some acc:=by rw [List.getElem?_set_self hkl]
  have hgk:(L.set i2 acc)[k]?=some own:=by rw [List.getElem?_set_ne (Ne.symm hne)];exact hk
  have hai:acc[i]?=some p1:=by
   have:=congrArg (·[0]?) hi.2
   simpa [hp1] using this
  refine ⟨?_,fun a ha=>?_⟩
  ·unfold gX
   dsimp only
   rw [Tre.aF,decide_eq_true (by omega),cond_true,ah hg,Tre.run_ite,if_pos (by omega),ah hg,Int.toNat_natCast,ah hai,ah hgk,Tre.run_ite,if_pos (by omega),ah hgk,ah hp2,ah (abE hf hx (hr _ (List.mem_of_getElem? hp2))),ah hg,Tre.run_ite,if_pos (by omega),ah hg,ah hai,Tre.aK,aV (by omega),List.set_set]
  ·cases ha
   refine ⟨by simp [hi.1],?_⟩
   rw [List.drop_set_of_lt (by omega),←List.drop_drop,←List.drop_drop,hi.2]) (by
  intro acc _
  unfold gX
  dsimp only
  rw [Tre.aF,decide_eq_false (by rw [List.length_zip];omega),cond_false]
  rfl) (r.zip own) 0 r rfl (Nat.zero_le _) ⟨rfl,rfl⟩
 rw [ach _ _ _ _ _ (by simp [hl])] at key
 have h0:L.set i2 r=L:=by
  apply List.ext_getElem?
  intro j
  rw [List.getElem?_set]
  split
  ·rename_i h;subst h;simp [hkl,←h2]
  ·rfl
 rw [h0] at key
 simpa using key
theorem asw{f:TF3}(hf:aO f=true){L:List (List Int)}{k c:Nat}{own:List Int}(hk:L[k]?=some own)(hL:L.length≤1000000)(hn:own.length≤1000000)(hc:c<own.length)(hl:∀r∈L,r.length=own.length∧∀y∈r,inF f y) :
  aP (fJ (k:Int) k (L.length:Int) f (c:Int)) (0,L)=some (L.mapIdx (kD f c k own)):=by
 have hown:=hl own (List.mem_of_getElem? hk)
 have key:=pR (xs:=L) (step:=fJ (k:Int) k (L.length:Int) f (c:Int)) (fun (i:Nat) (acc:List (List Int))=>((i:Int),acc)) (fun i acc r=>.inl (acc.set i (kD f c k own i r))) id (fun i acc=>acc.length=L.length∧acc.drop i=L.drop i∧acc[k]?=some own) (by
  intro i acc r hr hi
  have hlt:=(List.getElem?_eq_some_iff.1 hr).1
  obtain ⟨hr1,hr2⟩:=hl r (List.mem_of_getElem? hr)
  have hai:acc[i]?=some r:=by
   have:=congrArg (·[0]?) hi.2.1
   simpa [hr] using this
  obtain ⟨x,hx⟩:∃x,r[c]?=some x:=⟨_,List.getElem?_eq_getElem (by omega)⟩
  have hset:acc.set i r=acc:=by
   apply List.ext_getElem?
   intro j
   rw [List.getElem?_set]
   split
   ·rename_i h;subst h;simp [show i<acc.length by omega,←hai]
   ·rfl
  refine ⟨?_,fun a ha=>?_⟩
  ·unfold fJ
   dsimp only
   rw [Tre.aF,decide_eq_true (by omega),cond_true,Tre.run_ite,if_pos (by omega),Int.toNat_natCast,ah hai,ah hai,Tre.run_ite,if_pos (by omega),ah hai,Int.toNat_natCast,ah hx,Tre.aF]
   by_cases h1:i=k
   ·rw [decide_eq_true (show (i:Int)=(k:Int) by omega),Bool.not_true,cond_false,Tre.aK,aV (by omega)]
    simp only [kD,hx,h1,decide_true,Bool.true_or,cond_true]
    rw [←h1,hset]
   ·rw [decide_eq_false (show ¬(i:Int)=(k:Int) by omega),Bool.not_false,cond_true,Tre.aF]
    by_cases h2:x=0
    ·rw [decide_eq_true h2,Bool.not_true,cond_false,Tre.aK,aV (by omega)]
     simp only [kD,hx,h2,decide_true,Bool.or_true,cond_true]
     rw [hset]
    ·rw [decide_eq_false h2,Bool.not_false,cond_true,ah hai,ah (aoI hf (fun h=>h1 h.symm) hi.2.2 hai hr1 (by omega) hown.2 (hr2 _ (List.mem_of_getElem? hx))),Tre.aK,aV (by omega)]
     simp only [kD,hx,h1,h2,decide_false,Bool.or_self,cond_false]
  ·cases ha
   refine ⟨by simp [hi.1],?_,?_⟩
   ·rw [List.drop_set_of_lt (by omega),←List.drop_drop,←List.drop_drop,hi.2.1]
   ·by_cases h1:i=k
    ·subst h1
     rw [List.getElem?_set_self (by omega)]
     rw [hr] at hk;cases hk
     simp only [kD,hx,decide_true,Bool.true_or,cond_true]
    ·rw [List.getElem?_set_ne h1];exact hi.2.2) (by
  intro acc _
  unfold fJ
  dsimp only
  rw [Tre.aF,decide_eq_false (by omega),cond_false]
  rfl) L 0 L rfl (Nat.zero_le _) ⟨rfl,rfl,hk⟩
 rw [acg _ _ _ _ _ (by simp)] at key
 simpa using key
theorem aqO{rows:List (List Int)}(hl:rows.length≤1000000)(hr:∀r∈rows,r.length≤1000000):aP (iH rows (rows.length:Int)) (0,[])=some rows:=by
 have key:=pR (xs:=rows) (step:=iH rows (rows.length:Int)) (fun (i:Nat) (acc:List (List Int))=>((i:Int),acc)) (fun _ acc r=>.inl (acc++[id r])) id (fun i acc=>acc.length=i) (by
  intro i acc r h hi
  have hlt:=(List.getElem?_eq_some_iff.1 h).1
  refine ⟨?_,fun a ha=>?_⟩
  ·unfold iH
   dsimp only
   rw [Tre.aF,decide_eq_true (by omega),cond_true,Tre.run_ite,if_pos (by omega),Int.toNat_natCast,ah h,ah (show xP r=some r from ahk (by have:=hr r (List.mem_of_getElem? h);omega)),Tre.run_ite,if_pos (by unfold bS;omega),Tre.aK,aV (by omega)]
   rfl
  ·cases ha;simp [hi]) (by
  intro acc _
  unfold iH
  dsimp only
  rw [Tre.aF,decide_eq_false (by omega),cond_false]
  rfl) rows 0 [] rfl (Nat.zero_le _) rfl
 rw [QN,List.map_id] at key
 exact key
theorem aqQ{f:TF3}(hf:aO f=true){n c:Nat}(hc:c<n)(hn:n≤1000000)(s:Nat×List (List Int))(h:GR f n s.2)(hL:s.2.length≤1000000)(ha:s.1≤s.2.length) :
  (gu (n:Int) f ((s.1:Int),(c:Int),s.2)).run some=some (.inl (((iE f c s).1:Int),((c+1:Nat):Int),(iE f c s).2)):=by
 obtain ⟨a,L⟩:=s
 dsimp only at h hL ha
 unfold gu
 dsimp only
 have htk:(L.drop a).take (((L.length:Int)-(a:Int)).toNat)=L.drop a:=List.take_of_length_le (by rw [List.length_drop];omega)
 rw [Tre.aF,decide_eq_true (by omega),cond_true,Tre.run_ite,if_pos (by omega),Int.toNat_natCast,htk,ah (asy (fun r hr=>by rw [(h r (List.mem_of_mem_drop hr)).1];exact hc) (by rw [List.length_drop];omega)),Tre.aF]
 unfold iE
 dsimp only
 rcases wu (uF c) (L.drop a) 0 with ⟨h1,_⟩|⟨k,row,h1,h2,h3⟩
 ·have h4:=ajf (uF c) (L.drop a) a 0
  rw [h1,if_pos (by decide)] at h4
  simp only [Nat.add_zero] at h4
  rw [h1,h4]
  simp only [show decide ((-1:Int)<0)=true from rfl,cond_true]
  rw [Tre.aK,aV (by omega)]
 ·have h4:=ajf (uF c) (L.drop a) a 0
  rw [h3,if_neg (by omega)] at h4
  simp only [Nat.add_zero,Nat.zero_add] at h4
  have h4:lF (uF c) a (L.drop a)=((a+k:Nat):Int):=by rw [h4];omega
  have hak:L[a+k]?=some row:=by rw [←h1,List.getElem?_drop]
  have hlt:=(List.getElem?_eq_some_iff.1 hak).1
  obtain ⟨r0,hr0⟩:∃r0,L[a]?=some r0:=⟨_,List.getElem?_eq_getElem (by omega)⟩
  obtain ⟨hrl,hrf⟩:=Bb h hak
  obtain ⟨x,hx,hx0⟩:=ahC h2
  have hxf:=hrf x (List.mem_of_getElem? hx)
  have hsw:Cx (a+k) a L=(L.set (a+k) r0).set a row:=by unfold Cx;rw [hak,hr0]
  have hva:((L.set (a+k) r0).set a row)[a]?=some row:=List.getElem?_set_self (by simp;omega)
  rw [h3,h4]
  simp only [Nat.zero_add]
  have hw:aN .i64 ((a:Int)+(k:Int))=((a+k:Nat):Int):=by rw [dh (by omega) (by omega)];omega
  rw [hw,Int.toNat_natCast,hsw,decide_eq_false (by omega),decide_eq_false (by omega),cond_false,cond_false]
  rw [Tre.run_ite,if_pos (by omega),ah hak,Tre.run_ite,if_pos (by omega),ah hr0,Tre.run_ite,if_pos (by omega),Tre.run_ite,if_pos (by omega),Tre.run_ite,if_pos (by simp)]
  simp only [List.length_set]
  rw [Tre.run_ite,if_pos (by omega),ah hva,Tre.run_ite,if_pos (by omega),ah hva,ah hva,Tre.run_ite,if_pos (by omega),ah hva,Int.toNat_natCast,ah hx,ah (arT hf hxf),ah hva]
  rw [ah (aoJ hf hva (by omega) hrf (zT hf hxf).1),List.set_set]
  have hp:Kg f c (a+k) a L=(L.set (a+k) r0).set a (row.map fun y=>fZ f y (yC f x)):=by
   unfold Kg Jt
   rw [hak,hr0]
   simp only [hx]
  have hpg:=abH (c:=c) (k:=a+k) (a:=a) hf h
  rw [hp] at hpg ⊢
  have hpa:((L.set (a+k) r0).set a (row.map fun y=>fZ f y (yC f x)))[a]?=some (row.map fun y=>fZ f y (yC f x)):=List.getElem?_set_self (by simp;omega)
  generalize hG:(L.set (a+k) r0).set a (row.map fun y=>fZ f y (yC f x))=G at hpg hpa
  have hown:=Bb hpg.1 hpa
  have hcl:aP (fJ (a:Int) a (G.length:Int) f (c:Int)) (0,G)=some (G.mapIdx (kD f c a (row.map fun y=>fZ f y (yC f x)))):=
   asw hf hpa (by omega) (by omega) (by omega) (fun r hr=>by rw [hown.1];exact hpg.1 r hr)
  rw [ah hcl,Tre.aK,aV (by omega),aV (by omega)]
  unfold xO
  rw [hpa]
theorem aqP{f:TF3}(hf:aO f=true){n:Nat}(hn:n≤1000000):∀(m c:Nat)(s:Nat×List (List Int)),c+m=n→GR f n s.2→s.2.length≤1000000→s.1≤s.2.length→aP (gu (n:Int) f) ((s.1:Int),(c:Int),s.2)=some (((jM f c m s).1:Int),(jM f c m s).2):=by
 intro m
 induction m with
 |zero=>
  intro c s hc h hL ha
  have hc:c=n:=hc
  subst hc
  refine fC ?_
  unfold gu
  exact dY
 |succ m ih=>
  intro c s hc h hL ha
  rw [iJ (aqQ hf (by omega) hn s h hL ha)]
  have h1:=KW (c:=c) hf h ha
  exact ih (c+1) _ (by omega) h1.1 (by omega) (by omega)
theorem ar9{f:TF3}(hf:aO f=true){n:Nat}(hn:n≤1000000){L:List (List Int)}(h:GR f n L)(hL:L.length≤1000000):nE f (n:Int) L=some (TR f n L):=by
 have hl:=aqP hf hn n 0 (0,L) (by omega) h hL (Nat.zero_le _)
 have hk:=Eb hf n 0 (0,L) h (Nat.zero_le _)
 have hl:aP (gu (n:Int) f) (0,0,L)=_:=hl
 unfold nE Eo
 rw [ah (aqO hL (fun r hr=>by rw [(h r hr).1];exact hn)),ah hl,Tre.run_ite,if_pos (by have:=hk.2.1;have:=hk.2.2;dsimp only at *;omega),Tre.aK]
 unfold TR
 simp
def dV:Env:=⟨tau,[(61,mF),(144,atC),(198,G9),(145,uP)],[]⟩
def fu:Code:=(Try.f140.body).getD .skip
def Br (eF:Bool) (aQ:Int) (bL:Int) (bG:(List (List Int))) (j4:Int) (TW:(Int×(Int×Unit))):(Int×(List (List Int)))→St:=fun x=>bR [(1,(.i aQ)),(3,(.ptr (5,0) [])),(7,(.ref (9,0) [])),(8,(.i bL)),(21,(.imm eF (.sl .il) bG)),(22,(.i j4)),(23,(.i x.1))] [((5,0),some ⟨true,aJ,.own,TW⟩),((9,0),some ⟨false,(.sl .il),.own,x.2⟩)]
def zf (_:Bool) (aQ:Int) (bL:Int) (_:(List (List Int))) (_:Int) (TW:(Int×(Int×Unit))):(List (List Int))→Ex×St:=fun x=>(.exit 0,bR [(1,(.i aQ)),(3,(.ptr (5,0) [])),(7,(.ref (9,0) [])),(8,(.i bL))] [((5,0),some ⟨true,aJ,.own,TW⟩),((9,0),some ⟨false,(.sl .il),.own,x⟩)])
def Ru (s:St):Tre (Ex×St):=
 aC true .n (s.tmps 1) fun d2=>
 dB (5,0) [] (s.tmps 3)<|
 fA (9,0) [] (s.tmps 7)<|
 aC true .n (s.tmps 8) fun d6=>
 bE (.sl .il) (s.tmps 21) fun z9 d8=>
 aC true .n (s.tmps 22) fun d11=>
 aC true .n (s.tmps 23) fun d13=>
 aW true aJ (s.roots (5,0)) fun m15 d16=>
 asM .own m15<|
 aW false (.sl .il) (s.roots (9,0)) fun m18 d19=>
 asM .own m18<|
 .mat (aP (iH d8 d11) (d13,d19)) fun x=>.ret (zf z9 d2 d6 d8 d11 d16 x)
def mW:bB:=⟨([1,3,7,8,21,22,23],[(5,0),(9,0)]),([1,3,7,8],[(5,0),(9,0)]),Ru⟩
def y9 (K3:Int) (qx:Nat) (GU:Int) (K4:Int) (K5:Int) (GV:Int) (Ao:(Int×(Int×Unit))) (K6:Int):(Int×(List (List Int)))→St:=fun x=>bR [(3,(.ptr (5,0) [])),(7,(.ref (9,0) [])),(8,(.i K3)),(11,(.ptr (13,0) [])),(13,(.ref (9,0) [.idx qx])),(14,(.i GU)),(33,(.i K4)),(34,(.i K5)),(76,(.i GV)),(77,(.i x.1))] [((5,0),some ⟨true,aJ,.own,Ao⟩),((9,0),some ⟨false,(.sl .il),.own,x.2⟩),((13,0),some ⟨true,.n,.own,K6⟩)]
def xZ (K3:Int) (qx:Nat) (_:Int) (K4:Int) (K5:Int) (_:Int) (Ao:(Int×(Int×Unit))) (K6:Int):(List (List Int))→Ex×St:=fun x=>(.exit 4,bR [(3,(.ptr (5,0) [])),(7,(.ref (9,0) [])),(8,(.i K3)),(11,(.ptr (13,0) [])),(13,(.ref (9,0) [.idx qx])),(33,(.i K4)),(34,(.i K5))] [((5,0),some ⟨true,aJ,.own,Ao⟩),((9,0),some ⟨false,(.sl .il),.own,x⟩),((13,0),some ⟨true,.n,.own,K6⟩)])
def OH (s:St):Tre (Ex×St):=
 dB (5,0) [] (s.tmps 3)<|
 fA (9,0) [] (s.tmps 7)<|
 aC true .n (s.tmps 8) fun d4=>
 dB (13,0) [] (s.tmps 11)<|
 TH (9,0) [.idx 0] (s.tmps 13) fun i7=>
 aC true .n (s.tmps 14) fun d9=>
 aC true .n (s.tmps 33) fun d11=>
 aC true .n (s.tmps 34) fun d13=>
 aC true .n (s.tmps 76) fun d15=>
 aC true .n (s.tmps 77) fun d17=>
 aW true aJ (s.roots (5,0)) fun m19 d20=>
 asM .own m19<|
 aW false (.sl .il) (s.roots (9,0)) fun m22 d23=>
 asM .own m22<|
 aW true .n (s.roots (13,0)) fun m25 d26=>
 asM .own m25<|
 .mat (aP (gW i7 d9 d15 d20) (d17,d23)) fun x=>.ret (xZ d4 i7 d9 d11 d13 d15 d20 d26 x)
def lQ:bB:=⟨([3,7,8,11,13,14,33,34,76,77],[(5,0),(9,0),(13,0)]),([3,7,8,11,13,33,34],[(5,0),(9,0),(13,0)]),OH⟩
def ze (Le:Int) (xW:Nat) (vH:Nat) (GZ:Int) (Lf:Int) (Lg:Int) (Lh:Int) (Li:Int) (G5:Int) (uO:(Int×(Int×Unit))) (Ec:Int):(Int×(List (List Int)))→St:=fun x=>bR [(3,(.ptr (5,0) [])),(7,(.ref (9,0) [])),(8,(.i Le)),(11,(.ptr (13,0) [])),(13,(.ref (9,0) [.idx xW])),(17,(.ref (9,0) [.idx vH])),(18,(.i GZ)),(33,(.i Lf)),(34,(.i Lg)),(91,(.ref (9,0) [])),(92,(.i Lh)),(93,(.i Li)),(110,(.i G5)),(111,(.i x.1))] [((5,0),some ⟨true,aJ,.own,uO⟩),((9,0),some ⟨false,(.sl .il),.own,x.2⟩),((13,0),some ⟨true,.n,.own,Ec⟩)]
def yg (Le:Int) (xW:Nat) (_:Nat) (_:Int) (Lf:Int) (Lg:Int) (Lh:Int) (Li:Int) (_:Int) (uO:(Int×(Int×Unit))) (Ec:Int):(List (List Int))→Ex×St:=fun x=>(.exit 8,bR [(3,(.ptr (5,0) [])),(7,(.ref (9,0) [])),(8,(.i Le)),(11,(.ptr (13,0) [])),(13,(.ref (9,0) [.idx xW])),(33,(.i Lf)),(34,(.i Lg)),(91,(.ref (9,0) [])),(92,(.i Lh)),(93,(.i Li))] [((5,0),some ⟨true,aJ,.own,uO⟩),((9,0),some ⟨false,(.sl .il),.own,x⟩),((13,0),some ⟨true,.n,.own,Ec⟩)])
def OJ (s:St):Tre (Ex×St):=
 dB (5,0) [] (s.tmps 3)<|
 fA (9,0) [] (s.tmps 7)<|
 aC true .n (s.tmps 8) fun d4=>
 dB (13,0) [] (s.tmps 11)<|
 TH (9,0) [.idx 0] (s.tmps 13) fun i7=>
 TH (9,0) [.idx 0] (s.tmps 17) fun i9=>
 aC true .n (s.tmps 18) fun d11=>
 aC true .n (s.tmps 33) fun d13=>
 aC true .n (s.tmps 34) fun d15=>
 fA (9,0) [] (s.tmps 91)<|
 aC true .n (s.tmps 92) fun d18=>
 aC true .n (s.tmps 93) fun d20=>
 aC true .n (s.tmps 110) fun d22=>
 aC true .n (s.tmps 111) fun d24=>
 aW true aJ (s.roots (5,0)) fun m26 d27=>
 asM .own m26<|
 aW false (.sl .il) (s.roots (9,0)) fun m29 d30=>
 asM .own m29<|
 aW true .n (s.roots (13,0)) fun m32 d33=>
 asM .own m32<|
 .mat (aP (gX i7 i9 d11 d22 d27) (d24,d30)) fun x=>.ret (yg d4 i7 i9 d11 d13 d15 d18 d20 d22 d27 d33 x)
def lT:bB:=⟨([3,7,8,11,13,17,18,33,34,91,92,93,110,111],[(5,0),(9,0),(13,0)]),([3,7,8,11,13,33,34,91,92,93],[(5,0),(9,0),(13,0)]),OJ⟩
def za (Au:Int) (GX:Nat) (La:Int) (Lb:Int) (GY:Int) (Av:(Int×(Int×Unit))) (Aw:Int):(Int×(List (List Int)))→St:=fun x=>bR [(3,(.ptr (5,0) [])),(7,(.ref (9,0) [])),(8,(.i Au)),(11,(.ptr (13,0) [])),(13,(.ref (9,0) [.idx GX])),(33,(.i La)),(34,(.i Lb)),(91,(.ref (9,0) [])),(92,(.i GY)),(93,(.i x.1))] [((5,0),some ⟨true,aJ,.own,Av⟩),((9,0),some ⟨false,(.sl .il),.own,x.2⟩),((13,0),some ⟨true,.n,.own,Aw⟩)]
def yc (Au:Int) (_:Nat) (La:Int) (Lb:Int) (_:Int) (Av:(Int×(Int×Unit))) (_:Int):(List (List Int))→Ex×St:=fun x=>(.exit 6,bR [(3,(.ptr (5,0) [])),(7,(.ref (9,0) [])),(8,(.i Au)),(33,(.i La)),(34,(.i Lb))] [((5,0),some ⟨true,aJ,.own,Av⟩),((9,0),some ⟨false,(.sl .il),.own,x⟩)])
def OI (s:St):Tre (Ex×St):=
 dB (5,0) [] (s.tmps 3)<|
 fA (9,0) [] (s.tmps 7)<|
 aC true .n (s.tmps 8) fun d4=>
 dB (13,0) [] (s.tmps 11)<|
 TH (9,0) [.idx 0] (s.tmps 13) fun i7=>
 aC true .n (s.tmps 33) fun d9=>
 aC true .n (s.tmps 34) fun d11=>
 fA (9,0) [] (s.tmps 91)<|
 aC true .n (s.tmps 92) fun d14=>
 aC true .n (s.tmps 93) fun d16=>
 aW true aJ (s.roots (5,0)) fun m18 d19=>
 asM .own m18<|
 aW false (.sl .il) (s.roots (9,0)) fun m21 d22=>
 asM .own m21<|
 aW true .n (s.roots (13,0)) fun m24 d25=>
 asM .own m24<|
 .mat (aP (fJ d4 i7 d14 d19 d25) (d16,d22)) fun x=>.ret (yc d4 i7 d9 d11 d14 d19 d25 x)
def lS:bB:=⟨([3,7,8,11,13,33,34,91,92,93],[(5,0),(9,0),(13,0)]),([3,7,8,33,34],[(5,0),(9,0)]),OI⟩
def Bt (oq:Int) (mM:(Int×(Int×Unit))):(Int×Int×(List (List Int)))→St:=fun x=>bR [(3,(.ptr (5,0) [])),(7,(.ref (9,0) [])),(8,(.i x.1)),(33,(.i oq)),(34,(.i x.2.1))] [((5,0),some ⟨true,aJ,.own,mM⟩),((9,0),some ⟨false,(.sl .il),.own,x.2.2⟩)]
def zi (_:Int) (_:(Int×(Int×Unit))):(Int×(List (List Int)))→Ex×St:=fun x=>(.exit 2,bR [(7,(.ref (9,0) [])),(8,(.i x.1))] [((9,0),some ⟨false,(.sl .il),.own,x.2⟩)])
def Rv (s:St):Tre (Ex×St):=
 dB (5,0) [] (s.tmps 3)<|
 fA (9,0) [] (s.tmps 7)<|
 aC true .n (s.tmps 8) fun d4=>
 aC true .n (s.tmps 33) fun d6=>
 aC true .n (s.tmps 34) fun d8=>
 aW true aJ (s.roots (5,0)) fun m10 d11=>
 asM .own m10<|
 aW false (.sl .il) (s.roots (9,0)) fun m13 d14=>
 asM .own m13<|
 .mat (aP (gu d6 d11) (d4,d8,d14)) fun x=>.ret (zi d6 d11 x)
def mX:bB:=⟨([3,7,8,33,34],[(5,0),(9,0)]),([7,8],[(9,0)]),Rv⟩
def eT:List (Nat×bB):=[(3,mW),(15,lQ),(25,lT),(20,lS),(8,mX)]
theorem Lj:∀(eF:Bool)(aQ bL:Int)(bG:(List (List Int)))(j4:Int)(TW:(Int×(Int×Unit)))(x:(Int×(List (List Int))))(c:St→Option (Ex×St)),den dV eT (aU fu 0) (Br eF aQ bL bG j4 TW x) (bY mW.kp mW.kx c)=(iH bG j4 x).run (bZ (Br eF aQ bL bG j4 TW) (zf eF aQ bL bG j4 TW) c):=fun _ _ _ _ _ _ _ _=>by
 kernel_rfl
theorem OL:bP dV eT (aU fu 0) mW:=dw fun _ _ _=>aM fun _=>fT<|kW<|aM fun _=>dI fun _ _=>aM fun _=>aM fun _=>bN fun _ _=>tM<|bN fun _ _=>tM<|fun h _ e17 _ e14 e12 e10 e7 e5 e4 e3 e1=>bT (Lj _ _ _ _ _ _) h (by subst_vars;exact aR rfl rfl ⟨e1,e3,e4,e5,e7,e10,e12,trivial⟩ ⟨e14,e17,trivial⟩)
theorem JD:∀(K3:Int)(qx:Nat)(GU K4 K5 GV:Int)(Ao:(Int×(Int×Unit)))(K6:Int)(x:(Int×(List (List Int))))(c:St→Option (Ex×St)),den dV eT (aU fu 2) (y9 K3 qx GU K4 K5 GV Ao K6 x) (bY lQ.kp lQ.kx c)=(gW qx GU GV Ao x).run (bZ (y9 K3 qx GU K4 K5 GV Ao K6) (xZ K3 qx GU K4 K5 GV Ao K6) c):=fun _ _ _ _ _ _ _ _ _ _=>by
 kernel_rfl
theorem Nw:bP dV eT (aU fu 2) lQ:=dw fun _ _ _=>fT<|kW<|aM fun _=>fT<|anI fun _=>aM fun _=>aM fun _=>aM fun _=>aM fun _=>aM fun _=>bN fun _ _=>tM<|bN fun _ _=>tM<|bN fun _ _=>tM<|fun h _ e24 _ e21 _ e18 e16 e14 e12 e10 e8 e6 e5 e3 e2 e1=>bT (JD _ _ _ _ _ _ _ _) h (by subst_vars;exact aR rfl rfl ⟨e1,e2,e3,e5,e6,e8,e10,e12,e14,e16,trivial⟩ ⟨e18,e21,e24,trivial⟩)
theorem JF:∀(Le:Int)(xW vH:Nat)(GZ Lf Lg Lh Li G5:Int)(uO:(Int×(Int×Unit)))(Ec:Int)(x:(Int×(List (List Int))))(c:St→Option (Ex×St)),den dV eT (aU fu 4) (ze Le xW vH GZ Lf Lg Lh Li G5 uO Ec x) (bY lT.kp lT.kx c)=(gX xW vH GZ G5 uO x).run (bZ (ze Le xW vH GZ Lf Lg Lh Li G5 uO Ec) (yg Le xW vH GZ Lf Lg Lh Li G5 uO Ec) c):=fun _ _ _ _ _ _ _ _ _ _ _ _ _=>by
 kernel_rfl
theorem Nz:bP dV eT (aU fu 4) lT:=dw fun _ _ _=>fT<|kW<|aM fun _=>fT<|anI fun _=>anI fun _=>aM fun _=>aM fun _=>aM fun _=>kW<|aM fun _=>aM fun _=>aM fun _=>aM fun _=>bN fun _ _=>tM<|bN fun _ _=>tM<|bN fun _ _=>tM<|fun h _ e31 _ e28 _ e25 e23 e21 e19 e17 e16 e14 e12 e10 e8 e6 e5 e3 e2 e1=>bT (JF _ _ _ _ _ _ _ _ _ _ _) h (by subst_vars;exact aR rfl rfl ⟨e1,e2,e3,e5,e6,e8,e10,e12,e14,e16,e17,e19,e21,e23,trivial⟩ ⟨e25,e28,e31,trivial⟩)
theorem JE:∀(Au:Int)(GX:Nat)(La Lb GY:Int)(Av:(Int×(Int×Unit)))(Aw:Int)(x:(Int×(List (List Int))))(c:St→Option (Ex×St)),den dV eT (aU fu 3) (za Au GX La Lb GY Av Aw x) (bY lS.kp lS.kx c)=(fJ Au GX GY Av Aw x).run (bZ (za Au GX La Lb GY Av Aw) (yc Au GX La Lb GY Av Aw) c):=fun _ _ _ _ _ _ _ _ _=>by
 kernel_rfl
theorem Ny:bP dV eT (aU fu 3) lS:=dw fun _ _ _=>fT<|kW<|aM fun _=>fT<|anI fun _=>aM fun _=>aM fun _=>kW<|aM fun _=>aM fun _=>bN fun _ _=>tM<|bN fun _ _=>tM<|bN fun _ _=>tM<|fun h _ e23 _ e20 _ e17 e15 e13 e12 e10 e8 e6 e5 e3 e2 e1=>bT (JE _ _ _ _ _ _ _) h (by subst_vars;exact aR rfl rfl ⟨e1,e2,e3,e5,e6,e8,e10,e12,e13,e15,trivial⟩ ⟨e17,e20,e23,trivial⟩)
theorem Ll:∀(oq:Int)(mM:(Int×(Int×Unit)))(x:(Int×Int×(List (List Int))))(c:St→Option (Ex×St)),den dV eT (aU fu 1) (Bt oq mM x) (bY mX.kp mX.kx c)=(gu oq mM x).run (bZ (Bt oq mM) (zi oq mM) c):=fun _ _ _ _=>by
 kernel_rfl
theorem OM:bP dV eT (aU fu 1) mX:=dw fun _ _ _=>fT<|kW<|aM fun _=>aM fun _=>aM fun _=>bN fun _ _=>tM<|bN fun _ _=>tM<|fun h _ e12 _ e9 e7 e5 e3 e2 e1=>bT (Ll _ _) h (by subst_vars;exact aR rfl rfl ⟨e1,e2,e3,e5,e7,trivial⟩ ⟨e9,e12,trivial⟩)
def Yp:FnI:=fnI Try.f140 eT
def Ep (_:Bool) (_:(Int×(Int×Unit))) (_:Int) (_:(List (List Int))):(List (List Int))→aA:=fun r=>⟨(.ref (1,0) []),[],[⟨false,(.sl .il),.own,r⟩]⟩
theorem VK:∀(zp0:Bool)(p0:(Int×(Int×Unit)))(p1:Int)(p2:(List (List Int))),bI dV Yp ⟨[(.imm true aJ p0),(.i p1),(.imm zp0 (.sl .il) p2)],[]⟩=(Eo p0 p1 p2).run fun r=>some (Ep zp0 p0 p1 p2 r):=fun _ _ _ _=>by kernel_rfl
def Yo (av:List AV) (rs:List Root):Tre aA:=
 aB av fun a0_ av0=>
 aB av0 fun a1_ av1=>
 aB av1 fun a2_ av2=>
 aL av2<|
 aL rs<|
 aC true aJ a0_ fun d1=>
 aC true .n a1_ fun d2=>
 bE (.sl .il) a2_ fun z4 d3=>
 .mat (nE d1 d2 d3) fun r=>.ret (Ep z4 d1 d2 d3 r)
def JC:Ctr:=dD [] Yo
theorem VL:Contract Try.prog .none 140 JC:=aD (V:=dV) aT (ak qm apY (ak avq alv (ak Ud auF (ak xY agR aI)))) Try.func140 (bJ (n:=5) fun k hk=>by
 match k,hk with
 |0,_=>exact bM (id:=3) OL
 |1,_=>exact bM (id:=8) OM
 |2,_=>exact bM (id:=15) Nw
 |3,_=>exact bM (id:=20) Ny
 |4,_=>exact bM (id:=25) Nz) fun _ _ _=>aH fun _ _=>aH fun _ _=>aH fun _ _=>bn<|bn<|aM fun _=>aM fun _=>dI fun _ _=>fun h=>by intros;subst_vars;exact bg (VK _ _ _ _) h
end Go.Proofs.Ytldafhnnnabipaa
