/- Part 4 of the proof of FnAnnihilators. -/
import Derived.Test.YtldafhnnnabipaaAn3
set_option maxRecDepth 100000
noncomputable section
namespace Go.Proofs.Ytldafhnnnabipaa
open Go Go.Abs Go.Proofs
def bR (bA:List Int) (bg:Int) (aR:(Int×(Int×Unit))):Int→Tre (Int ⊕ (Int ⊕ Unit)):=fun s2=>
 .cond (decide (s2<bg))
  (.ite (0≤s2∧s2<(bA.length:Int))<|
  .mat (bA[s2.toNat]?) fun x1=>
  .mat (mG x1 aR) fun r2=>
  .cond r2
   (.ret (.inr (.inl s2)))
   (.ret (.inl (aI .i64 (s2+1)))))
  (.ret (.inr (.inr ())))
def gT (p0:List Int) (p1:(Int×(Int×Unit))):Tre Int:=
 .mat (aZ (bR p0 (p0.length:Int) p1) 0) fun l3=>
 .alt l3
  (fun a4=>
   .ret a4)
  (fun _=>
   .ret (-1))
def eB (p0:List Int) (p1:(Int×(Int×Unit))):Option Int:=(gT p0 p1).run some
def eD:Env:=⟨tau,[(159,yA)],[]⟩
def j5:Code:=(Try.f125.body).getD .skip
def fH (nk:Bool) (bA:List Int) (bg:Int) (aR:(Int×(Int×Unit))):Int→St:=fun x=>fA [(0,(.imm nk .il bA)),(1,(.fn 159 [(0,0)])),(7,(.i bg)),(8,(.i x))] [((0,0),some ⟨true,aH,.own,aR⟩)]
def dI (_:Bool) (_:List Int) (_:Int) (aR:(Int×(Int×Unit))):(Int ⊕ Unit)→Ex×St
 |.inl x=>(.ret,fA [(4,(.i x))] [((0,0),some ⟨true,aH,.own,aR⟩)])
 |.inr _=>(.exit 0,fA [(4,.dead)] [((0,0),some ⟨true,aH,.own,aR⟩)])
def jq (s:St):Tre (Ex×St):=
 bX .il (s.tmps 0) fun z3 d2=>
 Hr 159 [(0,0)] (s.tmps 1)<|
 aD true .n (s.tmps 7) fun d6=>
 aD true .n (s.tmps 8) fun d8=>
 dY true aH (s.roots (0,0)) fun m10 d11=>
 asM .own m10<|
 .mat (aZ (bR d2 d6 d11) d8) fun x=>.alt x (fun a0=>.ret (dI z3 d2 d6 d11 (.inl a0))) (fun b0=>.ret (dI z3 d2 d6 d11 (.inr b0)))
def cB:bS:=⟨([0,1,7,8],[(0,0)]),([4],[(0,0)]),jq⟩
def gG:List (Nat×bS):=[(2,cB)]
theorem nX:∀(nk:Bool)(bA:List Int)(bg:Int)(aR:(Int×(Int×Unit)))(x:Int)(c:St→Option (Ex×St)),den eD gG (bF j5 0) (fH nk bA bg aR x) (fE cB.kp cB.kx c)=(bR bA bg aR x).run (fF (fH nk bA bg aR) (dI nk bA bg aR) c):=fun _ _ _ _ _ _=>by
 kernel_rfl
theorem pF:dZ eD gG (bF j5 0) cB:=mh fun s e s' h=>by
 generalize hs:restrict cB.kp s=s1 at h
 have h:(jq s1).run some=some (e,s'):=h
 obtain ⟨z3,d2,e1,h_0⟩:=lF h
 obtain ⟨e4,h_1⟩:=Ar h_0
 obtain ⟨d6,e5,h_2⟩:=dA h_1
 obtain ⟨d8,e7,h_3⟩:=dA h_2
 obtain ⟨m10,d11,e9,h_4⟩:=gY h_3
 obtain ⟨rfl,h_5⟩:=nI h_4
 obtain ⟨y,hy,hz⟩:=nQ h_5
 refine ⟨_,_,fH z3 d2 d6 d11,dI z3 d2 d6 d11,bR d2 d6 d11,d8,y,?_,hy,?_,nX z3 d2 d6 d11⟩
 ·subst hs;exact bn (T:=[(0,(.imm z3 .il d2)),(1,(.fn 159 [(0,0)])),(7,(.i d6)),(8,(.i d8))]) (U:=[((0,0),some ⟨true,aH,.own,d11⟩)]) rfl rfl ⟨e1,e4,e5,e7,trivial⟩ ⟨e9,trivial⟩
 ·rcases y with x|x<;>exact Option.some.inj hz
def rT:FnI:=fnI Try.f125 gG
def jC (_:Bool) (_:List Int) (p1:(Int×(Int×Unit))):Int→au:=fun r=>⟨(.i r),[⟨true,aH,.own,p1⟩],[]⟩
theorem qU:∀(zp0:Bool)(p0:List Int)(p1:(Int×(Int×Unit))),bU eD rT ⟨[(.imm zp0 .il p0),(.fn 159 [(0,0)])],[⟨true,aH,.own,p1⟩]⟩=(gT p0 p1).run fun r=>some (jC zp0 p0 p1 r):=fun _ _ _=>by kernel_rfl
def rR (av:List AV) (rs:List Root):Tre au:=
 aA av fun a0_ av0=>
 aA av0 fun a1_ av1=>
 aK av1<|
 aA rs fun r0_ rs0=>
 aK rs0<|
 bX .il a0_ fun z2 d1=>
 Hr 159 [(0,0)] a1_<|
 uH true aH r0_ fun m3 d4=>
 asM .own m3<|
 .mat (eB d1 d4) fun r=>.ret (jC z2 d1 d4 r)
def j6:Ctr:=fJ [] rR
theorem qV:Contract Try.prog .none 125 j6:=aB (V:=eD) aS (ay HY ajt aG) Try.func125 (dw (n:=1) fun k hk=>by
 match k,hk with
 |0,_=>exact eH (id:=2) pF) fun _ _ _=>aJ fun _ _=>aJ fun _ _=>bD<|aJ fun _ _=>bD<|iq fun _ _=>tFn<|tRt fun _ _=>tM<|fun h=>by intros;subst_vars;exact bC (qU _ _ _) h
def fV (p0:List Int) (p1:(Int×(Int×Unit))):Tre Bool:=
 .mat (eB p0 p1) fun r1=>
 .ret (decide (r1 ≥ 0))
def dN (p0:List Int) (p1:(Int×(Int×Unit))):Option Bool:=(fV p0 p1).run some
def jm:Env:=⟨tau,[(125,j6)],[]⟩
def pR:FnI:=fnI Try.f55 []
def iQ (_:Bool) (_:List Int) (p1:(Int×(Int×Unit))):Bool→au:=fun r=>⟨(.imm true .bool r),[⟨true,aH,.own,p1⟩],[]⟩
theorem o9:∀(zp0:Bool)(p0:List Int)(p1:(Int×(Int×Unit))),bU jm pR ⟨[(.imm zp0 .il p0),(.fn 159 [(0,0)])],[⟨true,aH,.own,p1⟩]⟩=(fV p0 p1).run fun r=>some (iQ zp0 p0 p1 r):=fun _ _ _=>by kernel_rfl
def pQ (av:List AV) (rs:List Root):Tre au:=
 aA av fun a0_ av0=>
 aA av0 fun a1_ av1=>
 aK av1<|
 aA rs fun r0_ rs0=>
 aK rs0<|
 bX .il a0_ fun z2 d1=>
 Hr 159 [(0,0)] a1_<|
 uH true aH r0_ fun m3 d4=>
 asM .own m3<|
 .mat (dN d1 d4) fun r=>.ret (iQ z2 d1 d4 r)
def jo:Ctr:=fJ [] pQ
theorem pq:Contract Try.prog .none 55 jo:=aB (V:=jm) aS (ay qV YO aG) Try.func55 bN fun _ _ _=>aJ fun _ _=>aJ fun _ _=>bD<|aJ fun _ _=>bD<|iq fun _ _=>tFn<|tRt fun _ _=>tM<|fun h=>by intros;subst_vars;exact bC (o9 _ _ _) h
def I8 (p0:(Int×(Int×Unit))) (p1:List Int):Tre Bool:=
 .mat (dN p1 p0) fun r1=>
 .ret (!r1)
def p9 (p0:(Int×(Int×Unit))) (p1:List Int):Option Bool:=(I8 p0 p1).run some
-- more
theorem Qp{f:TF3}(hf:aO f=true)(x:Int):mG x f=some (!inR x 0 (Tx f)):=by
 have:=jX hf
 have h1:jl f=some (Ah .i64 1 f.1):=by
  unfold jl xP
  rw [Tre.run_ite,if_pos (by omega)]
  rfl
 unfold mG uI
 rw [ak h1,aho hf]
 rfl
theorem Bb{f:TF3}(hf:aO f=true)(c:List Int)(hc:c.length<4611686018427387904):p9 f c=some (aaF f c):=by
 have h1:eB c f=some (Ee (fun x=>!inR x 0 (Tx f)) 0 c):=by
  unfold eB gT
  rw [Tre.oZ,EA (xs:=c) (fun i x=>cond (!inR x 0 (Tx f)) (some (.inl (i:Int))) none) (.inr ())]
  ·rw [Option.bind_some,←Qg (p:=fun x=>!inR x 0 (Tx f))]
   generalize IE _ _ _ _=r
   cases r<;>rfl
  ·intro i x hx
   have hi:i<c.length:=(List.getElem?_eq_some_iff.1 hx).1
   unfold bR
   rw [oW hx,ak (Qp hf x),Tre.aC]
   cases inR x 0 (Tx f)
   ·rfl
   ·simp only [Bool.not_true,cond_false,Tre.aM,bQ (show i<4611686018427387904 by omega)]
  ·unfold bR
   exact qN
 have h2:dN c f=some (decide (Ee (fun x=>!inR x 0 (Tx f)) 0 c ≥ 0)):=by
  unfold dN fV
  rw [ak h1]
  rfl
 unfold p9 I8 aaF
 rw [ak h2,←agC (p:=fun x=>inR x 0 (Tx f))]
 rfl
def Li:Env:=⟨tau,[(55,jo)],[]⟩
def WU:FnI:=fnI Try.f98 []
def GH (_:Bool) (_:(Int×(Int×Unit))) (_:List Int):Bool→au:=fun r=>⟨(.imm true .bool r),[],[]⟩
theorem UL:∀(zp0:Bool)(p0:(Int×(Int×Unit)))(p1:List Int),bU Li WU ⟨[(.imm true aH p0),(.imm zp0 .il p1)],[]⟩=(I8 p0 p1).run fun r=>some (GH zp0 p0 p1 r):=fun _ _ _=>by kernel_rfl
def WT (av:List AV) (rs:List Root):Tre au:=
 aA av fun a0_ av0=>
 aA av0 fun a1_ av1=>
 aK av1<|
 aK rs<|
 aD true aH a0_ fun d1=>
 bX .il a1_ fun z3 d2=>
 .mat (p9 d1 d2) fun r=>.ret (GH z3 d1 d2 r)
def xQ:Ctr:=fJ [] WT
theorem Bc:Contract Try.prog .none 98 xQ:=aB (V:=Li) aS (ay pq ai0 aG) Try.func98 bN fun _ _ _=>aJ fun _ _=>aJ fun _ _=>bD<|bD<|aU fun _=>iq fun _ _=>fun h=>by intros;subst_vars;exact bC (UL _ _ _) h
-- shared
def akE(p a:Nat):Nat→Nat
 |0=>1
 |n+1=>mulN p (akE p a n) a
def Bv(d p a:Nat):Nat:=akE p a (2 ^ d-2)
def KV(f:TF3)(a:Int):Int:=((Bv f.1.toNat f.2.1.toNat a.toNat:Nat):Int)
def Mk(F:TF3→Int→Option Int)(G:Nat→Nat→Nat→Nat)(d p:Nat):Bool:=(List.range (2 ^ d)).all fun a=>F ((d:Int),(p:Int),()) (a:Int) == some ((G d p a:Nat):Int)
theorem ajT{F:TF3→Int→Option Int}{G:Nat→Nat→Nat→Nat}(h:∀q∈jW,Mk F G q.1 q.2=true){f:TF3}(hf:aO f=true){a:Int}(ha:inF f a):F f a=some ((G f.1.toNat f.2.1.toNat a.toNat:Nat):Int):=by
 obtain ⟨d,p,hq,rfl⟩:=wU hf
 obtain ⟨ha0,ha1⟩:=ha
 simp only [Int.toNat_natCast] at ha1
 obtain ⟨m,rfl⟩:=Int.eq_ofNat_of_zero_le ha0
 have h1:=List.all_eq_true.1 (h _ hq) m (List.mem_range.2 (by exact_mod_cast ha1))
 exact eq_of_beq h1
def agN(d p:Nat):Bool:=(List.range (2 ^ d)).all fun a=>(List.range (2 ^ d)).all fun b=>Nat.blt (mulN p a b) (2 ^ d)&&Nat.beq (mulN p a b) (mulN p b a)
def agG(d p:Nat):Bool:=(List.range (2 ^ d)).all fun a=>Nat.blt (Bv d p a) (2 ^ d)&&(Nat.beq a 0||Nat.beq (mulN p a (Bv d p a)) 1)
theorem OT:(jW.all fun q=>agN q.1 q.2)=true:=by kernel_rfl
theorem OE:(jW.all fun q=>agG q.1 q.2)=true:=by kernel_rfl
theorem Nk{f:TF3}(hf:aO f=true){a b:Int}(ha:inF f a)(hb:inF f b):inF f (xE f a b)∧xE f a b=xE f b a:=by
 obtain ⟨d,p,hq,rfl⟩:=wU hf
 obtain ⟨ha0,ha1⟩:=ha
 obtain ⟨hb0,hb1⟩:=hb
 simp only [Int.toNat_natCast] at ha1 hb1
 obtain ⟨m,rfl⟩:=Int.eq_ofNat_of_zero_le ha0
 obtain ⟨n,rfl⟩:=Int.eq_ofNat_of_zero_le hb0
 have h0:=List.all_eq_true.1 OT _ hq
 have h1:=List.all_eq_true.1 (List.all_eq_true.1 h0 m (List.mem_range.2 (by exact_mod_cast ha1))) n (List.mem_range.2 (by exact_mod_cast hb1))
 rw [Bool.and_eq_true] at h1
 have h2:mulN p m n<2 ^ d:=Nat.le_of_ble_eq_true h1.1
 have h3:mulN p m n=mulN p n m:=Nat.eq_of_beq_eq_true h1.2
 refine ⟨⟨Int.natCast_nonneg _,?_⟩,?_⟩
 ·show ((mulN p m n:Nat):Int)<_
  simp only [Int.toNat_natCast]
  exact_mod_cast h2
 ·show ((mulN p m n:Nat):Int)=((mulN p n m:Nat):Int)
  rw [h3]
theorem Gc{f:TF3}(hf:aO f=true){a:Int}(ha:inF f a):inF f (KV f a)∧(a≠0→xE f a (KV f a)=1):=by
 obtain ⟨d,p,hq,rfl⟩:=wU hf
 obtain ⟨ha0,ha1⟩:=ha
 simp only [Int.toNat_natCast] at ha1
 obtain ⟨m,rfl⟩:=Int.eq_ofNat_of_zero_le ha0
 have h0:=List.all_eq_true.1 OE _ hq
 have h1:=List.all_eq_true.1 h0 m (List.mem_range.2 (by exact_mod_cast ha1))
 rw [Bool.and_eq_true,Bool.or_eq_true] at h1
 have h2:Bv d p m<2 ^ d:=Nat.le_of_ble_eq_true h1.1
 refine ⟨⟨Int.natCast_nonneg _,?_⟩,fun hne=>?_⟩
 ·show ((Bv d p m:Nat):Int)<_
  simp only [Int.toNat_natCast]
  exact_mod_cast h2
 ·rcases h1.2 with h|h
  ·exact absurd (by rw [Nat.eq_of_beq_eq_true h];rfl) hne
  ·show ((mulN p m (Bv d p m):Nat):Int)=1
   rw [Nat.eq_of_beq_eq_true h];rfl
-- shared
-- shared
theorem FL{f:TF3}(hf:aO f=true):1≤f.1.toNat∧f.1.toNat≤5:=by
 obtain ⟨d,p,hq,rfl⟩:=wU hf
 have:∀q∈jW,1≤q.1∧q.1≤5:=by decide
 exact this _ hq
theorem Gb{f:TF3}(hf:aO f=true){a:Int}(h:inF f a):∃n:Nat,a=(n:Int)∧n<2 ^ f.1.toNat∧n<2 ^ 63:=by
 obtain ⟨h0,h1⟩:=h
 have hd:=(FL hf).2
 have hp:2 ^ f.1.toNat≤2 ^ 5:=Nat.pow_le_pow_right (by omega) hd
 refine ⟨a.toNat,by omega,by omega,by omega⟩
theorem Jv{f:TF3}:inF f 0:=⟨Int.le_refl 0,by exact_mod_cast Nat.two_pow_pos _⟩
theorem air{f:TF3}(hf:aO f=true){a b:Int}(ha:inF f a)(hb:inF f b):inF f (yN .i64 a b):=by
 obtain ⟨m,rfl,hm,hm2⟩:=Gb hf ha
 obtain ⟨n,rfl,hn,hn2⟩:=Gb hf hb
 rw [yO hm2 hn2]
 exact ⟨Int.natCast_nonneg _,by exact_mod_cast Nat.xor_lt_two_pow hm hn⟩
theorem afv{f:TF3}(hf:aO f=true){a:Int}(ha:inF f a):yN .i64 0 a=a:=by
 obtain ⟨m,rfl,hm,hm2⟩:=Gb hf ha
 have:=yO (a:=0) (b:=m) (by omega) hm2
 rw [show ((0:Nat):Int)=0 from rfl] at this
 rw [this,Nat.zero_xor]
def GR(f:TF3)(n:Nat)(L:List (List Int)):Prop:=∀r∈L,r.length=n∧∀y∈r,inF f y
def Zm(c:Nat)(r:List Int):Bool:=match r[c]? with
 |some x=>!decide (x=0)
 |none=>false
def Iy(f:TF3)(c k:Nat)(own:List Int)(i:Nat)(r:List Int):List Int:=match r[c]? with
 |some x=>bif decide (i=k)||decide (x=0) then r else (r.zip own).map fun p=>yN .i64 p.1 (xE f x p.2)
 |none=>r
def V4(f:TF3)(c:Nat)(row:List Int):List Int:=match row[c]? with
 |some x=>row.map fun y=>xE f y (KV f x)
 |none=>row
def OY(f:TF3)(c k a:Nat)(L:List (List Int)):List (List Int):=match L[k]?,L[a]? with
 |some row,some r0=>(L.set k r0).set a (V4 f c row)
 |_,_=>L
def DV(f:TF3)(c a:Nat)(L:List (List Int)):List (List Int):=match L[a]? with
 |some own=>L.mapIdx (Iy f c a own)
 |none=>L
def rY(f:TF3)(c:Nat)(s:Nat×List (List Int)):Nat×List (List Int):=
 bif decide (Ee (Zm c) s.1 (s.2.drop s.1)<0) then s else (s.1+1,DV f c s.1 (OY f c (Ee (Zm c) s.1 (s.2.drop s.1)).toNat s.1 s.2))
def FK(f:TF3):Nat→Nat→Nat×List (List Int)→Nat×List (List Int)
 |_,0,s=>s
 |c,m+1,s=>FK f (c+1) m (rY f c s)
theorem aiv{c:Nat}{r:List Int}(h:Zm c r=true):∃x,r[c]?=some x∧x≠0:=by
 unfold Zm at h
 split at h
 ·exact ⟨_,by assumption,by simpa using h⟩
 ·cases h
theorem K8{f:TF3}{n:Nat}{L:List (List Int)}(h:GR f n L){i:Nat}{r:List Int}(hi:L[i]?=some r):r.length=n∧∀y∈r,inF f y:=h r (List.mem_of_getElem? hi)
theorem afx{f:TF3}{n:Nat}{L:List (List Int)}(h:GR f n L){i:Nat}{r:List Int}(hr:r.length=n∧∀y∈r,inF f y):GR f n (L.set i r):=by
 intro x hx
 rcases List.mem_or_eq_of_mem_set hx with hx|rfl
 ·exact h x hx
 ·exact hr
theorem afd{f:TF3}(hf:aO f=true){n c:Nat}{r:List Int}(h:r.length=n∧∀y∈r,inF f y):(V4 f c r).length=n∧∀y∈V4 f c r,inF f y:=by
 unfold V4
 split
 ·rename_i x hx
  refine ⟨by simpa using h.1,fun y hy=>?_⟩
  obtain ⟨z,hz,rfl⟩:=List.mem_map.1 hy
  exact (Nk hf (h.2 z hz) (Gc hf (h.2 x (List.mem_of_getElem? hx))).1).1
 ·exact h
theorem aej{f:TF3}(hf:aO f=true){n c k i:Nat}{own r:List Int}(ho:own.length=n∧∀y∈own,inF f y)(h:r.length=n∧∀y∈r,inF f y):(Iy f c k own i r).length=n∧∀y∈Iy f c k own i r,inF f y:=by
 unfold Iy
 split
 ·rename_i x hx
  cases decide (i=k)||decide (x=0)
  ·rw [cond_false]
   refine ⟨by simp [h.1,ho.1],fun y hy=>?_⟩
   obtain ⟨p,hp,rfl⟩:=List.mem_map.1 hy
   have h1:=List.of_mem_zip (a:=p.1) (b:=p.2) hp
   exact air hf (h.2 _ h1.1) (Nk hf (h.2 x (List.mem_of_getElem? hx)) (ho.2 _ h1.2)).1
  ·exact h
 ·exact h
theorem ad3{f:TF3}(hf:aO f=true){n c k a:Nat}{L:List (List Int)}(h:GR f n L):GR f n (OY f c k a L)∧(OY f c k a L).length=L.length:=by
 unfold OY
 split
 ·rename_i row r0 h1 h2
  exact ⟨afx (afx h (K8 h h2)) (afd hf (K8 h h1)),by simp⟩
 ·exact ⟨h,rfl⟩
theorem XQ{f:TF3}(hf:aO f=true){n c a:Nat}{L:List (List Int)}(h:GR f n L):GR f n (DV f c a L)∧(DV f c a L).length=L.length:=by
 unfold DV
 split
 ·rename_i own h1
  refine ⟨fun r hr=>?_,by simp⟩
  obtain ⟨i,hi,rfl⟩:=List.mem_mapIdx.1 hr
  exact aej hf (K8 h h1) (h _ (List.getElem_mem hi))
 ·exact ⟨h,rfl⟩
theorem acO{f:TF3}(hf:aO f=true){n c:Nat}{s:Nat×List (List Int)}(h:GR f n s.2)(ha:s.1≤s.2.length):GR f n (rY f c s).2∧(rY f c s).2.length=s.2.length∧(rY f c s).1≤s.2.length:=by
 unfold rY
 rcases Ga (Zm c) (s.2.drop s.1) s.1 with ⟨h1,_⟩|⟨k,x,h1,_,h3⟩
 ·rw [h1];exact ⟨h,rfl,ha⟩
 ·rw [h3,decide_eq_false (by omega),cond_false]
  have hlt:=(List.getElem?_eq_some_iff.1 h1).1
  rw [List.length_drop] at hlt
  have hp:=ad3 (c:=c) (k:=((s.1+k:Nat):Int).toNat) (a:=s.1) hf h
  have hc:=XQ (c:=c) (a:=s.1) hf hp.1
  exact ⟨hc.1,by rw [hc.2,hp.2],by show s.1+1≤_;omega⟩
-- shared
theorem ahd{n d:Nat}(h0:n≠0)(hn:n<2 ^ d):∃i m,i<d∧m<n∧n=m^^^2 ^ i:=by
 have hl:=Nat.log2_lt (n:=n) (k:=d) h0 |>.2 hn
 have hself:=Nat.log2_self_le h0
 have hup:=Nat.lt_log2_self (n:=n)
 have hb1:n^^^2 ^ n.log2<2 ^ n.log2:=by
  apply Nat.lt_pow_two_of_testBit
  intro i hi
  rw [Nat.testBit_xor,Nat.testBit_two_pow]
  by_cases hi2:n.log2=i
  ·subst hi2
   rw [Nat.testBit_log2 h0]
   simp
  ·have:n.testBit i=false:=Nat.testBit_lt_two_pow (Nat.lt_of_lt_of_le hup (Nat.pow_le_pow_right (by omega) (by omega)))
   rw [this]
   simp [hi2]
 exact ⟨n.log2,n^^^2 ^ n.log2,hl,by omega,by rw [Nat.xor_assoc,Nat.xor_self,Nat.xor_zero]⟩
def ab8(d:Nat)(g:Nat→Nat):Prop:=∀a b,a<2 ^ d→b<2 ^ d→g (a^^^b)=g a^^^g b
theorem ab8.zero{d:Nat}{g:Nat→Nat}(h:ab8 d g):g 0=0:=by
 have e1:=h 0 0 (Nat.two_pow_pos d) (Nat.two_pow_pos d)
 rw [Nat.xor_self] at e1
 rw [Nat.xor_self] at e1
 exact e1
theorem ajd{d:Nat}{g:Nat→Nat}(h0:g 0=0)(h:∀b i,b<2 ^ d→i<d→g (b^^^2 ^ i)=g b^^^g (2 ^ i)):ab8 d g:=by
 intro b c
 induction c using Nat.strongRecOn generalizing b with
 |ind c ih=>
  intro hb hc
  by_cases hz:c=0
  ·subst hz;rw [Nat.xor_zero,h0,Nat.xor_zero]
  ·obtain ⟨i,m,hi,hm,he⟩:=ahd hz hc
   have hp:2 ^ i<2 ^ d:=Nat.pow_lt_pow_right (by omega) hi
   have hm2:m<2 ^ d:=by omega
   rw [he,←Nat.xor_assoc,h _ _ (Nat.xor_lt_two_pow hb hm2) hi,ih m hm b hb hm2,h _ _ hm2 hi,Nat.xor_assoc]
theorem adZ{d:Nat}{g h:Nat→Nat}(hg:ab8 d g)(hh:ab8 d h)(hb:∀i,i<d→g (2 ^ i)=h (2 ^ i)):∀n,n<2 ^ d→g n=h n:=by
 intro n
 induction n using Nat.strongRecOn with
 |ind n ih=>
  intro hn
  by_cases h0:n=0
  ·subst h0;rw [hg.zero,hh.zero]
  ·obtain ⟨i,m,hi,hm,he⟩:=ahd h0 hn
   have hp:2 ^ i<2 ^ d:=Nat.pow_lt_pow_right (by omega) hi
   rw [he,hg _ _ (by omega) hp,hh _ _ (by omega) hp,ih m hm (by omega),hb i hi]
def akb(d p:Nat):Bool:=(List.range (2 ^ d)).all fun a=>(List.range (2 ^ d)).all fun b=>(List.range d).all fun i=>Nat.beq (mulN p a (Nat.xor b (2 ^ i))) (Nat.xor (mulN p a b) (mulN p a (2 ^ i)))
def iA(d p:Nat):Bool:=(List.range (2 ^ d)).all fun a=>(List.range d).all fun j=>(List.range d).all fun i=>Nat.beq (mulN p (mulN p a (2 ^ j)) (2 ^ i)) (mulN p a (mulN p (2 ^ j) (2 ^ i)))
def akK(d p:Nat):Bool:=(List.range (2 ^ d)).all fun a=>Nat.beq (mulN p a 1) a&&Nat.beq (mulN p a 0) 0
theorem aen:(jW.all fun q=>akb q.1 q.2)=true:=by kernel_rfl
theorem aco:(jW.all fun q=>iA q.1 q.2)=true:=by kernel_rfl
theorem agT:(jW.all fun q=>akK q.1 q.2)=true:=by kernel_rfl
theorem oV{d p a b:Nat}(hq:(d,p)∈jW)(ha:a<2 ^ d)(hb:b<2 ^ d):mulN p a b<2 ^ d∧mulN p a b=mulN p b a:=by
 have h1:=List.all_eq_true.1 (List.all_eq_true.1 (List.all_eq_true.1 OT _ hq) a (List.mem_range.2 ha)) b (List.mem_range.2 hb)
 rw [Bool.and_eq_true] at h1
 exact ⟨Nat.le_of_ble_eq_true h1.1,Nat.eq_of_beq_eq_true h1.2⟩
theorem OU{d p a:Nat}(hq:(d,p)∈jW)(ha:a<2 ^ d):mulN p a 1=a∧mulN p a 0=0:=by
 have h1:=List.all_eq_true.1 (List.all_eq_true.1 agT _ hq) a (List.mem_range.2 ha)
 rw [Bool.and_eq_true] at h1
 exact ⟨Nat.eq_of_beq_eq_true h1.1,Nat.eq_of_beq_eq_true h1.2⟩
theorem BA{d p a:Nat}(hq:(d,p)∈jW)(ha:a<2 ^ d):ab8 d (mulN p a):=by
 refine ajd (OU hq ha).2 fun b i hb hi=>?_
 have h1:=List.all_eq_true.1 (List.all_eq_true.1 (List.all_eq_true.1 (List.all_eq_true.1 aen _ hq) a (List.mem_range.2 ha)) b (List.mem_range.2 hb)) i (List.mem_range.2 hi)
 exact Nat.eq_of_beq_eq_true h1
theorem LK{d p b:Nat}(hq:(d,p)∈jW)(hb:b<2 ^ d):ab8 d (fun a=>mulN p a b):=by
 intro x y hx hy
 show mulN p (x^^^y) b=mulN p x b^^^mulN p y b
 rw [(oV hq (Nat.xor_lt_two_pow hx hy) hb).2,BA hq hb x y hx hy,(oV hq hx hb).2,(oV hq hy hb).2]
theorem adq{d p a b c:Nat}(hq:(d,p)∈jW)(ha:a<2 ^ d)(hb:b<2 ^ d)(hc:c<2 ^ d):mulN p (mulN p a b) c=mulN p a (mulN p b c):=by
 have hpow:∀i,i<d→2 ^ i<2 ^ d:=fun i hi=>Nat.pow_lt_pow_right (by omega) hi
 have k1:∀i,i<d→∀b,b<2 ^ d→mulN p (mulN p a b) (2 ^ i)=mulN p a (mulN p b (2 ^ i)):=by
  intro i hi
  refine adZ (g:=fun b=>mulN p (mulN p a b) (2 ^ i)) (h:=fun b=>mulN p a (mulN p b (2 ^ i))) ?_ ?_ ?_
  ·intro x y hx hy
   show mulN p (mulN p a (x^^^y)) (2 ^ i)=_
   rw [BA hq ha x y hx hy]
   exact LK hq (hpow i hi) _ _ (oV hq ha hx).1 (oV hq ha hy).1
  ·intro x y hx hy
   show mulN p a (mulN p (x^^^y) (2 ^ i))=_
   rw [show mulN p (x^^^y) (2 ^ i)=_ from LK hq (hpow i hi) x y hx hy]
   exact BA hq ha _ _ (oV hq hx (hpow i hi)).1 (oV hq hy (hpow i hi)).1
  ·intro j hj
   have h1:=List.all_eq_true.1 (List.all_eq_true.1 (List.all_eq_true.1 (List.all_eq_true.1 aco _ hq) a (List.mem_range.2 ha)) j (List.mem_range.2 hj)) i (List.mem_range.2 hi)
   exact Nat.eq_of_beq_eq_true h1
 refine adZ (g:=fun c=>mulN p (mulN p a b) c) (h:=fun c=>mulN p a (mulN p b c)) ?_ ?_ (fun i hi=>k1 i hi b hb) c hc
 ·exact BA hq (oV hq ha hb).1
 ·intro x y hx hy
  show mulN p a (mulN p b (x^^^y))=_
  rw [BA hq hb x y hx hy]
  exact BA hq ha _ _ (oV hq hb hx).1 (oV hq hb hy).1
theorem agD{f:TF3}(hf:aO f=true):∃d p:Nat,(d,p)∈jW∧f=((d:Int),(p:Int),())∧∀a,inF f a→∃m:Nat,a=(m:Int)∧m<2 ^ d∧m<2 ^ 63:=by
 obtain ⟨d,p,hq,rfl⟩:=wU hf
 refine ⟨d,p,hq,rfl,fun a ha=>?_⟩
 obtain ⟨m,e,h1,h2⟩:=Gb hf ha
 exact ⟨m,e,by simpa using h1,h2⟩
theorem abx{d p m n:Nat}:xE ((d:Int),(p:Int),()) (m:Int) (n:Int)=((mulN p m n:Nat):Int):=by
 unfold xE
 simp only [Int.toNat_natCast]
theorem Ye{f:TF3}(hf:aO f=true){a b:Int}(ha:inF f a)(hb:inF f b):xE f a b=xE f b a:=(Nk hf ha hb).2
theorem agP{f:TF3}(hf:aO f=true){a:Int}(ha:inF f a):xE f a 1=a:=by
 obtain ⟨d,p,hq,rfl,hn⟩:=agD hf
 obtain ⟨x,rfl,hx,hx6⟩:=hn a ha
 rw [show (1:Int)=((1:Nat):Int) from rfl,abx,(OU hq hx).1]
theorem QS{f:TF3}(hf:aO f=true){a:Int}(ha:inF f a):xE f a 0=0:=by
 obtain ⟨d,p,hq,rfl,hn⟩:=agD hf
 obtain ⟨x,rfl,hx,hx6⟩:=hn a ha
 rw [show (0:Int)=((0:Nat):Int) from rfl,abx,(OU hq hx).2]
theorem aft{f:TF3}(hf:aO f=true){a b:Int}(ha:inF f a)(hb:inF f b):yN .i64 a b=yN .i64 b a:=by
 obtain ⟨x,rfl,_,hx⟩:=Gb hf ha
 obtain ⟨y,rfl,_,hy⟩:=Gb hf hb
 rw [yO hx hy,yO hy hx,Nat.xor_comm]
theorem Yr{f:TF3}(hf:aO f=true){a:Int}(ha:inF f a):yN .i64 a 0=a:=by
 rw [aft hf ha Jv,afv hf ha]
theorem afu{f:TF3}(hf:aO f=true){a:Int}(ha:inF f a):yN .i64 a a=0:=by
 obtain ⟨x,rfl,_,hx⟩:=Gb hf ha
 rw [yO hx hx,Nat.xor_self]
 rfl
-- shared
structure FO where
 q:Nat
 dg:Nat
 mul:Nat→Nat→Nat
 hq:1<q
 hd:1≤dg
 lt:∀a b,mul a b<q
 xlt:∀a b,a<q→b<q→a^^^b<q
 comm:∀a b,mul a b=mul b a
 assoc:∀a b c,mul (mul a b) c=mul a (mul b c)
 add:∀a b c,mul a (b^^^c)=mul a b^^^mul a c
 one:∀a,a<q→mul a 1=a
 inv:∀a,a<q→a≠0→∃b,b<q∧mul a b=1
namespace FO
variable (F : FO)
theorem mul_zero(a:Nat):F.mul a 0=0:=by
 have:=F.add a 0 0
 rw [Nat.xor_self,Nat.xor_self] at this
 exact this
theorem zero_mul(a:Nat):F.mul 0 a=0:=by rw [F.comm,F.mul_zero]
theorem afB(a b c:Nat):F.mul (a^^^b) c=F.mul a c^^^F.mul b c:=by rw [F.comm,F.add,F.comm c a,F.comm c b]
theorem nz{a b:Nat}(ha:a<F.q)(hb:b<F.q)(h:F.mul a b=0):a=0∨b=0:=by
 by_cases h0:a=0
 ·exact .inl h0
 ·right
  obtain ⟨c,hc,h1⟩:=F.inv a ha h0
  rw [←F.one b hb,←h1,F.comm,F.comm a c,F.assoc,h,F.mul_zero]
theorem zlt:0<F.q:=Nat.lt_trans Nat.zero_lt_one F.hq
def sq(a:Nat):Nat:=F.mul a a
theorem abY(a:Nat):F.sq a<F.q:=F.lt a a
theorem Ao:F.sq 0=0:=F.mul_zero 0
theorem aj6(a b c:Nat):(a^^^b)^^^(b^^^c)=a^^^c:=by rw [Nat.xor_assoc,←Nat.xor_assoc b b c,Nat.xor_self,Nat.zero_xor]
theorem Wh(a b:Nat):F.sq (a^^^b)=F.sq a^^^F.sq b:=by
 unfold sq
 rw [F.add,F.afB,F.afB,F.comm b a,aj6]
theorem ahe(a b:Nat):F.sq (F.mul a b)=F.mul (F.sq a) (F.sq b):=by
 unfold sq
 rw [F.assoc a b (F.mul a b),←F.assoc b a b,F.comm b a,F.assoc a b b,←F.assoc a a]
theorem aj0{a:Nat}(ha:a<F.q)(h:F.sq a=0):a=0:=(F.nz ha ha h).elim id id
def sqn:Nat→Nat→Nat
 |0,a=>a
 |k+1,a=>sqn k (F.sq a)
theorem Ra:∀(k:Nat){a:Nat},a<F.q→F.sqn k a<F.q:=by
 intro k
 induction k with
 |zero=>intro a h;exact h
 |succ k ih=>intro a _;exact ih (F.abY a)
theorem abZ:∀(k:Nat),F.sqn k 0=0:=by
 intro k
 induction k with
 |zero=>rfl
 |succ k ih=>unfold sqn;rw [F.Ao];exact ih
theorem ZO:∀(k:Nat){a:Nat},a<F.q→F.sqn k a=0→a=0:=by
 intro k
 induction k with
 |zero=>intro a _ h;exact h
 |succ k ih=>intro a ha h;exact F.aj0 ha (ih (F.abY a) h)
theorem ZP:∀(i j a:Nat),F.sqn (i+j) a=F.sqn j (F.sqn i a):=by
 intro i
 induction i with
 |zero=>intro j a;rw [Nat.zero_add];rfl
 |succ i ih=>intro j a;rw [show i+1+j=(i+j)+1 by omega];exact ih j (F.sq a)
theorem ahg(k a:Nat):F.sqn (k+1) a=F.sq (F.sqn k a):=F.ZP k 1 a
def lp:List Nat→Nat→Nat
 |[],_=>0
 |c::p,x=>F.mul c x^^^lp p (F.sq x)
theorem ajS:∀(p:List Nat)(x y:Nat),F.lp p (x^^^y)=F.lp p x^^^F.lp p y:=by
 intro p
 induction p with
 |nil=>intro x y;simp [lp]
 |cons c p ih=>
  intro x y
  simp only [lp]
  rw [F.add,F.Wh,ih]
  ac_rfl
theorem OP:∀(p:List Nat),F.lp p 0=0:=by
 intro p
 induction p with
 |nil=>rfl
 |cons c p ih=>simp only [lp];rw [F.mul_zero,F.Ao,ih];rfl
theorem abr:∀(p:List Nat)(x:Nat),F.lp p x<F.q:=by
 intro p
 induction p with
 |nil=>intro x;exact F.zlt
 |cons c p ih=>intro x;exact F.xlt _ _ (F.lt _ _) (ih _)
def Cg:Nat→List Nat→List Nat×Nat
 |_,[]=>([],0)
 |_,[c]=>([],c)
 |g,c::d::ps=>((Cg (F.sq g) (d::ps)).2::(Cg (F.sq g) (d::ps)).1,c^^^F.mul (Cg (F.sq g) (d::ps)).2 g)
theorem afX:∀(p:List Nat)(g:Nat),p≠[]→(F.Cg g p).1.length+1=p.length:=by
 intro p
 induction p with
 |nil=>intro g h;exact absurd rfl h
 |cons c p ih=>
  intro g _
  cases p with
  |nil=>rfl
  |cons d ps=>
   have:=ih (F.sq g) (by simp)
   simp only [Cg,List.length_cons] at this ⊢
   omega
theorem adQ:∀(p:List Nat)(g x:Nat),F.lp p x=F.lp (F.Cg g p).1 (F.sq x^^^F.mul g x)^^^F.mul (F.Cg g p).2 x:=by
 intro p
 induction p with
 |nil=>intro g x;simp only [Cg,lp];rw [F.zero_mul];rfl
 |cons c p ih=>
  intro g x
  cases p with
  |nil=>simp only [Cg,lp];rw [Nat.xor_zero,Nat.zero_xor]
  |cons d ps=>
   have h:=ih (F.sq g) (F.sq x)
   have h1:F.sq (F.sq x^^^F.mul g x)=F.sq (F.sq x)^^^F.mul (F.sq g) (F.sq x):=by rw [F.Wh,F.ahe]
   show F.mul c x^^^F.lp (d::ps) (F.sq x)=(F.mul (F.Cg (F.sq g) (d::ps)).2 (F.sq x^^^F.mul g x)^^^F.lp (F.Cg (F.sq g) (d::ps)).1 (F.sq (F.sq x^^^F.mul g x)))^^^F.mul (c^^^F.mul (F.Cg (F.sq g) (d::ps)).2 g) x
   rw [h,h1,F.add,F.afB,F.assoc]
   generalize F.lp (F.Cg (F.sq g) (d::ps)).1 _=A
   generalize F.mul (F.Cg (F.sq g) (d::ps)).2 (F.sq x)=B
   generalize F.mul (F.Cg (F.sq g) (d::ps)).2 (F.mul g x)=D
   generalize F.mul c x=E
   calc E^^^(A^^^B)=(B^^^A^^^E)^^^0:=by rw [Nat.xor_zero];ac_rfl
    _=(B^^^A^^^E)^^^(D^^^D):=by rw [Nat.xor_self]
    _=B^^^D^^^A^^^(E^^^D):=by ac_rfl
theorem aep:∀(p:List Nat)(g:Nat),(∀y∈(F.Cg g p).1,y=0)→(F.Cg g p).2=0→∀y∈p,y=0:=by
 intro p
 induction p with
 |nil=>intro g _ _ y hy;cases hy
 |cons c p ih=>
  intro g h1 h2
  cases p with
  |nil=>intro y hy;rw [List.mem_singleton.1 hy];exact h2
  |cons d ps=>
   simp only [Cg] at h1 h2
   have h3:=h1 _ (List.mem_cons_self ..)
   have h4:=ih (F.sq g) (fun y hy=>h1 y (List.mem_cons_of_mem _ hy)) h3
   rw [h3,F.zero_mul,Nat.xor_zero] at h2
   intro y hy
   rcases List.mem_cons.1 hy with rfl|hy
   ·exact h2
   ·exact h4 y hy
theorem ahR:∀(p:List Nat)(g:Nat),(∀y∈p,y<F.q)→(F.Cg g p).2<F.q∧∀y∈(F.Cg g p).1,y<F.q:=by
 intro p
 induction p with
 |nil=>intro g _;exact ⟨F.zlt,fun y hy=>by cases hy⟩
 |cons c p ih=>
  intro g h
  cases p with
  |nil=>exact ⟨h c (List.mem_cons_self ..),fun y hy=>by cases hy⟩
  |cons d ps=>
   have:=ih (F.sq g) fun y hy=>h y (List.mem_cons_of_mem _ hy)
   refine ⟨F.xlt _ _ (h c (List.mem_cons_self ..)) (F.lt _ _),fun y hy=>?_⟩
   rcases List.mem_cons.1 hy with rfl|hy
   ·exact this.1
   ·exact this.2 y hy
def vo:List Bool→List Nat→Nat
 |b::bs,x::xs=>(bif b then x else 0)^^^vo bs xs
 |_,_=>0
def K9(xs:List Nat):Prop:=∀bs:List Bool,bs.length=xs.length→vo bs xs=0→∀b∈bs,b=false
theorem abU{φ:Nat→Nat}(h0:φ 0=0)(hφ:∀a b,φ (a^^^b)=φ a^^^φ b):∀(bs:List Bool)(xs:List Nat),vo bs (xs.map φ)=φ (vo bs xs):=by
 intro bs
 induction bs with
 |nil=>intro xs;cases xs<;>exact h0.symm
 |cons b bs ih=>
  intro xs
  cases xs with
  |nil=>exact h0.symm
  |cons x xs=>
   simp only [List.map_cons,vo]
   rw [ih,hφ]
   cases b
   ·simp only [cond_false];rw [h0]
   ·rfl
theorem V5:∀(n:Nat)(xs:List Nat),vo (List.replicate n false) xs=0:=by
 intro n
 induction n with
 |zero=>intro xs;cases xs<;>rfl
 |succ n ih=>
  intro xs
  cases xs with
  |nil=>rfl
  |cons x xs=>simp only [List.replicate_succ,vo,cond_false];rw [ih];rfl
theorem aiF:∀(bs:List Bool)(xs:List Nat),(∀x∈xs,x<F.q)→vo bs xs<F.q:=by
 intro bs
 induction bs with
 |nil=>intro xs _;cases xs<;>exact F.zlt
 |cons b bs ih=>
  intro xs h
  cases xs with
  |nil=>exact F.zlt
  |cons x xs=>
   simp only [vo]
   refine F.xlt _ _ ?_ (ih xs fun y hy=>h y (List.mem_cons_of_mem _ hy))
   cases b
   ·exact F.zlt
   ·exact h x (List.mem_cons_self ..)
theorem K9.head{g:Nat}{gs:List Nat}(h:K9 (g::gs)):g≠0:=by
 intro h0
 have:=h (true::List.replicate gs.length false) (by simp) (by simp only [vo,cond_true];rw [V5,h0];rfl) true (List.mem_cons_self ..)
 cases this
theorem K9.tail{g:Nat}{gs:List Nat}(h:K9 (g::gs)):K9 gs:=by
 intro bs hl hs b hb
 exact h (false::bs) (by simp [hl]) (by simp only [vo,cond_false];rw [hs];rfl) b (List.mem_cons_of_mem _ hb)
theorem adp:∀(n:Nat)(gs p:List Nat),gs.length=n→p.length≤gs.length→(∀g∈gs,g<F.q)→(∀c∈p,c<F.q)→K9 gs→(∀g∈gs,F.lp p g=0)→∀c∈p,c=0:=by
 intro n
 induction n with
 |zero=>
  intro gs p hn hl _ _ _ _ c hc
  rw [List.length_eq_zero_iff.1 (show p.length=0 by omega)] at hc
  cases hc
 |succ n ih=>
  intro gs p hn hl hg hp hi hr
  cases gs with
  |nil=>simp at hn
  |cons g gs=>
  simp only [List.length_cons,Nat.add_right_cancel_iff] at hn
  by_cases hp0:p=[]
  ·subst hp0;intro c hc;cases hc
  have hlen:=F.afX p g hp0
  have hlt:=F.ahR p g hp
  have hg0:=hi.head
  have hgq:=hg g (List.mem_cons_self ..)
  have h1:=F.adQ p g g
  rw [hr g (List.mem_cons_self ..),show F.sq g^^^F.mul g g=0 from Nat.xor_self _,F.OP,Nat.zero_xor] at h1
  have hc0:(F.Cg g p).2=0:=(F.nz hlt.1 hgq h1.symm).resolve_right hg0
  have hφ0:(fun x=>F.sq x^^^F.mul g x) 0=0:=by show F.sq 0^^^F.mul g 0=0;rw [F.Ao,F.mul_zero];rfl
  have hφ:∀a b,(fun x=>F.sq x^^^F.mul g x) (a^^^b)=(fun x=>F.sq x^^^F.mul g x) a^^^(fun x=>F.sq x^^^F.mul g x) b:=by
   intro a b
   show F.sq (a^^^b)^^^F.mul g (a^^^b)=(F.sq a^^^F.mul g a)^^^(F.sq b^^^F.mul g b)
   rw [F.Wh,F.add]
   ac_rfl
  refine F.aep p g (ih (gs.map fun x=>F.sq x^^^F.mul g x) (F.Cg g p).1 (by simpa using hn) ?_ ?_ hlt.2 ?_ ?_) hc0
  ·rw [List.length_map];simp only [List.length_cons] at hl;omega
  ·intro y hy
   obtain ⟨x,_,rfl⟩:=List.mem_map.1 hy
   exact F.xlt _ _ (F.abY x) (F.lt _ _)
  ·intro bs hbl hbs
   rw [List.length_map] at hbl
   rw [abU hφ0 hφ] at hbs
   have hS:=F.aiF bs gs fun y hy=>hg y (List.mem_cons_of_mem _ hy)
   have h2:F.mul (vo bs gs^^^g) (vo bs gs)=0:=by rw [F.afB];exact hbs
   rcases F.nz (F.xlt _ _ hS hgq) hS h2 with h3|h3
   ·exfalso
    have:=hi (true::bs) (by simp [hbl]) (by simp only [vo,cond_true];rw [Nat.xor_comm];exact h3) true (List.mem_cons_self ..)
    cases this
   ·exact hi.tail bs hbl h3
  ·intro y hy
   obtain ⟨x,hx,rfl⟩:=List.mem_map.1 hy
   have h2:=F.adQ p g x
   rw [hr x (List.mem_cons_of_mem _ hx),hc0,F.zero_mul,Nat.xor_zero] at h2
   exact h2.symm
theorem abt(gs p:List Nat)(hl:p.length≤gs.length)(hg:∀g∈gs,g<F.q)(hp:∀c∈p,c<F.q)(hi:K9 gs)(h:∀g∈gs,F.lp p g=0):∀c∈p,c=0:=F.adp _ gs p rfl hl hg hp hi h
def QH(us:List Nat)(v:Nat):Prop:=∃bs:List Bool,bs.length=us.length∧v=vo bs us
theorem ag7:∀(b1 b2:List Bool)(us:List Nat),b1.length=us.length→b2.length=us.length→vo (List.zipWith xor b1 b2) us=vo b1 us^^^vo b2 us:=by
 intro b1
 induction b1 with
 |nil=>intro b2 us h1 h2;cases us with
  |nil=>simp [vo]
  |cons _ _=>simp at h1
 |cons b b1 ih=>
  intro b2 us h1 h2
  cases us with
  |nil=>simp at h1
  |cons u us=>
   cases b2 with
   |nil=>simp at h2
   |cons b' b2=>
    simp only [List.zipWith_cons_cons,vo]
    rw [ih b2 us (by simpa using h1) (by simpa using h2)]
    have:(bif xor b b' then u else 0)=(bif b then u else 0)^^^(bif b' then u else 0):=by
     cases b<;>cases b'<;>simp
    rw [this]
    ac_rfl
theorem QH.add{us:List Nat}{a b:Nat}(ha:QH us a)(hb:QH us b):QH us (a^^^b):=by
 obtain ⟨b1,h1,rfl⟩:=ha
 obtain ⟨b2,h2,rfl⟩:=hb
 exact ⟨List.zipWith xor b1 b2,by simp [h1,h2],(ag7 b1 b2 us h1 h2).symm⟩
theorem QH.zero(us:List Nat):QH us 0:=⟨List.replicate us.length false,by simp,(V5 _ _).symm⟩
theorem QH.cons{u:Nat}{us:List Nat}{v:Nat}(h:QH (u::us) v):QH us v∨QH us (v^^^u):=by
 obtain ⟨bs,hl,rfl⟩:=h
 cases bs with
 |nil=>simp at hl
 |cons b bs=>
  simp only [List.length_cons,Nat.add_right_cancel_iff] at hl
  cases b
  ·left;exact ⟨bs,hl,by simp only [vo,cond_false];rw [Nat.zero_xor]⟩
  ·right;exact ⟨bs,hl,by simp only [vo,cond_true];rw [Nat.xor_comm u,Nat.xor_assoc,Nat.xor_self,Nat.xor_zero]⟩
theorem QH.map{φ:Nat→Nat}(h0:φ 0=0)(hφ:∀a b,φ (a^^^b)=φ a^^^φ b){us:List Nat}{v:Nat}(h:QH us v):QH (us.map φ) (φ v):=by
 obtain ⟨bs,hl,rfl⟩:=h
 exact ⟨bs,by simpa using hl,(abU h0 hφ bs us).symm⟩
end FO
-- shared
def cf(p:List Nat)(i:Nat):Nat:=p.getD i 0
theorem AL(i:Nat):cf [] i=0:=by simp [cf]
theorem FE(a:Nat)(p:List Nat):cf (a::p) 0=a:=by simp [cf]
theorem oH(a:Nat)(p:List Nat)(i:Nat):cf (a::p) (i+1)=cf p i:=by simp [cf]
theorem NT{p:List Nat}{i:Nat}(h:p.length≤i):cf p i=0:=by
 unfold cf
 rw [List.getD_eq_getElem?_getD,List.getElem?_eq_none h];rfl
theorem YG{g:Nat→Nat}(h0:g 0=0)(p:List Nat)(i:Nat):cf (p.map g) i=g (cf p i):=by
 unfold cf
 rw [List.getD_eq_getElem?_getD,List.getD_eq_getElem?_getD,List.getElem?_map]
 cases p[i]? with
 |none=>exact h0.symm
 |some c=>rfl
theorem afK:∀{p q:List Nat},p.length=q.length→(∀i,cf p i=cf q i)→p=q:=by
 intro p
 induction p with
 |nil=>intro q h _;exact (List.length_eq_zero_iff.1 h.symm).symm
 |cons a p ih=>
  intro q h hc
  cases q with
  |nil=>simp at h
  |cons b q=>
   have h0:=hc 0
   rw [FE,FE] at h0
   rw [h0,ih (by simpa using h) fun i=>by have:=hc (i+1);rwa [oH,oH] at this]
def lg:List Nat→List Nat→List Nat
 |[],q=>q
 |a::p,[]=>a::p
 |a::p,b::q=>(a^^^b)::lg p q
theorem aac(p:List Nat):lg p []=p:=by cases p<;>rfl
theorem NM:∀(p q:List Nat),(lg p q).length=max p.length q.length:=by
 intro p
 induction p with
 |nil=>intro q;simp [lg]
 |cons a p ih=>
  intro q
  cases q with
  |nil=>simp [lg]
  |cons b q=>simp only [lg,List.length_cons,ih];omega
theorem Cx:∀(p q:List Nat)(i:Nat),cf (lg p q) i=cf p i^^^cf q i:=by
 intro p
 induction p with
 |nil=>intro q i;rw [AL,Nat.zero_xor];rfl
 |cons a p ih=>
  intro q i
  cases q with
  |nil=>rw [AL,Nat.xor_zero];rfl
  |cons b q=>
   cases i with
   |zero=>rfl
   |succ i=>simp only [lg,oH];exact ih q i
def dR:List Nat→List Nat
 |[]=>[]
 |a::p=>match dR p with
  |[]=>if a=0 then [] else [a]
  |b::q=>a::b::q
theorem jV:∀(p:List Nat)(i:Nat),cf (dR p) i=cf p i:=by
 intro p
 induction p with
 |nil=>intro i;rfl
 |cons a p ih=>
  intro i
  unfold dR
  cases ht:dR p with
  |nil=>
   rw [ht] at ih
   simp only
   split
   ·rename_i h
    subst h
    cases i with
    |zero=>rfl
    |succ i=>rw [oH,←ih i,AL,AL]
   ·cases i with
    |zero=>rfl
    |succ i=>rw [oH,oH,←ih i]
  |cons b q=>
   rw [ht] at ih
   simp only
   cases i with
   |zero=>rfl
   |succ i=>rw [oH,oH,←ih i]
theorem rU:∀(p:List Nat),dR p≠[]→cf (dR p) ((dR p).length-1)≠0:=by
 intro p
 induction p with
 |nil=>intro h;exact absurd rfl h
 |cons a p ih=>
  unfold dR
  cases ht:dR p with
  |nil=>
   simp only
   split
   ·intro h;exact absurd rfl h
   ·rename_i h;intro _;exact h
  |cons b q=>
   rw [ht] at ih
   intro _
   have:=ih (by simp)
   simp only [List.length_cons,Nat.add_sub_cancel] at this ⊢
   rw [oH];exact this
theorem sV:∀(p:List Nat),(dR p).length≤p.length:=by
 intro p
 induction p with
 |nil=>exact Nat.le_refl _
 |cons a p ih=>
  unfold dR
  cases ht:dR p with
  |nil=>
   simp only
   split<;>simp
  |cons b q=>rw [ht] at ih;simp only [List.length_cons] at ih ⊢;omega
theorem afo{p:List Nat}(h:∀i,cf p i=0):dR p=[]:=by
 apply Classical.byContradiction
 intro hn
 exact rU p hn (by rw [jV];exact h _)
theorem Rf{p q:List Nat}(hp:p≠[]→cf p (p.length-1)≠0)(hq:q≠[]→cf q (q.length-1)≠0)(h:∀i,cf p i=cf q i):p=q:=by
 have key:∀{p q:List Nat},(p≠[]→cf p (p.length-1)≠0)→(∀i,cf p i=cf q i)→p.length≤q.length:=by
  intro p q hp h
  by_cases hn:p=[]
  ·subst hn;exact Nat.zero_le _
  ·have:=hp hn
   have hl:0<p.length:=List.length_pos_iff.2 hn
   apply Classical.byContradiction
   intro hlt
   rw [h,NT (by omega)] at this
   exact this rfl
 exact afK (Nat.le_antisymm (key hp h) (key hq fun i=>(h i).symm)) h
def Nl(k:Nat)(p:List Nat):List Nat:=p++List.replicate (k-p.length) 0
theorem ahO(k:Nat)(p:List Nat)(i:Nat):cf (Nl k p) i=cf p i:=by
 unfold Nl cf
 rw [List.getD_eq_getElem?_getD,List.getD_eq_getElem?_getD]
 by_cases h:i<p.length
 ·rw [List.getElem?_append_left h]
 ·rw [List.getElem?_append_right (by omega),List.getElem?_eq_none (l:=p) (by omega),List.getElem?_replicate]
  split<;>rfl
theorem agV{k:Nat}{p:List Nat}(h:p.length≤k):(Nl k p).length=k:=by simp [Nl];omega
namespace FO
variable (F : FO)
theorem Zi:∀(p q:List Nat)(x:Nat),F.lp (lg p q) x=F.lp p x^^^F.lp q x:=by
 intro p
 induction p with
 |nil=>intro q x;simp [lg,lp]
 |cons a p ih=>
  intro q x
  cases q with
  |nil=>simp [lg,lp]
  |cons b q=>
   simp only [lg,lp]
   rw [F.afB,ih]
   ac_rfl
def kY:List Nat→(Nat→Nat)→Nat→Nat
 |[],_,_=>0
 |v::vs,x,i=>F.mul v (x i)^^^(match i with
  |0=>0
  |i+1=>kY vs (fun j=>F.sq (x j)) i)
def lG:List Nat→List Nat→List Nat
 |[],_=>[]
 |v::vs,m=>lg (m.map (F.mul v)) (0::lG vs (m.map F.sq))
theorem Iw:∀(V m:List Nat)(i:Nat),cf (F.lG V m) i=F.kY V (cf m) i:=by
 intro V
 induction V with
 |nil=>intro m i;exact AL i
 |cons v vs ih=>
  intro m i
  simp only [lG,kY]
  rw [Cx,YG (F.mul_zero v)]
  cases i with
  |zero=>rfl
  |succ i=>
   rw [oH,ih]
   rw [show cf (m.map F.sq)=fun j=>F.sq (cf m j) from funext fun j=>YG F.Ao m j]
theorem Ew:∀(V m:List Nat),V≠[]→m≠[]→(F.lG V m).length+1=V.length+m.length:=by
 intro V
 induction V with
 |nil=>intro m h;exact absurd rfl h
 |cons v vs ih=>
  intro m _ hm
  have hl:0<m.length:=List.length_pos_iff.2 hm
  simp only [lG]
  rw [NM,List.length_map,List.length_cons]
  by_cases hv:vs=[]
  ·subst hv;simp only [lG,List.length_nil,List.length_cons];omega
  ·have:=ih (m.map F.sq) hv (by simpa using hm)
   rw [List.length_map] at this
   simp only [List.length_cons];omega
theorem Yw:∀{p q:List Nat},(∀c∈p,c<F.q)→(∀c∈q,c<F.q)→∀c∈lg p q,c<F.q:=by
 intro p
 induction p with
 |nil=>intro q _ hq;exact hq
 |cons a p ih=>
  intro q hp hq
  cases q with
  |nil=>exact hp
  |cons b q=>
   intro c hc
   rcases List.mem_cons.1 hc with rfl|hc
   ·exact F.xlt _ _ (hp _ (List.mem_cons_self ..)) (hq _ (List.mem_cons_self ..))
   ·exact ih (fun c hc=>hp c (List.mem_cons_of_mem _ hc)) (fun c hc=>hq c (List.mem_cons_of_mem _ hc)) c hc
theorem afQ:∀(V m:List Nat),∀c∈F.lG V m,c<F.q:=by
 intro V
 induction V with
 |nil=>intro m c hc;cases hc
 |cons v vs ih=>
  intro m
  refine F.Yw (fun c hc=>?_) (fun c hc=>?_)
  ·obtain ⟨x,_,rfl⟩:=List.mem_map.1 hc
   exact F.lt _ _
  ·rcases List.mem_cons.1 hc with rfl|hc
   ·exact F.zlt
   ·exact ih _ c hc
theorem ae0(v:Nat):∀(m:List Nat)(x:Nat),F.lp (m.map (F.mul v)) x=F.mul v (F.lp m x):=by
 intro m
 induction m with
 |nil=>intro x;exact (F.mul_zero v).symm
 |cons c m ih=>
  intro x
  simp only [List.map_cons,lp]
  rw [ih,F.add,F.assoc]
theorem agL:∀(m:List Nat)(x:Nat),F.lp (m.map F.sq) (F.sq x)=F.sq (F.lp m x):=by
 intro m
 induction m with
 |nil=>intro x;exact F.Ao.symm
 |cons c m ih=>
  intro x
  simp only [List.map_cons,lp]
  rw [ih,F.Wh,F.ahe]
theorem Vu:∀(V m:List Nat)(x:Nat),F.lp (F.lG V m) x=F.lp V (F.lp m x):=by
 intro V
 induction V with
 |nil=>intro m x;rfl
 |cons v vs ih=>
  intro m x
  simp only [lG]
  rw [F.Zi,F.ae0]
  simp only [lp]
  rw [F.zero_mul,Nat.zero_xor,ih,F.agL]
theorem Zj:∀{p q:List Nat},(∀i,cf p i=cf q i)→∀x,F.lp p x=F.lp q x:=by
 have hz:∀{q:List Nat},(∀i,cf q i=0)→∀x,F.lp q x=0:=by
  intro q
  induction q with
  |nil=>intro _ x;rfl
  |cons b q ih=>
   intro h x
   simp only [lp]
   have h0:=h 0
   rw [FE] at h0
   rw [h0,F.zero_mul,Nat.zero_xor]
   exact ih (fun i=>by have:=h (i+1);rwa [oH] at this) _
 intro p
 induction p with
 |nil=>intro q h x;exact (hz (fun i=>(h i).symm.trans (AL i)) x).symm
 |cons a p ih=>
  intro q h x
  cases q with
  |nil=>exact hz (fun i=>(h i).trans (AL i)) x
  |cons b q=>
   have h0:=h 0
   rw [FE,FE] at h0
   simp only [lp]
   rw [h0,ih (q:=q) fun i=>by have:=h (i+1);rwa [oH,oH] at this]
theorem aek:∀(V:List Nat)(x y:Nat→Nat)(i:Nat),F.kY V (fun j=>x j^^^y j) i=F.kY V x i^^^F.kY V y i:=by
 intro V
 induction V with
 |nil=>intro x y i;simp [kY]
 |cons v vs ih=>
  intro x y i
  simp only [kY]
  rw [F.add]
  cases i with
  |zero=>simp
  |succ i=>
   simp only
   rw [show (fun j=>F.sq (x j^^^y j))=fun j=>F.sq (x j)^^^F.sq (y j) from funext fun j=>F.Wh _ _,ih]
   ac_rfl
theorem Kh:∀(V:List Nat)(d:Nat)(x:Nat→Nat)(j:Nat),V.length≤d+1→(∀i,j<i→x i=0)→F.kY V x (d+j)=F.mul (cf V d) (F.sqn d (x j)):=by
 intro V
 induction V with
 |nil=>intro d x j _ _;rw [AL,F.zero_mul];rfl
 |cons v vs ih=>
  intro d x j hl hx
  cases d with
  |zero=>
   have:vs=[]:=by simpa using hl
   subst this
   rw [Nat.zero_add,FE]
   simp only [kY,sqn]
   cases j with
   |zero=>simp
   |succ j=>simp
  |succ d=>
   rw [show d+1+j=d+j+1 by omega]
   simp only [kY]
   rw [hx _ (by omega),F.mul_zero,Nat.zero_xor,ih d (fun i=>F.sq (x i)) j (by simpa using hl) (fun i hi=>by rw [hx i hi,F.Ao]),oH]
   rfl
theorem Qb(V:List Nat):∀(x:Nat→Nat)(j i:Nat),(∀i,j≤i→x i=0)→V.length+j≤i+1→F.kY V x i=0:=by
 induction V with
 |nil=>intro x j i _ _;rfl
 |cons v vs ih=>
  intro x j i hx hi
  simp only [List.length_cons] at hi
  simp only [kY]
  rw [hx i (by omega),F.mul_zero,Nat.zero_xor]
  cases i with
  |zero=>rfl
  |succ i=>exact ih _ j i (fun i hi=>by rw [hx i hi,F.Ao]) (by omega)
theorem afT{V x:List Nat}(hV:∀c∈V,c<F.q)(hx:∀c∈x,c<F.q)(hn:V≠[])(hl:cf V (V.length-1)≠0)(h:∀i,V.length-1≤i→F.kY V (cf x) i=0):∀i,cf x i=0:=by
 have hvl:0<V.length:=List.length_pos_iff.2 hn
 have hlt:∀{l:List Nat},(∀c∈l,c<F.q)→∀i,cf l i<F.q:=by
  intro l hl i
  unfold cf
  rw [List.getD_eq_getElem?_getD]
  cases hi:l[i]? with
  |none=>exact F.zlt
  |some c=>exact hl c (List.mem_of_getElem? hi)
 have key:dR x=[]:=by
  apply Classical.byContradiction
  intro hne
  have ht:=rU x hne
  rw [jV] at ht
  have htop:=F.Kh V (V.length-1) (cf x) ((dR x).length-1) (by omega) (fun i hi=>by rw [←jV];exact NT (by omega))
  rw [h _ (by omega)] at htop
  rcases F.nz (hlt hV _) (F.Ra _ (hlt hx _)) htop.symm with h0|h0
  ·exact hl h0
  ·exact ht (F.ZO _ (hlt hx _) h0)
 intro i
 rw [←jV,key,AL]
end FO
-- shared
def okV(f:TF3)(M:Nat)(r:List Int):Prop:=r.length=M∧∀y∈r,inF f y
-- shared
def cell(L:List (List Int))(j c:Nat):Int:=(L.getD j []).getD c 0
theorem cell_of{L:List (List Int)}{j c:Nat}{r:List Int}{x:Int}(h:L[j]?=some r)(hx:r[c]?=some x):cell L j c=x:=by
 unfold cell;rw [TD h,TD hx]
theorem afJ{L:List (List Int)}{j c:Nat}{r:List Int}(h:L[j]?=some r):cell L j c=r.getD c 0:=by
 unfold cell;rw [TD h]
theorem adP{f:TF3}{n:Nat}{L:List (List Int)}(h:GR f n L)(j c:Nat):inF f (cell L j c):=by
 unfold cell
 cases hj:L[j]? with
 |none=>rw [List.getD_eq_getElem?_getD (l:=L),hj];exact Jv
 |some r=>
  rw [TD hj,List.getD_eq_getElem?_getD]
  cases hc:r[c]? with
  |none=>exact Jv
  |some x=>exact (K8 h hj).2 x (List.mem_of_getElem? hc)
theorem Yf{f:TF3}{n:Nat}{L:List (List Int)}(h:GR f n L){j c:Nat}(hc:c<n){r:List Int}(hr:L[j]?=some r):Zm c r = !decide (cell L j c=0):=by
 have hx:=List.getElem?_eq_getElem (show c<r.length by rw [(K8 h hr).1];exact hc)
 rw [cell_of hr hx]
 unfold Zm
 rw [hx]
theorem RN{α:Type}(p:α→Bool):∀(l:List α)(i:Nat){k:Nat},Ee p i l=((i+k:Nat):Int)→∀j,j<k→∀x,l[j]?=some x→p x=false:=by
 intro l
 induction l with
 |nil=>intro i k h j hj x hx;simp at hx
 |cons y l ih=>
  intro i k h j hj x hx
  rcases Bool.eq_false_or_eq_true (p y) with hp|hp
  ·simp only [Ee,hp,cond_true] at h;omega
  ·simp only [Ee,hp,cond_false] at h
   cases j with
   |zero=>simp only [List.getElem?_cons_zero,Option.some.injEq] at hx;subst hx;exact hp
   |succ j=>exact ih (i+1) (k:=k-1) (by rw [h];congr 1;omega) j (by omega) x (by simpa using hx)
theorem WI{f:TF3}(hf:aO f=true){n c:Nat}(hc:c<n){a:Nat}{L:List (List Int)}(h:GR f n L) :
  ((∀j,a≤j→j<L.length→cell L j c=0)∧rY f c (a,L)=(a,L)) ∨
  ∃(k:Nat) (G:List (List Int)),a≤k∧k<L.length∧cell L k c≠0∧(∀j,a≤j→j<k→cell L j c=0)∧rY f c (a,L)=(a+1,G)∧GR f n G∧G.length=L.length ∧
   (∀e,e<n→cell G a e=xE f (cell L k e) (KV f (cell L k c))) ∧
   ∀j,j<L.length→j≠a→∀e,e<n→cell G j e=yN .i64 (cell L (if j=k then a else j) e) (xE f (cell L (if j=k then a else j) c) (cell G a e)):=by
 have hok:=acO (c:=c) (s:=(a,L)) hf h
 rcases Ga (Zm c) (L.drop a) a with ⟨h1,h2⟩|⟨k,row,h1,h2,h3⟩
 ·left
  refine ⟨fun j hj hl=>?_,?_⟩
  ·have hr:=List.getElem?_eq_getElem hl
   have hm:L[j]∈L.drop a:=by
    refine List.mem_of_getElem? (i:=j-a) ?_
    rw [List.getElem?_drop,show a+(j-a)=j by omega]
    exact hr
   have:=h2 _ hm
   rw [Yf h hc hr] at this
   simpa using this
  ·unfold rY
   dsimp only
   rw [h1]
   rfl
 ·right
  have hak:L[a+k]?=some row:=by rw [←h1,List.getElem?_drop]
  have hlt:=(List.getElem?_eq_some_iff.1 hak).1
  obtain ⟨r0,hr0⟩:∃r0,L[a]?=some r0:=⟨_,List.getElem?_eq_getElem (by omega)⟩
  obtain ⟨x,hx,hx0⟩:=aiv h2
  have hxf:=(K8 h hak).2 x (List.mem_of_getElem? hx)
  have hrl:=(K8 h hak).1
  have hst:rY f c (a,L)=(a+1,DV f c a (OY f c (a+k) a L)):=by
   unfold rY
   dsimp only
   rw [h3,decide_eq_false (by omega),cond_false,Int.toNat_natCast]
  have hp:OY f c (a+k) a L=(L.set (a+k) r0).set a (row.map fun y=>xE f y (KV f x)):=by
   unfold OY V4
   rw [hak,hr0]
   simp only [hx]
  have hpg:=ad3 (c:=c) (k:=a+k) (a:=a) hf h
  have hpa:(OY f c (a+k) a L)[a]?=some (row.map fun y=>xE f y (KV f x)):=by rw [hp];exact List.getElem?_set_self (by simp;omega)
  have hcl:DV f c a (OY f c (a+k) a L)=(OY f c (a+k) a L).mapIdx (Iy f c a (row.map fun y=>xE f y (KV f x))):=by
   unfold DV;rw [hpa]
  have hcg:=XQ (c:=c) (a:=a) hf hpg.1
  have hkc:cell L (a+k) c=x:=cell_of hak hx
  have hone:xE f x (KV f x)=1:=(Gc hf hxf).2 hx0
  have hownc:(row.map fun y=>xE f y (KV f x))[c]?=some 1:=by rw [List.getElem?_map,hx,Option.map_some,hone]
  have hga:(DV f c a (OY f c (a+k) a L))[a]?=some (row.map fun y=>xE f y (KV f x)):=by
   rw [hcl,List.getElem?_mapIdx,hpa,Option.map_some]
   unfold Iy
   rw [hownc]
   simp
  refine ⟨a+k,DV f c a (OY f c (a+k) a L),by omega,hlt,by rw [hkc];exact hx0,fun j h4 h5=>?_,hst,hcg.1,by rw [hcg.2,hpg.2],fun e he=>?_,fun j hj hja e he=>?_⟩
  ·-- those before the pivot
   have hr:=List.getElem?_eq_getElem (show j<L.length by omega)
   have hb:=RN (Zm c) (L.drop a) a h3 (j-a) (by omega) L[j] (by rw [List.getElem?_drop,show a+(j-a)=j by omega];exact hr)
   rw [Yf h hc hr] at hb
   simpa using hb
  ·have hy:=List.getElem?_eq_getElem (show e<row.length by omega)
   rw [cell_of hak hy,hkc]
   exact cell_of hga (by rw [List.getElem?_map,hy];rfl)
  ·have hj0:(OY f c (a+k) a L)[j]?=L[if j=a+k then a else j]?:=by
    rw [hp,List.getElem?_set_ne (Ne.symm hja),List.getElem?_set]
    by_cases hjk:j=a+k
    ·rw [if_pos hjk.symm,if_pos hlt,if_pos hjk,hr0]
    ·rw [if_neg (Ne.symm hjk),if_neg hjk]
   obtain ⟨r,hr⟩:∃r,L[if j=a+k then a else j]?=some r:=⟨_,List.getElem?_eq_getElem (by split<;>omega)⟩
   rw [hr] at hj0
   obtain ⟨hrl2,hrf2⟩:=K8 h hr
   have hz:=List.getElem?_eq_getElem (show c<r.length by omega)
   have hy:=List.getElem?_eq_getElem (show e<r.length by omega)
   have hye:=List.getElem?_eq_getElem (show e<(row.map fun y=>xE f y (KV f x)).length by simp;omega)
   have hyf:=hrf2 _ (List.mem_of_getElem? hy)
   have hown:=(K8 hpg.1 hpa).2
   rw [cell_of hr hy,cell_of hr hz,cell_of hga hye]
   have hgj:(DV f c a (OY f c (a+k) a L))[j]?=some (Iy f c a (row.map fun y=>xE f y (KV f x)) j r):=by
    rw [hcl,List.getElem?_mapIdx,hj0,Option.map_some]
   have hwe:=hown _ (List.mem_of_getElem? hye)
   unfold Iy at hgj
   rw [hz] at hgj
   dsimp only at hgj
   rw [decide_eq_false hja,Bool.false_or] at hgj
   by_cases h0:r[c]=0
   ·rw [decide_eq_true h0,cond_true] at hgj
    rw [cell_of hgj hy,h0,Ye hf Jv hwe,QS hf hwe,Yr hf hyf]
   ·rw [decide_eq_false h0,cond_false] at hgj
    refine cell_of hgj ?_
    rw [List.getElem?_map]
    rw [show (r.zip (row.map fun y=>xE f y (KV f x)))[e]?=some (r[e],(row.map fun y=>xE f y (KV f x))[e]'(by simp;omega)) from List.getElem?_zip_eq_some.2 ⟨hy,hye⟩]
    rfl
-- shared
structure NI(f:TF3)(n c a:Nat)(L:List (List Int))(p:List Nat):Prop where
 gr:GR f n L
 ac:a≤c
 al:a≤L.length
 pl:p.length=a
 plt:∀q∈p,q<c
 pinc:p.Pairwise (· < ·)
 low:∀j,a≤j→j<L.length→∀e,e<c→cell L j e=0
 dia:∀i q,p[i]?=some q→∀j,j<L.length→cell L j q=if j=i then 1 else 0
 lead:∀i q,p[i]?=some q→∀e,e<q→cell L i e=0
 full:a=c→p=List.range c
theorem NI.start{f:TF3}{n:Nat}{L:List (List Int)}(h:GR f n L):NI f n 0 0 L []:=
 ⟨h,Nat.le_refl _,Nat.zero_le _,rfl,fun _ h=>absurd h List.not_mem_nil,List.Pairwise.nil,fun _ _ _ _ h=>absurd h (Nat.not_lt_zero _),fun i q h=>absurd h (by simp),fun i q h=>absurd h (by simp),fun _=>rfl⟩
theorem NI.step{f:TF3}(hf:aO f=true){n c a:Nat}{L:List (List Int)}{p:List Nat}(h:NI f n c a L p)(hc hn:c<n):∃p',NI f n (c+1) (rY f c (a,L)).1 (rY f c (a,L)).2 p'∧(rY f c (a,L)).2.length=L.length:=by
 rcases WI hf hc (a:=a) h.gr with ⟨h1,h2⟩|⟨k,G,hak,hk,hx,_,h2,hg,hgl,hga,hgj⟩
 ·rw [h2]
  refine ⟨p,⟨h.gr,by have:=h.ac;omega,h.al,h.pl,fun q hq=>by have:=h.plt q hq;omega,h.pinc,fun j hj hl e he=>?_,h.dia,h.lead,fun hh=>by have:=h.ac;dsimp only at hh;omega⟩,rfl⟩
  by_cases hec:e=c
  ·subst hec;exact h1 j hj hl
  ·exact h.low j hj hl e (by omega)
 ·rw [h2]
  have hin:=adP h.gr
  have hgin:=adP hg
  have hxi:=Gc hf (hin k c)
  have g1:cell G a c=1:=by rw [hga c hc];exact hxi.2 hx
  have g0:∀e,e<c→cell G a e=0:=by
   intro e he
   rw [hga e (by omega),h.low k hak hk e he,Ye hf Jv hxi.1,QS hf hxi.1]
  have gj0:∀j,j<L.length→j≠a→∀e,e<c→cell G j e=cell L (if j=k then a else j) e:=by
   intro j hj hja e he
   rw [hgj j hj hja e (by omega),g0 e he,QS hf (hin _ _),Yr hf (hin _ _)]
  have gjc:∀j,j<L.length→j≠a→cell G j c=0:=by
   intro j hj hja
   rw [hgj j hj hja c hc,g1,agP hf (hin _ _),afu hf (hin _ _)]
  have hpa:∀i q,(p++[c])[i]?=some q→(p[i]?=some q∧i<a)∨(i=a∧q=c):=by
   intro i q hi
   rw [List.getElem?_append,h.pl] at hi
   by_cases hia:i<a
   ·rw [if_pos hia] at hi;exact .inl ⟨hi,hia⟩
   ·rw [if_neg hia] at hi
    have:=(List.getElem?_eq_some_iff.1 hi).1
    simp only [List.length_cons,List.length_nil] at this
    have hia2:i=a:=by omega
    subst hia2
    rw [Nat.sub_self] at hi
    exact .inr ⟨rfl,(Option.some.inj hi).symm⟩
  refine ⟨p++[c],⟨hg,by have:=h.ac;dsimp only;omega,by dsimp only;rw [hgl];omega,by simp [h.pl],fun q hq=>?_,?_,fun j hj hl e he=>?_,fun i q hi j hj=>?_,fun i q hi e he=>?_,fun hh=>?_⟩,hgl⟩
  ·rcases List.mem_append.1 hq with hq|hq
   ·have:=h.plt q hq;omega
   ·simp only [List.mem_singleton] at hq;omega
  ·refine List.pairwise_append.2 ⟨h.pinc,List.pairwise_singleton _ _,fun z hz y hy=>?_⟩
   rw [List.mem_singleton.1 hy];exact h.plt z hz
  ·rw [hgl] at hl
   dsimp only at hj
   by_cases hec:e=c
   ·subst hec;exact gjc j hl (by omega)
   ·rw [gj0 j hl (by omega) e (by omega)]
    exact h.low _ (by split<;>omega) (by split<;>omega) e (by omega)
  ·rw [hgl] at hj
   rcases hpa i q hi with ⟨hi,hia⟩|⟨rfl,rfl⟩
   ·have hqc:=h.plt q (List.mem_of_getElem? hi)
    by_cases hja:j=a
    ·subst hja;rw [g0 q hqc,if_neg (by omega)]
    ·rw [gj0 j hj hja q hqc,h.dia i q hi _ (by split<;>omega)]
     by_cases hjk:j=k
     ·rw [if_pos hjk,if_neg (by omega),if_neg (by omega)]
     ·rw [if_neg hjk]
   ·by_cases hja:j=i
    ·subst hja;rw [g1,if_pos rfl]
    ·rw [gjc j hj hja,if_neg hja]
  ·rcases hpa i q hi with ⟨hi,hia⟩|⟨rfl,rfl⟩
   ·have hqc:=h.plt q (List.mem_of_getElem? hi)
    rw [gj0 i (by have:=h.al;omega) (by omega) e (by omega),if_neg (by omega)]
    exact h.lead i q hi e he
   ·exact g0 e he
  ·dsimp only at hh
   rw [h.full (by omega),←List.range_succ]
theorem NI.from{f:TF3}(hf:aO f=true){n:Nat}:∀(m c a:Nat)(L:List (List Int))(p:List Nat),c+m≤n→NI f n c a L p→∃p',NI f n (c+m) (FK f c m (a,L)).1 (FK f c m (a,L)).2 p'∧(FK f c m (a,L)).2.length=L.length:=by
 intro m
 induction m with
 |zero=>intro c a L p _ h;exact ⟨p,h,rfl⟩
 |succ m ih=>
  intro c a L p hc h
  obtain ⟨p1,h1,hl1⟩:=h.step hf (by omega) (by omega)
  obtain ⟨p2,h2,hl2⟩:=ih (c+1) _ _ p1 (by omega) h1
  rw [show c+1+m=c+(m+1) by omega] at h2
  exact ⟨p2,h2,by rw [←hl1];exact hl2⟩
theorem NI.all{f:TF3}(hf:aO f=true){n m:Nat}{L:List (List Int)}(hm:m≤n)(h:GR f n L):∃p,NI f n m (FK f 0 m (0,L)).1 (FK f 0 m (0,L)).2 p∧(FK f 0 m (0,L)).2.length=L.length:=by
 have:=NI.from hf m 0 0 L [] (by omega) (NI.start h)
 rw [Nat.zero_add] at this
 exact this
section
variable {f : TF3} (hf : aO f = true) {n c : Nat} (hc : c < n) {x : List Int} (hx : ∀ y ∈ x, inF f y)
include hc
include hf hx
end
-- shared
-- shared
section
variable {f : TF3} {n a : Nat} {G : List (List Int)} {p : List Nat}
theorem NI.row(h:NI f n n a G p){i:Nat}(hi:i<a):∃r,(G.take a)[i]?=some r∧okV f n r∧(∀e,r.getD e 0=cell G i e):=by
 have:=h.al
 have hr:=List.getElem?_eq_getElem (show i<G.length by omega)
 exact ⟨G[i],by rw [List.getElem?_take_of_lt hi];exact hr,K8 h.gr hr,fun e=>(afJ hr).symm⟩
end
theorem nZ{σ β:Type}{step:σ→Tre (σ ⊕ β)}(st:Nat→σ)(n:Nat)(b:β)(hs:∀i,i<n→(step (st i)).run some=some (.inl (st (i+1))))(he:(step (st n)).run some=some (.inr b)):aZ step (st 0)=some b:=by
 have key:∀m i,i+m=n→aZ step (st i)=some b:=by
  intro m
  induction m with
  |zero=>intro i hi;have hi:i=n:=hi;subst hi;exact gQ he
  |succ m ih=>intro i hi;rw [kK (hs i (by omega))];exact ih (i+1) (by omega)
 exact key n 0 (by omega)
def aW(l:List Nat):List Int:=l.map fun x:Nat=>(x:Int)
theorem bG(l:List Nat):(aW l).length=l.length:=by unfold aW;exact List.length_map _
theorem jd{l:List Nat}{i x:Nat}(h:l[i]?=some x):(aW l)[i]?=some (x:Int):=by
 unfold aW;rw [List.getElem?_map,h];rfl
-- shared
def aiK(p:Nat):Nat→Nat→Nat
 |0,a=>a
 |k+1,a=>aiK p k (mulN p a a)
def akz(d p:Nat):Bool:=(List.range (2 ^ d)).all fun a=>Nat.beq (aiK p d a) a
theorem aeK:(jW.all fun q=>akz q.1 q.2)=true:=by kernel_rfl
theorem Zf{d p a:Nat}(hq:(d,p)∈jW)(ha:a<2 ^ d)(h0:a≠0):Bv d p a<2 ^ d∧mulN p a (Bv d p a)=1:=by
 have h:=List.all_eq_true.1 (List.all_eq_true.1 OE (d,p) hq) a (List.mem_range.2 ha)
 rw [Bool.and_eq_true,Bool.or_eq_true] at h
 exact ⟨by simpa [Nat.blt_eq] using h.1,(h.2.resolve_left fun h=>h0 (Nat.eq_of_beq_eq_true h)) |> Nat.eq_of_beq_eq_true⟩
theorem Dt{a d:Nat}:a%2 ^ d<2 ^ d:=Nat.mod_lt _ (Nat.two_pow_pos d)
theorem one_mod{d:Nat}(hd:1≤d):1%2 ^ d=1:=Nat.mod_eq_of_lt (Nat.lt_of_lt_of_le (by decide:1<2 ^ 1) (Nat.pow_le_pow_right (by decide) hd))
theorem Mv{d p:Nat}(hq:(d,p)∈jW):1≤d∧d≤5:=by
 have:∀q∈jW,1≤q.1∧q.1≤5:=by decide
 exact this _ hq
def foN(d p:Nat)(hq:(d,p)∈jW):FO where
 q:=2 ^ d
 dg:=d
 mul:=fun a b=>mulN p (a%2 ^ d) (b%2 ^ d)
 hq:=Nat.lt_of_lt_of_le (by decide:1<2 ^ 1) (Nat.pow_le_pow_right (by decide) (Mv hq).1)
 hd:=(Mv hq).1
 lt:=fun a b=>(oV hq Dt Dt).1
 xlt:=fun a b ha hb=>Nat.xor_lt_two_pow ha hb
 comm:=fun a b=>(oV hq Dt Dt).2
 assoc:=fun a b c=>by rw [Nat.mod_eq_of_lt (oV hq Dt Dt).1,Nat.mod_eq_of_lt (oV hq (a:=b%2 ^ d) (b:=c%2 ^ d) Dt Dt).1];exact adq hq Dt Dt Dt
 add:=fun a b c=>by rw [Nat.xor_mod_two_pow];exact BA hq Dt _ _ Dt Dt
 one:=fun a ha=>by rw [Nat.mod_eq_of_lt ha,one_mod (Mv hq).1];exact (OU hq ha).1
 inv:=fun a ha h0=>⟨Bv d p a,(Zf hq ha h0).1,by rw [Nat.mod_eq_of_lt ha,Nat.mod_eq_of_lt (Zf hq ha h0).1];exact (Zf hq ha h0).2⟩
theorem Uu{f:TF3}(hf:aO f=true):(f.1.toNat,f.2.1.toNat)∈jW∧f=((f.1.toNat:Int),(f.2.1.toNat:Int),()):=by
 obtain ⟨d,p,hq,rfl⟩:=wU hf
 exact ⟨hq,rfl⟩
def FOf(f:TF3)(hf:aO f=true):FO:=foN f.1.toNat f.2.1.toNat (Uu hf).1
section
variable {f : TF3} (hf : aO f = true)
theorem yg:(FOf f hf).q=2 ^ f.1.toNat:=rfl
theorem aa4{x:Int}:inF f x ↔ ∃n:Nat,x=(n:Int)∧n<(FOf f hf).q:=by
 unfold inF
 rw [yg]
 constructor
 ·intro h;exact ⟨x.toNat,by omega,by omega⟩
 ·rintro ⟨n,rfl,h⟩;exact ⟨by omega,by exact_mod_cast h⟩
theorem F63{n:Nat}(h:n<(FOf f hf).q):n<2 ^ 63:=by
 rw [yg] at h
 have:=Nat.pow_le_pow_right (show 0<2 by decide) (show f.1.toNat≤63 by have:=(FL hf).2;omega)
 omega
theorem agO{a b:Nat}(ha:a<(FOf f hf).q)(hb:b<(FOf f hf).q):xE f (a:Int) (b:Int)=(((FOf f hf).mul a b:Nat):Int):=by
 rw [yg] at ha hb
 unfold xE FOf foN
 simp only [Int.toNat_natCast]
 rw [Nat.mod_eq_of_lt ha,Nat.mod_eq_of_lt hb]
theorem adG{a b:Nat}(ha:a<(FOf f hf).q)(hb:b<(FOf f hf).q):yN .i64 (a:Int) (b:Int)=((a^^^b:Nat):Int):=yO (F63 hf ha) (F63 hf hb)
theorem ajR{a:Nat}(ha:a<(FOf f hf).q):∃b:Nat,KV f (a:Int)=(b:Int)∧b<(FOf f hf).q∧(a≠0→(FOf f hf).mul a b=1):=by
 obtain ⟨h1,h2⟩:=Gc hf ((aa4 hf).2 ⟨a,rfl,ha⟩)
 obtain ⟨b,hb,hbl⟩:=(aa4 hf).1 h1
 refine ⟨b,hb,hbl,fun h0=>?_⟩
 have:=h2 (by omega)
 rw [hb,agO hf ha hbl] at this
 omega
theorem ahf{d p:Nat}(hq:(d,p)∈jW):∀(k:Nat){a:Nat},a<2 ^ d→(foN d p hq).sqn k a=aiK p k a:=by
 intro k
 induction k with
 |zero=>intro a _;rfl
 |succ k ih=>
  intro a ha
  have hs:(foN d p hq).sq a=mulN p a a:=by
   show mulN p (a%2 ^ d) (a%2 ^ d)=_
   rw [Nat.mod_eq_of_lt ha]
  show (foN d p hq).sqn k ((foN d p hq).sq a)=aiK p k (mulN p a a)
  rw [hs,ih (oV hq ha ha).1]
theorem ajI{a:Nat}(ha:a<(FOf f hf).q):(FOf f hf).sqn f.1.toNat a=a:=by
 have hq:=(Uu hf).1
 rw [yg] at ha
 unfold FOf
 rw [ahf hq _ ha]
 exact Nat.eq_of_beq_eq_true (List.all_eq_true.1 (List.all_eq_true.1 aeK _ hq) a (List.mem_range.2 ha))
theorem agr{a:Nat}(ha:a<(FOf f hf).q):∀j:Nat,(FOf f hf).sqn (f.1.toNat*j) a=a:=by
 intro j
 induction j with
 |zero=>rfl
 |succ j ih=>rw [Nat.mul_succ,FO.ZP,ih];exact ajI hf ha
theorem aiL{a:Nat}(ha:a<(FOf f hf).q)(k:Nat):(FOf f hf).sqn (k%f.1.toNat) a=(FOf f hf).sqn k a:=by
 have h:=Nat.div_add_mod k f.1.toNat
 have h2:(FOf f hf).sqn (f.1.toNat*(k/f.1.toNat)+k%f.1.toNat) a=(FOf f hf).sqn (k%f.1.toNat) a:=by
  rw [FO.ZP,agr hf ha]
 rw [h] at h2
 exact h2.symm
end
def inL(F:FO)(l:List Nat):Prop:=∀x∈l,x<F.q
theorem TK{F:FO}{a b:List Nat}(ha:inL F a)(hb:inL F b):inL F (a++b):=fun x hx=>(List.mem_append.1 hx).elim (ha x) (hb x)
theorem EY{F:FO}{l:List Nat}(h:inL F l):inL F (dR l):=by
 intro x hx
 obtain ⟨i,hi⟩:=List.getElem?_of_mem hx
 have hc:=jV l i
 unfold cf at hc
 rw [List.getD_eq_getElem?_getD,hi,List.getD_eq_getElem?_getD] at hc
 cases hl:l[i]? with
 |none=>rw [hl] at hc;simp at hc;rw [hc];exact F.zlt
 |some y=>rw [hl] at hc;simp at hc;rw [hc];exact h y (List.mem_of_getElem? hl)
theorem Cy{F:FO}{l:List Nat}(h:inL F l)(i:Nat):cf l i<F.q:=by
 unfold cf
 rw [List.getD_eq_getElem?_getD]
 cases hi:l[i]? with
 |none=>exact F.zlt
 |some c=>exact h c (List.mem_of_getElem? hi)
theorem oG{l:List Nat}{i:Nat}(h:i<l.length):l[i]?=some (cf l i):=by
 unfold cf
 rw [List.getD_eq_getElem?_getD,List.getElem?_eq_getElem h];rfl
theorem afp{l:List Nat}{n:Nat}(hn:n≤l.length)(hz:∀i,n≤i→cf l i=0)(h:n=0∨cf l (n-1)≠0):l.take n=dR l:=by
 have hcf:∀i,cf (l.take n) i=cf l i:=by
  intro i
  by_cases hi:i<n
  ·unfold cf
   rw [List.getD_eq_getElem?_getD,List.getD_eq_getElem?_getD,List.getElem?_take_of_lt hi]
  ·rw [hz i (by omega),NT (by rw [List.length_take];omega)]
 refine Rf (fun hne=>?_) (rU l) fun i=>by rw [hcf,jV]
 have hl:(l.take n).length=n:=by rw [List.length_take];omega
 rw [hl,hcf]
 rcases h with h|h
 ·exact absurd (List.length_eq_zero_iff.1 (by rw [hl,h])) hne
 ·exact h
-- shared
theorem ajh{b:Nat}(orig:List Nat):∀(n c:Nat)(E:List (Nat×Nat))(R:List Nat),c+n=b→Inv orig c E R→(∀x∈R,x<2 ^ b)→∃E',jA orig E':=by
 intro n
 induction n with
 |zero=>
  intro c E R hc h hb
  exact ⟨_,h.done fun x hx=>PU (hb x hx) fun q hq=>h.low x hx q (by omega)⟩
 |succ n ih=>
  intro c E R hc h hb
  by_cases hr:∃r∈R,r.testBit c=true
  ·obtain ⟨r,hr,hrb⟩:=hr
   refine ih (c+1) _ _ (by omega) (h.step (R':=R.map (lX c r)) hr hrb (fun y hy=>?_) fun x hx=>.inr (List.mem_map_of_mem hx)) fun x hx=>?_
   ·obtain ⟨x,hx,rfl⟩:=List.mem_map.1 hy
    exact .inr ⟨x,hx,rfl⟩
   ·obtain ⟨y,hy,rfl⟩:=List.mem_map.1 hx
    exact Ur (hb r hr) (hb y hy)
  ·exact ih (c+1) E R (by omega) (h.skip fun x hx=>Bool.eq_false_iff.2 fun hx'=>hr ⟨x,hx,hx'⟩) hb
theorem af9{b:Nat}{xs:List Int}(_:b≤62)(h:Jz b xs=true):jA (xs.map Int.toNat) (ech (xs.map Int.toNat)):=by
 obtain ⟨ns,rfl,hlen,hn,he⟩:=Yi h
 obtain ⟨E,h2⟩:=ajh ns b 0 [] ns (by omega) (Inv.start ns) hn
 rw [he,acP h2];exact h2
theorem af7(xs:List Int):(YL xs).length=(ech (xs.map Int.toNat)).length:=by unfold YL;rw [rV]
theorem Wd:∀(l:List (Nat×Nat))(lo b:Nat),(l.Pairwise fun a b=>a.1<b.1)→(∀a∈l,lo≤a.1∧a.1<b)→l.length≤b-lo:=by
 intro l
 induction l with
 |nil=>intro lo b _ _;exact Nat.zero_le _
 |cons a l ih=>
  intro lo b h hb
  obtain ⟨h1,h2⟩:=List.pairwise_cons.1 h
  have:=ih (a.1+1) b h2 fun x hx=>⟨h1 x hx,(hb x (.tail _ hx)).2⟩
  have h0:=hb a (.head _)
  simp only [List.length_cons]
  omega
theorem ai9{l:List Nat}{b v:Nat}(h:∀x∈l,x<2 ^ b)(hv:Sp l v):v<2 ^ b:=by
 induction hv with
 |zero=>exact Nat.two_pow_pos b
 |add hr _ ih=>exact Nat.xor_lt_two_pow (h _ hr) ih
-- shared
theorem ajX:∀(bs:List Bool)(us:List Nat),Sp us (FO.vo bs us):=by
 intro bs
 induction bs with
 |nil=>intro us;cases us<;>exact Sp.zero
 |cons b bs ih=>
  intro us
  cases us with
  |nil=>exact Sp.zero
  |cons u us=>
   have h:=Sp.trans (fun r hr=>Sp.mem (List.mem_cons_of_mem u hr)) (ih us)
   simp only [FO.vo]
   cases b
   ·rw [cond_false,Nat.zero_xor];exact h
   ·rw [cond_true];exact (Sp.mem (List.mem_cons_self ..)).xor h
theorem ad7{g:Nat}{a b:List Nat}(h:∀v,Sp a v→Sp b v){v:Nat}(hv:Sp (g::a) v):Sp (g::b) v:=by
 refine Sp.trans (fun r hr=>?_) hv
 rcases List.mem_cons.1 hr with rfl|hr
 ·exact Sp.mem (List.mem_cons_self ..)
 ·exact Sp.trans (fun r hr=>Sp.mem (List.mem_cons_of_mem _ hr)) (h r (Sp.mem hr))
theorem afU:∀(pts:List Nat),¬FO.K9 pts→∃pts':List Nat,pts'.length<pts.length∧∀v,Sp pts v↔Sp pts' v:=by
 intro pts
 induction pts with
 |nil=>intro h;exact absurd (fun bs hl _ b hb=>by rw [List.length_eq_zero_iff.1 hl] at hb;cases hb) h
 |cons g gs ih=>
  intro h
  by_cases hg:Sp gs g
  ·exact ⟨gs,by simp,fun v=>⟨fun hv=>Sp.trans (fun r hr=>(List.mem_cons.1 hr).elim (fun e=>e ▸ hg) Sp.mem) hv,fun hv=>Sp.trans (fun r hr=>Sp.mem (List.mem_cons_of_mem _ hr)) hv⟩⟩
  ·have hgs:¬FO.K9 gs:=by
    intro hi
    apply h
    intro bs hl hs
    cases bs with
    |nil=>simp at hl
    |cons b bs=>
     simp only [List.length_cons,Nat.add_right_cancel_iff] at hl
     cases b with
     |false=>
      simp only [FO.vo,cond_false] at hs
      rw [Nat.zero_xor] at hs
      intro b hb
      rcases List.mem_cons.1 hb with rfl|hb
      ·rfl
      ·exact hi bs hl hs b hb
     |true=>
      exfalso
      simp only [FO.vo,cond_true] at hs
      apply hg
      have:g=FO.vo bs gs:=by
       calc g=(g^^^FO.vo bs gs)^^^FO.vo bs gs:=by rw [Nat.xor_assoc,Nat.xor_self,Nat.xor_zero]
        _=FO.vo bs gs:=by rw [hs,Nat.zero_xor]
      rw [this];exact ajX bs gs
   obtain ⟨gs',h1,h2⟩:=ih hgs
   exact ⟨g::gs',by simp only [List.length_cons];omega,fun v=>⟨ad7 fun v=>(h2 v).1,ad7 fun v=>(h2 v).2⟩⟩
theorem aa6{pts E:List Nat}(h:jA pts E)(hl:E.length=pts.length):FO.K9 pts:=by
 apply Classical.byContradiction
 intro hn
 obtain ⟨pts',h1,h2⟩:=afU pts hn
 obtain ⟨P,c,hr,rfl,hs⟩:=h
 have h':jA pts' (P.map (·.2)):=⟨P,c,hr,rfl,fun v=>(h2 v).symm.trans (hs v)⟩
 have:=h'.le
 omega
theorem ais(l:List Nat):aW l=up l:=rfl
theorem agF(l:List Nat):(aW l).map Int.toNat=l:=up_toNat l
theorem ajQ{f:TF3}(hf:aO f=true){L:List Nat}(h:inL (FOf f hf) L)(hl:L.length≤1000){b:Nat}(hb:f.1.toNat≤b):Jz b (aW L)=true:=by
 rw [ais]
 exact QU (by omega) fun n hn=>Nat.lt_of_lt_of_le (h n hn) (Nat.pow_le_pow_right (by decide) hb)
def rkN (L:List Nat):Nat:=(ech L).length
theorem BF{f:TF3}(hf:aO f=true){L:List Nat}(h:inL (FOf f hf) L)(hl:L.length≤1000):jA L (ech L):=by
 have h5:=(FL hf).2
 have:=af9 (b:=62) (by omega) (ajQ hf h hl (by omega))
 rwa [agF] at this
-- shared
theorem ab7{p q:List Nat}(h:∀i,cf p i=cf q i):dR p=dR q:=Rf (rU p) (rU q) fun i=>by rw [jV,jV,h]
theorem FD{l:List Nat}{i:Nat}(h:(dR l).length≤i):cf l i=0:=by rw [←jV];exact NT h
theorem PO(l:List Nat):(dR l).length=0∨cf l ((dR l).length-1)≠0:=by
 by_cases h:dR l=[]
 ·left;rw [h];rfl
 ·right;rw [←jV];exact rU l h
theorem ZV(l:List Nat):l.take (dR l).length=dR l:=afp (sV l) (fun _ hi=>FD hi) (PO l)
theorem QI(l:List Nat)(n:Nat):aW (l.take n)=(aW l).take n:=by unfold aW;rw [List.map_take]
theorem Vi(a b:List Nat):aW (a++b)=aW a++aW b:=by unfold aW;rw [List.map_append]
theorem Nc(n:Nat):aW (List.replicate n 0)=List.replicate n (0:Int):=by unfold aW;rw [List.map_replicate];rfl
theorem OD(l:List Nat)(i x:Nat):aW (l.set i x)=(aW l).set i (x:Int):=by unfold aW;rw [List.map_set]
theorem aad:∀(B A:List Nat)(y:Nat),B.length<A.length→(lg A B)[B.length]?=some (cf A B.length)∧(lg A B).set B.length (cf A B.length^^^y)=lg A (B++[y]):=by
 intro B
 induction B with
 |nil=>
  intro A y h
  cases A with
  |nil=>simp at h
  |cons a A=>exact ⟨rfl,by simp only [List.nil_append,lg,List.length_nil,List.set_cons_zero,FE,aac]⟩
 |cons b B ih=>
  intro A y h
  cases A with
  |nil=>simp at h
  |cons a A=>
   obtain ⟨h1,h2⟩:=ih A y (by simpa using h)
   simp only [lg,List.length_cons,List.cons_append,List.getElem?_cons_succ,List.set_cons_succ,oH]
   exact ⟨h1,by rw [h2]⟩
theorem adN{A B:List Nat}(h:B.length≤A.length):(lg A B).length=A.length:=by rw [NM];omega
theorem afL(i:Nat)(l:List Nat)(s:Nat):cf (List.replicate i 0++l) s=if i≤s then cf l (s-i) else 0:=by
 unfold cf
 rw [List.getD_eq_getElem?_getD,List.getD_eq_getElem?_getD]
 by_cases h:i≤s
 ·rw [if_pos h,List.getElem?_append_right (by rw [List.length_replicate];exact h),List.length_replicate]
 ·rw [if_neg h,List.getElem?_append_left (by rw [List.length_replicate];omega),List.getElem?_replicate,if_pos (by omega)];rfl
theorem aap(n i:Nat):cf (List.replicate n 0) i=0:=by
 unfold cf
 rw [List.getD_eq_getElem?_getD,List.getElem?_replicate]
 split<;>rfl
theorem afA(M:Nat)(P Q:List Nat):dR (lg (Nl M P) Q)=dR (lg P Q):=ab7 fun i=>by rw [Cx,Cx,ahO]
namespace FO
variable (F : FO)
theorem acv:∀(V:List Nat)(c:Nat)(x:Nat→Nat)(s:Nat),F.kY (V++[c]) x s=F.kY V x s^^^(if V.length≤s then F.mul c (F.sqn V.length (x (s-V.length))) else 0):=by
 intro V
 induction V with
 |nil=>
  intro c x s
  simp only [List.nil_append,kY,List.length_nil,Nat.zero_le,if_true,Nat.sub_zero,sqn]
  cases s<;>simp
 |cons v vs ih=>
  intro c x s
  simp only [List.cons_append,kY,List.length_cons]
  cases s with
  |zero=>simp
  |succ s=>
   simp only
   rw [ih]
   by_cases h:vs.length≤s
   ·rw [if_pos h,if_pos (by omega),show s+1-(vs.length+1)=s-vs.length by omega]
    simp only [sqn]
    ac_rfl
   ·rw [if_neg h,if_neg (by omega),Nat.xor_zero,Nat.xor_zero]
def Xm(i c:Nat)(q:List Nat):List Nat:=q.map fun d=>F.mul c (F.sqn i d)
def JB(p q:List Nat):Nat→List Nat
 |0=>List.replicate (p.length+q.length-1) 0
 |i+1=>lg (JB p q i) (List.replicate i 0++F.Xm i (cf p i) q)
theorem agU(p q:List Nat)(hq:q≠[]):∀i,i≤p.length→(F.JB p q i).length=p.length+q.length-1:=by
 have hl:0<q.length:=List.length_pos_iff.2 hq
 intro i
 induction i with
 |zero=>intro _;exact List.length_replicate
 |succ i ih=>
  intro h
  unfold JB
  rw [adN (by rw [ih (by omega),List.length_append,List.length_replicate];unfold Xm;rw [List.length_map];omega),ih (by omega)]
theorem aix(p q:List Nat):∀i,i≤p.length→∀s,cf (F.JB p q i) s=F.kY (p.take i) (cf q) s:=by
 intro i
 induction i with
 |zero=>intro _ s;unfold JB;rw [aap];simp [kY]
 |succ i ih=>
  intro h s
  unfold JB
  rw [Cx,ih (by omega),List.take_add_one,oG (show i<p.length by omega),Option.toList_some,F.acv,List.length_take,Nat.min_eq_left (by omega),afL]
  unfold Xm
  rw [YG (by rw [F.abZ,F.mul_zero])]
theorem ae1(p q:List Nat):dR (F.JB p q p.length)=dR (F.lG p q):=ab7 fun s=>by rw [F.aix p q _ (Nat.le_refl _),List.take_length,F.Iw]
theorem aiy(p q:List Nat):∀i,inL F (F.JB p q i):=by
 intro i
 induction i with
 |zero=>intro x hx;rw [(List.mem_replicate.1 hx).2];exact F.zlt
 |succ i ih=>
  unfold JB
  refine F.Yw ih fun x hx=>?_
  rcases List.mem_append.1 hx with hx|hx
  ·rw [(List.mem_replicate.1 hx).2];exact F.zlt
  ·obtain ⟨d,_,rfl⟩:=List.mem_map.1 hx
   exact F.lt _ _
theorem Lb{V m:List Nat}(hV:inL F V)(hm:inL F m)(h1:V≠[])(h2:m≠[])(hv:cf V (V.length-1)≠0)(hc:cf m (m.length-1)≠0):(dR (F.lG V m)).length=V.length+m.length-1:=by
 have hl1:0<V.length:=List.length_pos_iff.2 h1
 have hl2:0<m.length:=List.length_pos_iff.2 h2
 have htop:=F.Kh V (V.length-1) (cf m) (m.length-1) (by omega) fun i hi=>NT (by omega)
 have hne:cf (F.lG V m) (V.length-1+(m.length-1))≠0:=by
  rw [F.Iw,htop]
  intro h0
  rcases F.nz (Cy hV _) (F.Ra _ (Cy hm _)) h0 with h|h
  ·exact hv h
  ·exact hc (F.ZO _ (Cy hm _) h)
 have hle:=F.Ew V m h1 h2
 have hlt:=sV (F.lG V m)
 apply Classical.byContradiction
 intro hn
 exact hne (FD (by omega))
end FO
-- shared
def AA(l:List Nat):Prop:=l≠[]→cf l (l.length-1)≠0
theorem ND(l:List Nat):AA (dR l):=rU l
theorem aiT{l:List Nat}{n:Nat}(h:∀i,n≤i→cf l i=0):(dR l).length≤n:=by
 apply Classical.byContradiction
 intro hn
 rcases PO l with h0|h0
 ·omega
 ·exact h0 (h _ (by omega))
structure ahC(F:FO)(N V A R:List Nat):Prop where
 ia:inL F A
 ir:inL F R
 ta:AA A
 tr:AA R
 eq:∀i,cf N i=F.kY V (cf A) i^^^cf R i
def tC(k c:Nat):List Nat:=(List.replicate (k+1) 0).set k c
theorem Rc(k c:Nat):(tC k c).length=k+1:=by unfold tC;rw [List.length_set,List.length_replicate]
theorem ahk(k c i:Nat):cf (tC k c) i=if k=i then c else 0:=by
 unfold tC cf
 rw [List.getD_eq_getElem?_getD,List.getElem?_set,List.length_replicate]
 by_cases h:k=i
 ·rw [if_pos h,if_pos h,if_pos (by omega)];rfl
 ·rw [if_neg h,if_neg h,List.getElem?_replicate];split<;>rfl
theorem ahl{F:FO}{k c:Nat}(hc:c<F.q):inL F (tC k c):=by
 intro x hx
 rcases List.mem_or_eq_of_mem_set hx with hx|rfl
 ·rw [(List.mem_replicate.1 hx).2];exact F.zlt
 ·exact hc
theorem Vh{F:FO}(V m:List Nat):inL F (F.lG V m):=F.afQ V m
theorem Ze{F:FO}{p q:List Nat}(hp:inL F p)(hq:inL F q):inL F (lg p q):=F.Yw hp hq
theorem aas{F:FO}:∀{V:List Nat}{x:Nat→Nat}{i:Nat},(∀j,x j=0)→F.kY V x i=0:=by
 intro V
 induction V with
 |nil=>intro x i _;simp [FO.kY]
 |cons v vs ih=>
  intro x i h
  simp only [FO.kY]
  rw [h,F.mul_zero,Nat.zero_xor]
  cases i with
  |zero=>rfl
  |succ i=>exact ih fun j=>by rw [h,F.Ao]
theorem ahC.uniq{F:FO}{N V A R m:List Nat}(h:ahC F N V A R)(hV:inL F V)(hn:V≠[])(ht:AA V)(hR:R.length<V.length)(hm:inL F m)(he:∀i,cf N i=F.kY V (cf m) i):A=dR m∧R=[]:=by
 have h1:∀i,F.kY V (cf (lg A m)) i=cf R i:=by
  intro i
  rw [show cf (lg A m)=fun j=>cf A j^^^cf m j from funext fun j=>Cx A m j,F.aek,←he i,h.eq i]
  generalize F.kY V (cf A) i=a
  rw [←Nat.xor_assoc,Nat.xor_self,Nat.zero_xor]
 have h2:=F.afT hV (Ze h.ia hm) hn (ht hn) fun i hi=>by rw [h1];exact NT (by omega)
 have h3:∀i,cf R i=0:=fun i=>by rw [←h1,aas];exact h2
 have h4:R=[]:=by
  apply Classical.byContradiction
  intro hne
  exact h.tr hne (h3 _)
 refine ⟨Rf h.ta (rU m) fun i=>?_,h4⟩
 have:=h2 i
 rw [Cx] at this
 rw [jV]
 calc cf A i=(cf A i^^^cf m i)^^^cf m i:=by rw [Nat.xor_assoc,Nat.xor_self,Nat.xor_zero]
  _=cf m i:=by rw [this,Nat.zero_xor]
-- shared
namespace FO
variable (F : FO)
end FO
section
variable {f : TF3} (hf : aO f = true)
end
def FV (p0:(Int×(Int×Unit))) (p1:Bool) (p2:List Int):Tre Int:=
 .mat (nN p0) fun r1=>
 .cond (!r1)
  (.ret 1)
  (.mat (p9 p0 p2) fun r2=>
  .cond (!r2)
   (.ret 2)
   (.cond (!p1)
    (.ret 2)
    (.ret 0)))
def vF (p0:(Int×(Int×Unit))) (p1:Bool) (p2:List Int):Option Int:=(FV p0 p1 p2).run some
-- more
theorem acR{f:TF3}(hf:aO f=true){L:List Nat}(h:inL (FOf f hf) L):aaF f (aW L)=true:=List.all_eq_true.2 fun x hx=>by
 obtain ⟨y,hy,rfl⟩:=List.mem_map.1 hx
 have hyq:=h y hy
 have h2:((2 ^ f.1.toNat:Nat):Int)=(2:Int) ^ f.1.toNat:=by rw [Int.natCast_pow];rfl
 rw [yg] at hyq
 rw [Ag]
 unfold Tx
 omega
theorem agB{f:TF3}(hf:aO f=true){L:List Nat}(h:inL (FOf f hf) L)(hl:L.length≤1000):vF f true (aW L)=some 0:=by
 unfold vF FV
 rw [ak (GX f),hf,Tre.aC,Bool.not_true,cond_false,ak (Bb hf _ (by rw [bG];omega)),acR hf h]
 rfl
def IZ:Env:=⟨tau,[(150,Bo),(98,xQ)],[]⟩
def UK:FnI:=fnI Try.f87 []
def EB (_:Bool) (_:(Int×(Int×Unit))) (_:Bool) (_:List Int):Int→au:=fun r=>⟨(.i r),[],[]⟩
theorem SC:∀(zp0:Bool)(p0:(Int×(Int×Unit)))(p1:Bool)(p2:List Int),bU IZ UK ⟨[(.imm true aH p0),(.imm true .bool p1),(.imm zp0 .il p2)],[]⟩=(FV p0 p1 p2).run fun r=>some (EB zp0 p0 p1 p2 r):=fun _ _ _ _=>by kernel_rfl
def UJ (av:List AV) (rs:List Root):Tre au:=
 aA av fun a0_ av0=>
 aA av0 fun a1_ av1=>
 aA av1 fun a2_ av2=>
 aK av2<|
 aK rs<|
 aD true aH a0_ fun d1=>
 aD true .bool a1_ fun d2=>
 bX .il a2_ fun z4 d3=>
 .mat (vF d1 d2 d3) fun r=>.ret (EB z4 d1 d2 d3 r)
def I4:Ctr:=fJ [] UJ
theorem SE:Contract Try.prog .none 87 I4:=aB (V:=IZ) aS (ay GY agc (ay Bc agm aG)) Try.func87 bN fun _ _ _=>aJ fun _ _=>aJ fun _ _=>aJ fun _ _=>bD<|bD<|aU fun _=>aU fun _=>iq fun _ _=>fun h=>by intros;subst_vars;exact bC (SC _ _ _ _) h
def F8:(Int×Int×Int)→Tre ((Int×Int×Int) ⊕ Int):=fun s2=>
 .cond (decide (s2.2.1>0))
  (.cond (decide (KU .i64 s2.2.1 1=1))
   (.ret (.inl (Ah .i64 s2.1 1,OH .i64 s2.2.1 1,yN .i64 s2.2.2 s2.1)))
   (.ret (.inl (Ah .i64 s2.1 1,OH .i64 s2.2.1 1,s2.2.2))))
  (.ret (.inr s2.2.2))
def XW (p0:Int) (p1:Int):Tre Int:=
 .mat (aZ F8 (p0,p1,0)) fun l1=>
 .ret l1
def RD (p0:Int) (p1:Int):Option Int:=(XW p0 p1).run some
def Dp:Env:=⟨tau,[],[]⟩
def RG:Code:=(Try.f201.body).getD .skip
def G7:(Int×Int×Int)→St:=fun x=>fA [(0,(.i x.1)),(1,(.i x.2.1)),(5,(.i x.2.2))] []
def EW:Int→Ex×St:=fun x=>(.exit 0,fA [(5,(.i x))] [])
def U8 (s:St):Tre (Ex×St):=
 aD true .n (s.tmps 0) fun d2=>
 aD true .n (s.tmps 1) fun d4=>
 aD true .n (s.tmps 5) fun d6=>
 .mat (aZ F8 (d2,d4,d6)) fun x=>.ret (EW x)
def vR:bS:=⟨([0,1,5],[]),([5],[]),U8⟩
def Jo:List (Nat×bS):=[(2,vR)]
theorem Oy:∀(x:(Int×Int×Int))(c:St→Option (Ex×St)),den Dp Jo (bF RG 0) (G7 x) (fE vR.kp vR.kx c)=(F8 x).run (fF (G7) (EW) c):=fun _ _=>by
 kernel_rfl
theorem Ti:dZ Dp Jo (bF RG 0) vR:=jf fun _ _ _=>aU fun _=>aU fun _=>aU fun _=>fun h e5 e3 e1=>gB Oy h (by subst_vars;exact bn rfl rfl ⟨e1,e3,e5,trivial⟩ trivial)
def aaZ:FnI:=fnI Try.f201 Jo
def LC (_:Int) (_:Int):Int→au:=fun r=>⟨(.i r),[],[]⟩
theorem Y7:∀(p0 p1:Int),bU Dp aaZ ⟨[(.i p0),(.i p1)],[]⟩=(XW p0 p1).run fun r=>some (LC p0 p1 r):=fun _ _=>by kernel_rfl
def aaY (av:List AV) (rs:List Root):Tre au:=
 aA av fun a0_ av0=>
 aA av0 fun a1_ av1=>
 aK av1<|
 aK rs<|
 aD true .n a0_ fun d1=>
 aD true .n a1_ fun d2=>
 .mat (RD d1 d2) fun r=>.ret (LC d1 d2 r)
def RH:Ctr:=fJ [] aaY
theorem Y8:Contract Try.prog .none 201 RH:=aB (V:=Dp) aS aG Try.func201 (dw (n:=1) fun k hk=>by
 match k,hk with
 |0,_=>exact eH (id:=2) Ti) fun _ _ _=>aJ fun _ _=>aJ fun _ _=>bD<|bD<|aU fun _=>aU fun _=>fun h=>by intros;subst_vars;exact bC (Y7 _ _) h
def Rs (p0:(Int×(Int×Unit))) (p1:Int) (p2:Int):Tre Int:=
 .mat (RD p1 p2) fun r1=>
 .mat (Na r1 p0.2.1) fun r2=>
 .ret r2
def bI (p0:(Int×(Int×Unit))) (p1:Int) (p2:Int):Option Int:=(Rs p0 p1 p2).run some
-- more
set_option maxRecDepth 100000
theorem ajN:Ml bI mulN 1 2=true:=by kernel_rfl
theorem ajO:Ml bI mulN 1 3=true:=by kernel_rfl
theorem ajP:Ml bI mulN 2 7=true:=by kernel_rfl
theorem aib:Ml bI mulN 3 11=true:=by kernel_rfl
theorem aic:Ml bI mulN 3 13=true:=by kernel_rfl
theorem aie:Ml bI mulN 4 19=true:=by kernel_rfl
theorem aif:Ml bI mulN 4 25=true:=by kernel_rfl
theorem aii:Ml bI mulN 4 31=true:=by kernel_rfl
theorem aij:Ml bI mulN 5 37=true:=by kernel_rfl
theorem aik:Ml bI mulN 5 41=true:=by kernel_rfl
theorem ail:Ml bI mulN 5 47=true:=by kernel_rfl
theorem ain:Ml bI mulN 5 55=true:=by kernel_rfl
theorem aio:Ml bI mulN 5 59=true:=by kernel_rfl
theorem aip:Ml bI mulN 5 61=true:=by kernel_rfl
theorem aiq{f:TF3}(hf:aO f=true){a b:Int}(ha:inF f a)(hb:inF f b):bI f a b=some (xE f a b):=by
 refine aj4 (fun q hq=>?_) hf ha hb
 simp only [jW,List.mem_cons,List.not_mem_nil,or_false] at hq
 rcases hq with rfl|rfl|rfl|rfl|rfl|rfl|rfl|rfl|rfl|rfl|rfl|rfl|rfl|rfl
 ·exact ajN
 ·exact ajO
 ·exact ajP
 ·exact aib
 ·exact aic
 ·exact aie
 ·exact aif
 ·exact aii
 ·exact aij
 ·exact aik
 ·exact ail
 ·exact ain
 ·exact aio
 ·exact aip
def Lj:Env:=⟨tau,[(201,RH),(200,Nb)],[]⟩
def WW:FnI:=fnI Try.f145 []
def GJ (_:(Int×(Int×Unit))) (_:Int) (_:Int):Int→au:=fun r=>⟨(.i r),[],[]⟩
theorem UM:∀(p0:(Int×(Int×Unit)))(p1 p2:Int),bU Lj WW ⟨[(.imm true aH p0),(.i p1),(.i p2)],[]⟩=(Rs p0 p1 p2).run fun r=>some (GJ p0 p1 p2 r):=fun _ _ _=>by kernel_rfl
def WV (av:List AV) (rs:List Root):Tre au:=
 aA av fun a0_ av0=>
 aA av0 fun a1_ av1=>
 aA av1 fun a2_ av2=>
 aK av2<|
 aK rs<|
 aD true aH a0_ fun d1=>
 aD true .n a1_ fun d2=>
 aD true .n a2_ fun d3=>
 .mat (bI d1 d2 d3) fun r=>.ret (GJ d1 d2 d3 r)
def qb:Ctr:=fJ [] WV
theorem rD:Contract Try.prog .none 145 qb:=aB (V:=Lj) aS (ay Y8 ajx (ay RI agi aG)) Try.func145 bN fun _ _ _=>aJ fun _ _=>aJ fun _ _=>aJ fun _ _=>bD<|bD<|aU fun _=>aU fun _=>aU fun _=>fun h=>by intros;subst_vars;exact bC (UM _ _ _) h
def kD (bg:Int) (aR:(Int×(Int×Unit))):(Int×Int)→Tre ((Int×Int) ⊕ Int):=fun s2=>
 .cond (decide (s2.2<bg))
  (.mat (bI aR s2.1 s2.1) fun r1=>
  .ret (.inl (r1,aI .i64 (s2.2+1))))
  (.ret (.inr s2.1))
def Bg (p0:(Int×(Int×Unit))) (p1:Int) (p2:Int):Tre Int:=
 .ifn (p0.1=0)<|
 .mat (aZ (kD (Int.tmod p2 p0.1) p0) (p1,0)) fun l2=>
 .ret l2
def jJ (p0:(Int×(Int×Unit))) (p1:Int) (p2:Int):Option Int:=(Bg p0 p1 p2).run some
-- more
theorem Zd{f:TF3}(hf:aO f=true){a b:Nat}(ha:a<(FOf f hf).q)(hb:b<(FOf f hf).q):bI f (a:Int) (b:Int)=some (((FOf f hf).mul a b:Nat):Int):=by
 rw [aiq hf ((aa4 hf).2 ⟨a,rfl,ha⟩) ((aa4 hf).2 ⟨b,rfl,hb⟩),agO hf ha hb]
theorem akG{f:TF3}(hf:aO f=true):f.1=(f.1.toNat:Int)∧f.1≠0∧1≤f.1.toNat∧f.1.toNat≤5:=by
 have:=jX hf
 refine ⟨by omega,by omega,by omega,by omega⟩
theorem adh{f:TF3}(hf:aO f=true){x:Nat}(hx:x<(FOf f hf).q)(k:Nat):jJ f (x:Int) (k:Int)=some (((FOf f hf).sqn k x:Nat):Int):=by
 obtain ⟨h1,h2,h3,h4⟩:=akG hf
 have hm:Int.tmod (k:Int) f.1=((k%f.1.toNat:Nat):Int):=by
  conv=>lhs;rw [h1]
  exact (Int.ofNat_tmod k f.1.toNat).symm
 have hml:k%f.1.toNat<f.1.toNat:=Nat.mod_lt _ (by omega)
 unfold jJ Bg
 rw [Tre.TP,if_neg h2,hm,ak (show aZ (kD ((k%f.1.toNat:Nat):Int) f) ((x:Int),0)=some (((FOf f hf).sqn k x:Nat):Int) from ?_),Tre.aM]
 refine nZ (fun i=>(((((FOf f hf).sqn i x:Nat):Int)),(i:Int))) (k%f.1.toNat) _ (fun i hi=>?_) ?_
 ·have hl:=(FOf f hf).Ra i hx
  unfold kD
  dsimp only
  rw [Tre.aC,decide_eq_true (by omega),cond_true,ak (Zd hf hl hl),Tre.aM,bQ (by omega),FO.ahg]
  rfl
 ·unfold kD
  dsimp only
  rw [qN,Tre.aM,aiL hf hx]
def sw:Env:=⟨tau,[(145,qb)],[]⟩
def EI:Code:=(Try.f143.body).getD .skip
def yE (bg:Int) (aR:(Int×(Int×Unit))):(Int×Int)→St:=fun x=>fA [(1,(.i x.1)),(3,(.ptr (5,0) [])),(10,(.i bg)),(11,(.i x.2))] [((5,0),some ⟨true,aH,.own,aR⟩)]
def wK (_:Int) (_:(Int×(Int×Unit))):Int→Ex×St:=fun x=>(.exit 0,fA [(1,(.i x))] [])
def KM (s:St):Tre (Ex×St):=
 aD true .n (s.tmps 1) fun d2=>
 nu (5,0) [] (s.tmps 3)<|
 aD true .n (s.tmps 10) fun d5=>
 aD true .n (s.tmps 11) fun d7=>
 dY true aH (s.roots (5,0)) fun m9 d10=>
 asM .own m9<|
 .mat (aZ (kD d5 d10) (d2,d7)) fun x=>.ret (wK d5 d10 x)
def nG:bS:=⟨([1,3,10,11],[(5,0)]),([1],[]),KM⟩
def w9:List (Nat×bS):=[(2,nG)]
theorem FX:∀(bg:Int)(aR:(Int×(Int×Unit)))(x:(Int×Int))(c:St→Option (Ex×St)),den sw w9 (bF EI 0) (yE bg aR x) (fE nG.kp nG.kx c)=(kD bg aR x).run (fF (yE bg aR) (wK bg aR) c):=fun _ _ _ _=>by
 kernel_rfl
theorem Jg:dZ sw w9 (bF EI 0) nG:=jf fun _ _ _=>aU fun _=>Ap<|aU fun _=>aU fun _=>mP fun _ _=>tM<|fun h _ e8 e6 e4 e3 e1=>gB (FX _ _) h (by subst_vars;exact bn rfl rfl ⟨e1,e3,e4,e6,trivial⟩ ⟨e8,trivial⟩)
def Qt:FnI:=fnI Try.f143 w9
def Bh (_:(Int×(Int×Unit))) (_:Int) (_:Int):Int→au:=fun r=>⟨(.i r),[],[]⟩
theorem Oj:∀(p0:(Int×(Int×Unit)))(p1 p2:Int),bU sw Qt ⟨[(.imm true aH p0),(.i p1),(.i p2)],[]⟩=(Bg p0 p1 p2).run fun r=>some (Bh p0 p1 p2 r):=fun _ _ _=>by kernel_rfl
def Qs (av:List AV) (rs:List Root):Tre au:=
 aA av fun a0_ av0=>
 aA av0 fun a1_ av1=>
 aA av1 fun a2_ av2=>
 aK av2<|
 aK rs<|
 aD true aH a0_ fun d1=>
 aD true .n a1_ fun d2=>
 aD true .n a2_ fun d3=>
 .mat (jJ d1 d2 d3) fun r=>.ret (Bh d1 d2 d3 r)
def nM:Ctr:=fJ [] Qs
theorem qI:Contract Try.prog .none 143 nM:=aB (V:=sw) aS (ay rD Us aG) Try.func143 (dw (n:=1) fun k hk=>by
 match k,hk with
 |0,_=>exact eH (id:=2) Jg) fun _ _ _=>aJ fun _ _=>aJ fun _ _=>aJ fun _ _=>bD<|bD<|aU fun _=>aU fun _=>aU fun _=>fun h=>by intros;subst_vars;exact bC (Oj _ _ _) h
def lu (cZ:Int) (fK:List Int) (jG:Int) (FM:(Int×(Int×Unit))):(Int×Int)→Tre ((Int×Int) ⊕ Int):=fun s3=>
 .cond (decide (s3.2<jG))
  (.ite (0≤s3.2∧s3.2<(fK.length:Int))<|
  .mat (fK[s3.2.toNat]?) fun x1=>
  .mat (jJ FM cZ s3.2) fun r2=>
  .mat (bI FM x1 r2) fun r3=>
  .ret (.inl (yN .i64 s3.1 r3,aI .i64 (s3.2+1))))
  (.ret (.inr s3.1))
def D6 (p0:(Int×(Int×Unit))) (p1:List Int) (p2:Int):Tre Int:=
 .mat (aZ (lu p2 p1 (p1.length:Int) p0) (0,0)) fun l4=>
 .ret l4
def kH (p0:(Int×(Int×Unit))) (p1:List Int) (p2:Int):Option Int:=(D6 p0 p1 p2).run some
-- more
theorem aiu(F:FO):∀(p:List Nat)(c x:Nat),F.lp (p++[c]) x=F.lp p x^^^F.mul c (F.sqn p.length x):=by
 intro p
 induction p with
 |nil=>intro c x;simp [FO.lp,FO.sqn]
 |cons a p ih=>
  intro c x
  simp only [List.cons_append,FO.lp,List.length_cons,FO.sqn]
  rw [ih,Nat.xor_assoc]
theorem QJ{f:TF3}(hf:aO f=true){P:List Nat}(hP:inL (FOf f hf) P)(hl:P.length≤1000){x:Nat}(hx:x<(FOf f hf).q):kH f (aW P) (x:Int)=some (((FOf f hf).lp P x:Nat):Int):=by
 unfold kH D6
 rw [ak (show aZ (lu (x:Int) (aW P) ((aW P).length:Int) f) (0,0)=some (((FOf f hf).lp P x:Nat):Int) from ?_),Tre.aM]
 refine nZ (fun i=>((((FOf f hf).lp (P.take i) x:Nat):Int),(i:Int))) P.length _ (fun i hi=>?_) ?_
 ·have hs:=(FOf f hf).Ra i hx
  have hti:(P.take i).length=i:=by rw [List.length_take];omega
  unfold lu
  dsimp only
  rw [oW (jd (oG hi)),ak (adh hf hx i),ak (Zd hf (Cy hP i) hs),Tre.aM,bQ (by omega),adG hf ((FOf f hf).abr _ _) ((FOf f hf).lt _ _),List.take_add_one,oG hi,Option.toList_some,aiu,hti]
 ·unfold lu
  dsimp only
  rw [bG,qN,Tre.aM,List.take_length]
def uw:Env:=⟨tau,[(143,nM),(145,qb)],[]⟩
def GQ:Code:=(Try.f93.body).getD .skip
def zN (uS:Bool) (cZ:Int) (fK:List Int) (jG:Int) (FM:(Int×(Int×Unit))):(Int×Int)→St:=fun x=>fA [(2,(.i cZ)),(3,(.ptr (5,0) [])),(7,(.i x.1)),(10,(.imm uS .il fK)),(11,(.i jG)),(12,(.i x.2))] [((5,0),some ⟨true,aH,.own,FM⟩)]
def yF (_:Bool) (_:Int) (_:List Int) (_:Int) (_:(Int×(Int×Unit))):Int→Ex×St:=fun x=>(.exit 0,fA [(7,(.i x))] [])
def MS (s:St):Tre (Ex×St):=
 aD true .n (s.tmps 2) fun d2=>
 nu (5,0) [] (s.tmps 3)<|
 aD true .n (s.tmps 7) fun d5=>
 bX .il (s.tmps 10) fun z8 d7=>
 aD true .n (s.tmps 11) fun d10=>
 aD true .n (s.tmps 12) fun d12=>
 dY true aH (s.roots (5,0)) fun m14 d15=>
 asM .own m14<|
 .mat (aZ (lu d2 d7 d10 d15) (d5,d12)) fun x=>.ret (yF z8 d2 d7 d10 d15 x)
def oM:bS:=⟨([2,3,7,10,11,12],[(5,0)]),([7],[]),MS⟩
def zq:List (Nat×bS):=[(3,oM)]
theorem H7:∀(uS:Bool)(cZ:Int)(fK:List Int)(jG:Int)(FM:(Int×(Int×Unit)))(x:(Int×Int))(c:St→Option (Ex×St)),den uw zq (bF GQ 0) (zN uS cZ fK jG FM x) (fE oM.kp oM.kx c)=(lu cZ fK jG FM x).run (fF (zN uS cZ fK jG FM) (yF uS cZ fK jG FM) c):=fun _ _ _ _ _ _ _=>by
 kernel_rfl
theorem KN:dZ uw zq (bF GQ 0) oM:=jf fun _ _ _=>aU fun _=>Ap<|aU fun _=>iq fun _ _=>aU fun _=>aU fun _=>mP fun _ _=>tM<|fun h _ e13 e11 e9 e6 e4 e3 e1=>gB (H7 _ _ _ _ _) h (by subst_vars;exact bn rfl rfl ⟨e1,e3,e4,e6,e9,e11,trivial⟩ ⟨e13,trivial⟩)
def SQ:FnI:=fnI Try.f93 zq
def Da (_:Bool) (_:(Int×(Int×Unit))) (_:List Int) (_:Int):Int→au:=fun r=>⟨(.i r),[],[]⟩
theorem Qu:∀(zp0:Bool)(p0:(Int×(Int×Unit)))(p1:List Int)(p2:Int),bU uw SQ ⟨[(.imm true aH p0),(.imm zp0 .il p1),(.i p2)],[]⟩=(D6 p0 p1 p2).run fun r=>some (Da zp0 p0 p1 p2 r):=fun _ _ _ _=>by kernel_rfl
def SN (av:List AV) (rs:List Root):Tre au:=
 aA av fun a0_ av0=>
 aA av0 fun a1_ av1=>
 aA av1 fun a2_ av2=>
 aK av2<|
 aK rs<|
 aD true aH a0_ fun d1=>
 bX .il a1_ fun z3 d2=>
 aD true .n a2_ fun d4=>
 .mat (kH d1 d2 d4) fun r=>.ret (Da z3 d1 d2 d4 r)
def uy:Ctr:=fJ [] SN
theorem xg:Contract Try.prog .none 93 uy:=aB (V:=uw) aS (ay qI YP (ay rD Us aG)) Try.func93 (dw (n:=1) fun k hk=>by
 match k,hk with
 |0,_=>exact eH (id:=3) KN) fun _ _ _=>aJ fun _ _=>aJ fun _ _=>aJ fun _ _=>bD<|bD<|aU fun _=>iq fun _ _=>aU fun _=>fun h=>by intros;subst_vars;exact bC (Qu _ _ _ _) h
def eY:((List Int) ⊕ (Nat×Nat×(List Int)))→Tre (((List Int) ⊕ (Nat×Nat×(List Int))) ⊕ ((List Int) ⊕ (Nat×Nat×(List Int))))
 |.inl s1=>
  .cond (decide ((s1.length:Int)>0))
   (let v1:=aI .i64 ((s1.length:Int)-1)
   .ite (0≤v1∧v1<(s1.length:Int))<|
   .mat (s1[v1.toNat]?) fun x2=>
   .cond (decide (x2=0))
    (.ite (0≤(0:Int)∧(0:Int)≤v1∧v1≤(s1.length:Int))<|
    .ret (.inl (.inr (0,(v1-0).toNat,s1))))
    (.ret (.inr (.inl s1))))
   (.ret (.inr (.inl s1)))
 |.inr s1=>
  .cond (decide ((s1.2.1:Int)>0))
   (let v3:=aI .i64 ((s1.2.1:Int)-1)
   .ite (0≤v3∧v3<(s1.2.1:Int))<|
   .mat (s1.2.2[s1.1+v3.toNat]?) fun x4=>
   .cond (decide (x4=0))
    (.ite (0≤(0:Int)∧(0:Int)≤v3∧v3≤(s1.2.1:Int))<|
    .ret (.inl (.inr (s1.1+0,(v3-0).toNat,s1.2.2))))
    (.ret (.inr (.inr (s1.1,s1.2.1,s1.2.2)))))
   (.ret (.inr (.inr (s1.1,s1.2.1,s1.2.2))))
def Js (p0:List Int):Tre ((List Int) ⊕ (Nat×Nat×(List Int))):=
 .mat (aZ eY (.inl p0)) fun l5=>
 .alt l5
  (fun a6=>
   .ret (.inl a6))
  (fun b7=>
   .ret (.inr (b7.1,b7.2.1,b7.2.2)))
def tZ (p0:List Int):Option ((List Int) ⊕ (Nat×Nat×(List Int))):=(Js p0).run some
-- more
def akF:(List Int) ⊕ (Nat×Nat×(List Int))→List Int
 |.inl a=>a
 |.inr b=>(b.2.2.drop b.1).take b.2.1
def st4(l:List Nat)(n:Nat):(List Int) ⊕ (Nat×Nat×(List Int)):=if n=l.length then .inl (aW l) else .inr (0,n,aW l)
theorem X8{l:List Nat}(hl2:l.length≤1000):∃r,tZ (aW l)=some r∧akF r=aW (dR l):=by
 have htl:=sV l
 have hlen:=bG l
 have hx:∀n,0<n→n≤l.length→(aW l)[n-1]?=some (cf l (n-1):Int):=fun n h1 h2=>jd (oG (by omega))
 have hstep:∀n,0<n→n≤l.length→cf l (n-1)=0→(eY (if n=l.length then .inl (aW l) else .inr (0,n,aW l))).run some=some (.inl (.inr (0,n-1,aW l))):=by
  intro n h1 h2 h0
  by_cases hn:n=l.length
  ·have hm:aI .i64 (((aW l).length:Int)-1)=((n-1:Nat):Int):=by rw [hlen,←hn,mU (by omega) (by omega)]
   rw [if_pos hn]
   unfold eY
   dsimp only
   rw [Tre.aC,decide_eq_true (by omega),cond_true,hm,lK (hx n h1 h2),Tre.aC,decide_eq_true (by omega),cond_true,Tre.run_ite,if_pos (by omega),Tre.aM]
   rw [show (((n-1:Nat):Int)-0).toNat=n-1 by omega]
  ·have hm:aI .i64 ((n:Int)-1)=((n-1:Nat):Int):=mU (by omega) (by omega)
   rw [if_neg hn]
   unfold eY
   dsimp only
   rw [Tre.aC,decide_eq_true (by omega),cond_true,hm,Tre.run_ite,if_pos (by omega),Int.toNat_natCast,Nat.zero_add,ak (hx n h1 h2),Tre.aC,decide_eq_true (by omega),cond_true,Tre.run_ite,if_pos (by omega),Tre.aM]
   rw [show (((n-1:Nat):Int)-0).toNat=n-1 by omega]
 have hend:∀n,n≤l.length→(n=0∨cf l (n-1)≠0)→∃r,(eY (if n=l.length then .inl (aW l) else .inr (0,n,aW l))).run some=some (.inr r)∧r=if n=l.length then .inl (aW l) else .inr (0,n,aW l):=by
  intro n h2 h0
  refine ⟨_,?_,rfl⟩
  by_cases hn:n=l.length
  ·have hm:0<n→aI .i64 (((aW l).length:Int)-1)=((n-1:Nat):Int):=fun h1=>by rw [hlen,←hn,mU (by omega) (by omega)]
   rw [if_pos hn]
   unfold eY
   dsimp only
   by_cases h1:n=0
   ·rw [Tre.aC,decide_eq_false (by omega),cond_false,Tre.aM]
   ·have h0:=h0.resolve_left h1
    rw [Tre.aC,decide_eq_true (by omega),cond_true,hm (by omega),lK (hx n (by omega) h2),Tre.aC,decide_eq_false (by omega),cond_false,Tre.aM]
  ·rw [if_neg hn]
   unfold eY
   dsimp only
   by_cases h1:n=0
   ·rw [Tre.aC,decide_eq_false (by omega),cond_false,Tre.aM]
   ·have hm:aI .i64 ((n:Int)-1)=((n-1:Nat):Int):=mU (by omega) (by omega)
    have h0:=h0.resolve_left h1
    rw [Tre.aC,decide_eq_true (by omega),cond_true,hm,Tre.run_ite,if_pos (by omega),Int.toNat_natCast,Nat.zero_add,ak (hx n (by omega) h2),Tre.aC,decide_eq_false (by omega),cond_false,Tre.aM]
 obtain ⟨r,hr1,hr2⟩:=hend (dR l).length htl (PO l)
 refine ⟨r,?_,?_⟩
 ·unfold tZ Js
  have hl:aZ eY (.inl (aW l))=some r:=by
   have h0:(.inl (aW l):(List Int) ⊕ (Nat×Nat×(List Int)))=st4 l (l.length-0):=by simp [st4]
   rw [h0]
   refine nZ (fun i=>st4 l (l.length-i)) (l.length-(dR l).length) _ (fun i hi=>?_) ?_
   ·unfold st4
    rw [hstep (l.length-i) (by omega) (by omega) (FD (by omega))]
    rw [if_neg (show ¬l.length-(i+1)=l.length by omega),Nat.sub_sub]
   ·rw [show l.length-(l.length-(dR l).length)=(dR l).length by omega];exact hr1
  rw [ak hl]
  cases r<;>rfl
 ·rw [hr2]
  split
  ·rename_i h
   show aW l=_
   have:=ZV l
   rw [h,List.take_length] at this
   rw [←this]
  ·show ((aW l).drop 0).take (dR l).length=_
   rw [List.drop_zero,←QI,ZV]
def xU:Env:=⟨tau,[],[]⟩
def LG:Code:=(Try.f207.body).getD .skip
def qL:((List Int) ⊕ (Nat×Nat×(List Int)))→St
 |.inl x=>fA [(0,(.ref (0,0) []))] [((0,0),some ⟨false,.il,.own,x⟩)]
 |.inr x=>fA [(0,(.slc (0,0) [] x.1 x.2.1))] [((0,0),some ⟨false,.il,.own,x.2.2⟩)]
def iJ:((List Int) ⊕ (Nat×Nat×(List Int)))→Ex×St
 |.inl x=>(.exit 0,fA [(0,(.ref (0,0) []))] [((0,0),some ⟨false,.il,.own,x⟩)])
 |.inr x=>(.exit 0,fA [(0,(.slc (0,0) [] x.1 x.2.1))] [((0,0),some ⟨false,.il,.own,x.2.2⟩)])
def EX (s:St):Tre (Ex×St):=
 cond (AV.isRef (s.tmps 0))
 (nJ (0,0) [] (s.tmps 0)<|
 dY false .il (s.roots (0,0)) fun m3 d4=>
 asM .own m3<|
 .mat (aZ eY (.inl d4)) fun x=>.alt x (fun a0=>.ret (iJ (.inl a0))) (fun b0=>.ret (iJ (.inr b0))))
 (afI (0,0) [] (s.tmps 0) fun i2 n3=>
 dY false .il (s.roots (0,0)) fun m5 d6=>
 asM .own m5<|
 .mat (aZ eY (.inr (i2,n3,d6))) fun x=>.alt x (fun a0=>.ret (iJ (.inl a0))) (fun b0=>.ret (iJ (.inr b0))))
def nO:bS:=⟨([0],[(0,0)]),([0],[(0,0)]),EX⟩
def Ec:List (Nat×bS):=[(1,nO)]
theorem zQ:∀(x:((List Int) ⊕ (Nat×Nat×(List Int))))(c:St→Option (Ex×St)),den xU Ec (bF LG 0) (qL x) (fE nO.kp nO.kx c)=(eY x).run (fF (qL) (iJ) c):=fun x _=>by
 rcases x with x|x<;>kernel_rfl
theorem OA:dZ xU Ec (bF LG 0) nO:=mh fun s e s' h=>by
 generalize hs:restrict nO.kp s=s1 at h
 have h:(EX s1).run some=some (e,s'):=h
 cases ht0:AV.isRef (s1.tmps 0) with
 |true=>
  have h:=ahp ht0 h
  obtain ⟨e1,h_0⟩:=uG h
  obtain ⟨m3,d4,e2,h_1⟩:=gY h_0
  obtain ⟨rfl,h_2⟩:=nI h_1
  obtain ⟨y,hy,hz⟩:=nQ h_2
  refine ⟨_,_,qL,iJ,eY,(.inl d4),y,?_,hy,?_,zQ⟩
  ·subst hs;exact bn (T:=[(0,(.ref (0,0) []))]) (U:=[((0,0),some ⟨false,.il,.own,d4⟩)]) rfl rfl ⟨e1,trivial⟩ ⟨e2,trivial⟩
  ·rcases y with x|x<;>exact Option.some.inj hz
 |false=>
  have h:=afn ht0 h
  obtain ⟨i2,n3,e1,h_0⟩:=acn h
  obtain ⟨m5,d6,e4,h_1⟩:=gY h_0
  obtain ⟨rfl,h_2⟩:=nI h_1
  obtain ⟨y,hy,hz⟩:=nQ h_2
  refine ⟨_,_,qL,iJ,eY,(.inr (i2,n3,d6)),y,?_,hy,?_,zQ⟩
  ·subst hs;exact bn (T:=[(0,(.slc (0,0) [] i2 n3))]) (U:=[((0,0),some ⟨false,.il,.own,d6⟩)]) rfl rfl ⟨e1,trivial⟩ ⟨e4,trivial⟩
  ·rcases y with x|x<;>exact Option.some.inj hz
def Xc:FnI:=fnI Try.f207 Ec
def zx (_:List Int):((List Int) ⊕ (Nat×Nat×(List Int)))→au
 |.inl r=>⟨(.ref (0,0) []),[⟨false,.il,.own,r⟩],[]⟩
 |.inr r=>⟨(.slc (0,0) [] r.1 r.2.1),[⟨false,.il,.own,r.2.2⟩],[]⟩
theorem Vb:∀(p0:List Int),bU xU Xc ⟨[(.ref (0,0) [])],[⟨false,.il,.own,p0⟩]⟩=(Js p0).run fun r=>some (zx p0 r):=fun _=>by kernel_rfl
def Xb (av:List AV) (rs:List Root):Tre au:=
 aA av fun a0_ av0=>
 aK av0<|
 aA rs fun r0_ rs0=>
 aK rs0<|
 nJ (0,0) [] a0_<|
 uH false .il r0_ fun m1 d2=>
 asM .own m1<|
 .mat (tZ d2) fun r=>.alt r (fun a0=>.ret (zx d2 (.inl a0))) (fun b0=>.ret (zx d2 (.inr b0)))
def Ed:Ctr:=fJ [0] Xb
theorem Jt:Contract Try.prog .none 207 Ed:=aB (V:=xU) aS aG Try.func207 (dw (n:=1) fun k hk=>by
 match k,hk with
 |0,_=>exact eH (id:=1) OA) fun _ _ _=>aJ fun _ _=>bD<|aJ fun _ _=>bD<|J9<|tRt fun _ _=>tM<|fun h=>by intros;subst_vars;exact Uw (Vb _) h (by rintro (x|x)<;>rfl)
def jI (FP:Int) (IV:Int) (FQ:List Int) (IW:Int) (AQ:(Int×(Int×Unit))):(Int×(List Int))→Tre ((Int×(List Int)) ⊕ (List Int)):=fun s8=>
 .cond (decide (s8.1<IW))
  (.ite (0≤s8.1∧s8.1<(FQ.length:Int))<|
  .mat (FQ[s8.1.toNat]?) fun x3=>
  let v4:=aI .i64 (FP+s8.1)
  .ite (0≤v4∧v4<(s8.2.length:Int))<|
  .mat (s8.2[v4.toNat]?) fun x5=>
  .mat (jJ AQ x3 FP) fun r6=>
  .mat (bI AQ IV r6) fun r7=>
  .ite (0≤v4∧v4<(s8.2.length:Int))<|
  .mat (s8.2[v4.toNat]?) fun _=>
  let v9:=s8.2.set v4.toNat (yN .i64 x5 r7)
  .ret (.inl (aI .i64 (s8.1+1),v9)))
  (.ret (.inr s8.2))
def jH (qj:List Int) (ql:List Int) (IQ:Int) (oI:(Int×(Int×Unit))):(Int×(List Int))→Tre ((Int×(List Int)) ⊕ (List Int)):=fun s5=>
 .cond (decide (s5.1<IQ))
  (.ite (0≤s5.1∧s5.1<(ql.length:Int))<|
  .mat (ql[s5.1.toNat]?) fun x2=>
  .mat (aZ (jI s5.1 x2 qj (qj.length:Int) oI) (0,s5.2)) fun l10=>
  .ret (.inl (aI .i64 (s5.1+1),l10)))
  (.ret (.inr s5.2))
def ze (p0:(Int×(Int×Unit))) (p1:List Int) (p2:List Int):Tre (List Int):=
 .cond (decide ((p1.length:Int)=0))
  (.ret [])
  (.cond (decide ((p2.length:Int)=0))
   (.ret [])
   (let v1:=aI .i64 ((p1.length:Int)+(p2.length:Int))
   .ite ((.n:K)=.n∧0≤aI .i64 (v1-1)∧aI .i64 (v1-1)=aI .i64 (v1-1)∧aI .i64 (v1-1)*(8:Nat)≤140737488355328∧1≤8)<|
   .mat (aZ (jH p2 p1 (p1.length:Int) p0) (0,List.replicate (aI .i64 (v1-1)).toNat (0:Int))) fun l11=>
   .mat (tZ l11) fun r12=>
   .alt r12
    (fun a13=>
     .ret a13)
    (fun b14=>
     .ret ((b14.2.2.drop b14.1).take b14.2.1))))
def iY (p0:(Int×(Int×Unit))) (p1:List Int) (p2:List Int):Option (List Int):=(ze p0 p1 p2).run some
-- more
theorem ahP(F:FO):∀(V:List Nat)(x:Nat→Nat)(i:Nat),(∀i,x i=0)→F.kY V x i=0:=by
 intro V
 induction V with
 |nil=>intro x i _;simp [FO.kY]
 |cons v vs ih=>
  intro x i hx
  simp only [FO.kY]
  rw [hx,F.mul_zero,Nat.zero_xor]
  cases i with
  |zero=>rfl
  |succ i=>exact ih _ i fun j=>by rw [hx,F.Ao]
theorem ahQ{f:TF3}(hf:aO f=true){A Y:List Nat}(hA:inL (FOf f hf) A)(hY:inL (FOf f hf) Y){i:Nat}(hl:i+Y.length≤A.length){j:Nat}(hj:j<Y.length) :
  (aW (lg A (List.replicate i 0++Y.take j)))[i+j]?=some (cf A (i+j):Int)∧yN .i64 (cf A (i+j):Int) (cf Y j:Int)=((cf A (i+j)^^^cf Y j:Nat):Int) ∧
  (aW (lg A (List.replicate i 0++Y.take j))).set (i+j) (((cf A (i+j)^^^cf Y j:Nat):Int))=aW (lg A (List.replicate i 0++Y.take (j+1))):=by
 have hti:(List.replicate i 0++Y.take j).length=i+j:=by rw [List.length_append,List.length_replicate,List.length_take];omega
 obtain ⟨h1,h2⟩:=aad (List.replicate i 0++Y.take j) A (cf Y j) (by omega)
 rw [hti] at h1 h2
 refine ⟨jd h1,adG hf (Cy hA _) (Cy hY j),?_⟩
 rw [←OD,h2,List.take_add_one,oG hj,List.append_assoc];rfl
theorem ahF(A:List Nat)(i:Nat)(h:i≤A.length):lg A (List.replicate i 0)=A:=afK (adN (by rw [List.length_replicate];exact h)) fun s=>by rw [Cx,aap,Nat.xor_zero]
theorem aiB(F:FO)(i c:Nat)(q:List Nat):inL F (F.Xm i c q):=by
 intro x hx
 obtain ⟨d,_,rfl⟩:=List.mem_map.1 hx
 exact F.lt _ _
theorem aiA(F:FO){i c:Nat}{q:List Nat}(j:Nat):cf (F.Xm i c q) j=F.mul c (F.sqn i (cf q j)):=by
 unfold FO.Xm
 rw [YG (by rw [F.abZ,F.mul_zero])]
theorem RL{f:TF3}(hf:aO f=true){P Q:List Nat}(hP:inL (FOf f hf) P)(hQ:inL (FOf f hf) Q)(hp:P.length≤400)(hq:Q.length≤400):iY f (aW P) (aW Q)=some (aW (dR ((FOf f hf).lG P Q))):=by
 unfold iY ze
 rw [Tre.aC,bG,bG]
 by_cases h1:P=[]
 ·subst h1;rfl
 have hpl:0<P.length:=List.length_pos_iff.2 h1
 rw [decide_eq_false (by omega),cond_false,Tre.aC]
 by_cases h2:Q=[]
 ·subst h2
  rw [decide_eq_true (show ((([]:List Nat).length:Nat):Int)=0 from rfl),cond_true,Tre.aM,afo fun i=>by rw [FO.Iw,ahP _ _ _ _ AL]]
  rfl
 have hql:0<Q.length:=List.length_pos_iff.2 h2
 have hw1:aI .i64 ((P.length:Int)+(Q.length:Int))=((P.length+Q.length:Nat):Int):=by rw [jK (by omega) (by omega)];omega
 have hw2:aI .i64 (((P.length+Q.length:Nat):Int)-1)=((P.length+Q.length-1:Nat):Int):=mU (by omega) (by omega)
 have holen:=(FOf f hf).agU P Q h2
 have hoin:=(FOf f hf).aiy P Q
 obtain ⟨r,hr1,hr2⟩:=X8 (l:=(FOf f hf).JB P Q P.length) (by rw [holen _ (Nat.le_refl _)];omega)
 rw [decide_eq_false (by omega),cond_false]
 dsimp only
 rw [hw1,hw2,Tre.run_ite,if_pos ⟨rfl,by omega,rfl,by omega,by omega⟩,Int.toNat_natCast,←Nc]
 rw [ak (show aZ (jH (aW Q) (aW P) (P.length:Int) f) (0,aW (List.replicate (P.length+Q.length-1) 0))=some (aW ((FOf f hf).JB P Q P.length)) from ?_),ak hr1]
 ·rw [←(FOf f hf).ae1,←hr2]
  cases r<;>rfl
 refine nZ (fun i=>((i:Int),aW ((FOf f hf).JB P Q i))) P.length _ (fun i hi=>?_) ?_
 ·have hpi:=jd (oG hi)
  have hplen:(P.length:Int)=((aW P).length:Int):=by rw [bG]
  have hrl:((FOf f hf).Xm i (cf P i) Q).length=Q.length:=by unfold FO.Xm;rw [List.length_map]
  unfold jH
  dsimp only
  rw [hplen,oW hpi,bG]
  rw [ak (show aZ (jI (i:Int) (cf P i:Int) (aW Q) (Q.length:Int) f) (0,aW ((FOf f hf).JB P Q i))=some (aW ((FOf f hf).JB P Q (i+1))) from ?_),Tre.aM,bQ (by omega)]
  have h0:(FOf f hf).JB P Q i=lg ((FOf f hf).JB P Q i) (List.replicate i 0++((FOf f hf).Xm i (cf P i) Q).take 0):=by rw [List.take_zero,List.append_nil,ahF _ _ (by rw [holen _ (by omega)];omega)]
  conv=>lhs;rw [h0]
  refine nZ (fun j=>((j:Int),aW (lg ((FOf f hf).JB P Q i) (List.replicate i 0++((FOf f hf).Xm i (cf P i) Q).take j)))) Q.length _ (fun j hj=>?_) ?_
  ·obtain ⟨c1,c2,c3⟩:=ahQ hf (hoin i) (aiB _ i (cf P i) Q) (i:=i) (by rw [holen _ (by omega),hrl];omega) (j:=j) (by omega)
   have hqlen:(Q.length:Int)=((aW Q).length:Int):=by rw [bG]
   have hij:aI .i64 ((i:Int)+(j:Int))=((i+j:Nat):Int):=by rw [jK (by omega) (by omega)];omega
   have hqj:=Cy hQ j
   unfold jI
   dsimp only
   rw [hqlen,oW (jd (oG hj)),hij,lK c1,ak (adh hf hqj i),ak (Zd hf (Cy hP i) ((FOf f hf).Ra i hqj)),lK c1,←aiA,c2,Int.toNat_natCast,c3,Tre.aM,bQ (by omega)]
  ·unfold jI
   dsimp only
   rw [qN,Tre.aM,List.take_of_length_le (by omega)]
   rfl
 ·unfold jH
  dsimp only
  rw [qN,Tre.aM]
def kC:Env:=⟨tau,[(143,nM),(145,qb),(207,Ed)],[]⟩
def qE:Code:=(Try.f151.body).getD .skip
def wI (adI:Bool) (adJ:Bool) (ahB:Bool) (MC:List Int) (FP:Int) (IV:Int) (ME:List Int) (MF:Int) (MG:Int) (FQ:List Int) (IW:Int) (AQ:(Int×(Int×Unit))):(Int×(List Int))→St:=fun x=>fA [(2,(.imm adI .il MC)),(3,(.ptr (5,0) [])),(7,(.ref (9,0) [])),(8,(.i FP)),(9,(.i IV)),(27,(.imm adJ .il ME)),(28,(.i MF)),(29,(.i MG)),(34,(.imm ahB .il FQ)),(35,(.i IW)),(36,(.i x.1))] [((5,0),some ⟨true,aH,.own,AQ⟩),((9,0),some ⟨false,.il,.own,x.2⟩)]
def vI (adI:Bool) (adJ:Bool) (_:Bool) (MC:List Int) (_:Int) (_:Int) (ME:List Int) (MF:Int) (MG:Int) (_:List Int) (_:Int) (AQ:(Int×(Int×Unit))):(List Int)→Ex×St:=fun x=>(.exit 2,fA [(2,(.imm adI .il MC)),(3,(.ptr (5,0) [])),(7,(.ref (9,0) [])),(27,(.imm adJ .il ME)),(28,(.i MF)),(29,(.i MG))] [((5,0),some ⟨true,aH,.own,AQ⟩),((9,0),some ⟨false,.il,.own,x⟩)])
def I6 (s:St):Tre (Ex×St):=
 bX .il (s.tmps 2) fun z3 d2=>
 nu (5,0) [] (s.tmps 3)<|
 nJ (9,0) [] (s.tmps 7)<|
 aD true .n (s.tmps 8) fun d7=>
 aD true .n (s.tmps 9) fun d9=>
 bX .il (s.tmps 27) fun z12 d11=>
 aD true .n (s.tmps 28) fun d14=>
 aD true .n (s.tmps 29) fun d16=>
 bX .il (s.tmps 34) fun z19 d18=>
 aD true .n (s.tmps 35) fun d21=>
 aD true .n (s.tmps 36) fun d23=>
 dY true aH (s.roots (5,0)) fun m25 d26=>
 asM .own m25<|
 dY false .il (s.roots (9,0)) fun m28 d29=>
 asM .own m28<|
 .mat (aZ (jI d7 d9 d18 d21 d26) (d23,d29)) fun x=>.ret (vI z3 z12 z19 d2 d7 d9 d11 d14 d16 d18 d21 d26 x)
def mF:bS:=⟨([2,3,7,8,9,27,28,29,34,35,36],[(5,0),(9,0)]),([2,3,7,27,28,29],[(5,0),(9,0)]),I6⟩
def wH (ahy:Bool) (ahz:Bool) (qj:List Int) (ql:List Int) (IQ:Int) (oI:(Int×(Int×Unit))):(Int×(List Int))→St:=fun x=>fA [(2,(.imm ahy .il qj)),(3,(.ptr (5,0) [])),(7,(.ref (9,0) [])),(27,(.imm ahz .il ql)),(28,(.i IQ)),(29,(.i x.1))] [((5,0),some ⟨true,aH,.own,oI⟩),((9,0),some ⟨false,.il,.own,x.2⟩)]
def vH (_:Bool) (_:Bool) (_:List Int) (_:List Int) (_:Int) (_:(Int×(Int×Unit))):(List Int)→Ex×St:=fun x=>(.exit 0,fA [(7,(.ref (9,0) []))] [((9,0),some ⟨false,.il,.own,x⟩)])
def I5 (s:St):Tre (Ex×St):=
 bX .il (s.tmps 2) fun z3 d2=>
 nu (5,0) [] (s.tmps 3)<|
 nJ (9,0) [] (s.tmps 7)<|
 bX .il (s.tmps 27) fun z8 d7=>
 aD true .n (s.tmps 28) fun d10=>
 aD true .n (s.tmps 29) fun d12=>
 dY true aH (s.roots (5,0)) fun m14 d15=>
 asM .own m14<|
 dY false .il (s.roots (9,0)) fun m17 d18=>
 asM .own m17<|
 .mat (aZ (jH d2 d7 d10 d15) (d12,d18)) fun x=>.ret (vH z3 z8 d2 d7 d10 d15 x)
def mE:bS:=⟨([2,3,7,27,28,29],[(5,0),(9,0)]),([7],[(9,0)]),I5⟩
def mD:List (Nat×bS):=[(8,mF),(5,mE)]
theorem ED:∀(adI adJ ahB:Bool)(MC:List Int)(FP IV:Int)(ME:List Int)(MF MG:Int)(FQ:List Int)(IW:Int)(AQ:(Int×(Int×Unit)))(x:(Int×(List Int)))(c:St→Option (Ex×St)),den kC mD (bF qE 1) (wI adI adJ ahB MC FP IV ME MF MG FQ IW AQ x) (fE mF.kp mF.kx c)=(jI FP IV FQ IW AQ x).run (fF (wI adI adJ ahB MC FP IV ME MF MG FQ IW AQ) (vI adI adJ ahB MC FP IV ME MF MG FQ IW AQ) c):=fun _ _ _ _ _ _ _ _ _ _ _ _ _ _=>by
 kernel_rfl
theorem Hz:dZ kC mD (bF qE 1) mF:=jf fun _ _ _=>iq fun _ _=>Ap<|J9<|aU fun _=>aU fun _=>iq fun _ _=>aU fun _=>aU fun _=>iq fun _ _=>aU fun _=>aU fun _=>mP fun _ _=>tM<|mP fun _ _=>tM<|fun h _ e27 _ e24 e22 e20 e17 e15 e13 e10 e8 e6 e5 e4 e1=>gB (ED _ _ _ _ _ _ _ _ _ _ _ _) h (by subst_vars;exact bn rfl rfl ⟨e1,e4,e5,e6,e8,e10,e13,e15,e17,e20,e22,trivial⟩ ⟨e24,e27,trivial⟩)
theorem EC:∀(ahy ahz:Bool)(qj ql:List Int)(IQ:Int)(oI:(Int×(Int×Unit)))(x:(Int×(List Int)))(c:St→Option (Ex×St)),den kC mD (bF qE 0) (wH ahy ahz qj ql IQ oI x) (fE mE.kp mE.kx c)=(jH qj ql IQ oI x).run (fF (wH ahy ahz qj ql IQ oI) (vH ahy ahz qj ql IQ oI) c):=fun _ _ _ _ _ _ _ _=>by
 kernel_rfl
theorem Hy:dZ kC mD (bF qE 0) mE:=jf fun _ _ _=>iq fun _ _=>Ap<|J9<|iq fun _ _=>aU fun _=>aU fun _=>mP fun _ _=>tM<|mP fun _ _=>tM<|fun h _ e16 _ e13 e11 e9 e6 e5 e4 e1=>gB (EC _ _ _ _ _ _) h (by subst_vars;exact bn rfl rfl ⟨e1,e4,e5,e6,e9,e11,trivial⟩ ⟨e13,e16,trivial⟩)
def Oa:FnI:=fnI Try.f151 mD
def zJ (_:Bool) (_:Bool) (_:(Int×(Int×Unit))) (_:List Int) (_:List Int):(List Int)→au:=fun r=>⟨(.ref (1,0) []),[],[⟨false,.il,.own,r⟩]⟩
theorem MJ:∀(zp0 zp1:Bool)(p0:(Int×(Int×Unit)))(p1 p2:List Int),bU kC Oa ⟨[(.imm true aH p0),(.imm zp0 .il p1),(.imm zp1 .il p2)],[]⟩=(ze p0 p1 p2).run fun r=>some (zJ zp0 zp1 p0 p1 p2 r):=fun _ _ _ _ _=>by kernel_rfl
def N9 (av:List AV) (rs:List Root):Tre au:=
 aA av fun a0_ av0=>
 aA av0 fun a1_ av1=>
 aA av1 fun a2_ av2=>
 aK av2<|
 aK rs<|
 aD true aH a0_ fun d1=>
 bX .il a1_ fun z3 d2=>
 bX .il a2_ fun z5 d4=>
 .mat (iY d1 d2 d4) fun r=>.ret (zJ z3 z5 d1 d2 d4 r)
def vG:Ctr:=fJ [] N9
theorem A8:Contract Try.prog .none 151 vG:=aB (V:=kC) aS (ay qI YP (ay rD Us (ay Jt agj aG))) Try.func151 (dw (n:=2) fun k hk=>by
 match k,hk with
 |0,_=>exact eH (id:=5) Hy
 |1,_=>exact eH (id:=8) Hz) fun _ _ _=>aJ fun _ _=>aJ fun _ _=>aJ fun _ _=>bD<|bD<|aU fun _=>iq fun _ _=>iq fun _ _=>fun h=>by intros;subst_vars;exact bC (MJ _ _ _ _ _) h
def gJ (cZ:List Int) (IK:Int) (jG:(Int×(Int×Unit))):(Int×(List Int))→Tre ((Int×(List Int)) ⊕ (List Int)):=fun s3=>
 .cond (decide (s3.1<IK))
  (.ite (0≤s3.1∧s3.1<(cZ.length:Int))<|
  .mat (cZ[s3.1.toNat]?) fun x1=>
  .mat (kH jG s3.2 x1) fun r2=>
  .cond (!decide (r2=0))
   (.mat (iY jG ([r2,1]) s3.2) fun r3=>
   .ret (.inl (aI .i64 (s3.1+1),r3)))
   (.ret (.inl (aI .i64 (s3.1+1),s3.2))))
  (.ret (.inr s3.2))
def tJ (p0:(Int×(Int×Unit))) (p1:List Int):Tre (List Int):=
 .mat (aZ (gJ p1 (p1.length:Int) p0) (0,[1])) fun l4=>
 .ret l4
def lM (p0:(Int×(Int×Unit))) (p1:List Int):Option (List Int):=(tJ p0 p1).run some
-- more
def gX(F:FO)(out:List Nat)(x:Nat):List Nat:=if F.lp out x=0 then out else dR (F.lG [F.lp out x,1] out)
def kS(F:FO)(xs:List Nat):List Nat:=xs.foldl (gX F) [1]
theorem Ua{F:FO}{out:List Nat}{n x:Nat}(h:inL F out∧out.length≤n+1∧out≠[]):inL F (gX F out x)∧(gX F out x).length≤n+2:=by
 unfold gX
 split
 ·exact ⟨h.1,by omega⟩
 ·have h1:=F.Ew [F.lp out x,1] out (by simp) h.2.2
  have h2:=sV (F.lG [F.lp out x,1] out)
  simp only [List.length_cons,List.length_nil] at h1
  exact ⟨EY (Vh _ _),by omega⟩
theorem T9{F:FO}{out:List Nat}{x:Nat}(hi:inL F out)(h:AA out)(hn:out≠[]):AA (gX F out x)∧gX F out x≠[]:=by
 unfold gX
 split
 ·exact ⟨h,hn⟩
 ·refine ⟨ND _,fun h0=>?_⟩
  have:=F.Lb (V:=[F.lp out x,1]) (fun y hy=>by
   rcases List.mem_cons.1 hy with rfl|hy
   ·exact F.abr _ _
   ·rw [List.mem_singleton.1 hy];exact F.hq) hi (by simp) hn (by simp [cf]) (h hn)
  rw [h0] at this
  simp only [List.length_nil,List.length_cons] at this
  have:=List.length_pos_iff.2 hn
  omega
theorem Tz(F:FO):∀(xs:List Nat),inL F (kS F xs)∧(kS F xs).length≤xs.length+1∧AA (kS F xs)∧kS F xs≠[]:=by
 have key:∀(xs out:List Nat)(n:Nat),inL F out→out.length≤n+1→AA out→out≠[]→inL F (xs.foldl (gX F) out)∧(xs.foldl (gX F) out).length≤n+xs.length+1∧AA (xs.foldl (gX F) out)∧xs.foldl (gX F) out≠[]:=by
  intro xs
  induction xs with
  |nil=>intro out n h1 h2 h3 h4;exact ⟨h1,by simpa using h2,h3,h4⟩
  |cons x xs ih=>
   intro out n h1 h2 h3 h4
   obtain ⟨a,b⟩:=Ua (x:=x) ⟨h1,h2,h4⟩
   obtain ⟨c,d⟩:=T9 (x:=x) h1 h3 h4
   obtain ⟨e1,e2,e3,e4⟩:=ih (gX F out x) (n+1) a (by omega) c d
   exact ⟨e1,by simp only [List.foldl_cons,List.length_cons];omega,e3,e4⟩
 intro xs
 have:=key xs [1] 0 (fun y hy=>by rw [List.mem_singleton.1 hy];exact F.hq) (by simp) (fun _=>by simp [cf]) (by simp)
 refine ⟨this.1,?_,this.2.2⟩
 have h2:=this.2.1
 unfold kS
 omega
theorem XI{F:FO}{xs:List Nat}{i:Nat}(hi:i<xs.length):kS F (xs.take (i+1))=gX F (kS F (xs.take i)) (cf xs i):=by
 unfold kS
 rw [List.take_add_one,oG hi,Option.toList_some,List.foldl_append]
 rfl
theorem ahV{f:TF3}(hf:aO f=true){xs:List Nat}(hx:inL (FOf f hf) xs)(hl:xs.length≤100):lM f (aW xs)=some (aW (kS (FOf f hf) xs)):=by
 unfold lM tJ
 rw [ak (show aZ (gJ (aW xs) ((aW xs).length:Int) f) (0,[1])=some (aW (kS (FOf f hf) xs)) from ?_),Tre.aM]
 refine nZ (fun i=>((i:Int),aW (kS (FOf f hf) (xs.take i)))) xs.length _ (fun i hi=>?_) ?_
 ·obtain ⟨a1,a2,_,_⟩:=Tz (FOf f hf) (xs.take i)
  rw [List.length_take] at a2
  have hv:=(FOf f hf).abr (kS (FOf f hf) (xs.take i)) (cf xs i)
  unfold gJ
  dsimp only
  rw [oW (jd (oG hi)),ak (QJ hf a1 (by omega) (Cy hx i)),Tre.aC,XI hi]
  unfold gX
  by_cases h0:(FOf f hf).lp (kS (FOf f hf) (xs.take i)) (cf xs i)=0
  ·rw [decide_eq_true (by omega),Bool.not_true,cond_false,Tre.aM,bQ (by omega),if_pos h0]
  ·rw [decide_eq_false (by omega),Bool.not_false,cond_true,if_neg h0]
   have hc:=RL hf (P:=[(FOf f hf).lp (kS (FOf f hf) (xs.take i)) (cf xs i),1]) (Q:=kS (FOf f hf) (xs.take i)) (fun y hy=>by
    rcases List.mem_cons.1 hy with rfl|hy
    ·exact hv
    ·rw [List.mem_singleton.1 hy];exact (FOf f hf).hq) a1 (by simp) (by omega)
   rw [ak (show iY f [(((FOf f hf).lp (kS (FOf f hf) (xs.take i)) (cf xs i):Nat):Int),1] (aW (kS (FOf f hf) (xs.take i)))=_ from hc),Tre.aM,bQ (by omega)]
 ·unfold gJ
  dsimp only
  rw [bG,qN,Tre.aM,List.take_length]
def lN:Env:=⟨tau,[(93,uy),(151,vG)],[]⟩
def wF:Code:=(Try.f88.body).getD .skip
def sW (uS:Bool) (cZ:List Int) (IK:Int) (jG:(Int×(Int×Unit))):(Int×(List Int))→St:=fun x=>fA [(2,(.ptr (4,0) [])),(5,(.ref (7,0) [])),(10,(.imm uS .il cZ)),(11,(.i IK)),(12,(.i x.1))] [((4,0),some ⟨true,aH,.own,jG⟩),((7,0),some ⟨false,.il,.own,x.2⟩)]
def rC (_:Bool) (_:List Int) (_:Int) (_:(Int×(Int×Unit))):(List Int)→Ex×St:=fun x=>(.exit 0,fA [(5,(.ref (7,0) []))] [((7,0),some ⟨false,.il,.own,x⟩)])
def D5 (s:St):Tre (Ex×St):=
 nu (4,0) [] (s.tmps 2)<|
 nJ (7,0) [] (s.tmps 5)<|
 bX .il (s.tmps 10) fun z5 d4=>
 aD true .n (s.tmps 11) fun d7=>
 aD true .n (s.tmps 12) fun d9=>
 dY true aH (s.roots (4,0)) fun m11 d12=>
 asM .own m11<|
 dY false .il (s.roots (7,0)) fun m14 d15=>
 asM .own m14<|
 .mat (aZ (gJ d4 d7 d12) (d9,d15)) fun x=>.ret (rC z5 d4 d7 d12 x)
def jQ:bS:=⟨([2,5,10,11,12],[(4,0),(7,0)]),([5],[(7,0)]),D5⟩
def qm:List (Nat×bS):=[(3,jQ)]
theorem zZ:∀(uS:Bool)(cZ:List Int)(IK:Int)(jG:(Int×(Int×Unit)))(x:(Int×(List Int)))(c:St→Option (Ex×St)),den lN qm (bF wF 0) (sW uS cZ IK jG x) (fE jQ.kp jQ.kx c)=(gJ cZ IK jG x).run (fF (sW uS cZ IK jG) (rC uS cZ IK jG) c):=fun _ _ _ _ _ _=>by
 kernel_rfl
theorem Ch:dZ lN qm (bF wF 0) jQ:=jf fun _ _ _=>Ap<|J9<|iq fun _ _=>aU fun _=>aU fun _=>mP fun _ _=>tM<|mP fun _ _=>tM<|fun h _ e13 _ e10 e8 e6 e3 e2 e1=>gB (zZ _ _ _ _) h (by subst_vars;exact bn rfl rfl ⟨e1,e2,e3,e6,e8,trivial⟩ ⟨e10,e13,trivial⟩)
def Hw:FnI:=fnI Try.f88 qm
def uV (_:Bool) (_:(Int×(Int×Unit))) (_:List Int):(List Int)→au:=fun r=>⟨(.ref (1,0) []),[],[⟨false,.il,.own,r⟩]⟩
theorem FR:∀(zp0:Bool)(p0:(Int×(Int×Unit)))(p1:List Int),bU lN Hw ⟨[(.imm true aH p0),(.imm zp0 .il p1)],[]⟩=(tJ p0 p1).run fun r=>some (uV zp0 p0 p1 r):=fun _ _ _=>by kernel_rfl
def Hu (av:List AV) (rs:List Root):Tre au:=
 aA av fun a0_ av0=>
 aA av0 fun a1_ av1=>
 aK av1<|
 aK rs<|
 aD true aH a0_ fun d1=>
 bX .il a1_ fun z3 d2=>
 .mat (lM d1 d2) fun r=>.ret (uV z3 d1 d2 r)
def wG:Ctr:=fJ [] Hu
theorem FT:Contract Try.prog .none 88 wG:=aB (V:=lN) aS (ay xg agl (ay A8 agd aG)) Try.func88 (dw (n:=1) fun k hk=>by
 match k,hk with
 |0,_=>exact eH (id:=3) Ch) fun _ _ _=>aJ fun _ _=>aJ fun _ _=>bD<|bD<|aU fun _=>iq fun _ _=>fun h=>by intros;subst_vars;exact bC (FR _ _ _) h
def wV (p0:(Int×(Int×Unit))) (p1:List Int):Tre (Int ⊕ ((List Int)×Int)):=
 .mat (vF p0 true p1) fun r1=>
 .cond (!decide (r1=0))
  (.ret (.inl r1))
  (.mat (lM p0 p1) fun r2=>
  .ret (.inr (r2,0)))
def oJ (p0:(Int×(Int×Unit))) (p1:List Int):Option (Int ⊕ ((List Int)×Int)):=(wV p0 p1).run some
-- more
theorem aeP{f:TF3}(hf:aO f=true){xs:List Nat}(hx:inL (FOf f hf) xs)(hl:xs.length≤100):oJ f (aW xs)=some (.inr (aW (kS (FOf f hf) xs),0)):=by
 unfold oJ wV
 rw [ak (agB hf hx (by omega)),Tre.aC,decide_eq_true rfl,Bool.not_true,cond_false,ak (ahV hf hx hl),Tre.aM]
def AX:Env:=⟨tau,[(87,I4),(88,wG)],[(1000000,[((6,0),[],false)]),(1000001,[])]⟩
def MI:FnI:=fnI Try.f27 []
def rA (_:Bool) (_:(Int×(Int×Unit))) (_:List Int):(Int ⊕ ((List Int)×Int))→au
 |.inl r=>⟨(.tcons .nil (.tcons (.i r) .tnil)),[],[]⟩
 |.inr r=>⟨(.tcons (.imm true .il r.1) (.tcons (.i r.2) .tnil)),[],[]⟩
theorem KE:∀(zp0:Bool)(p0:(Int×(Int×Unit)))(p1:List Int),bU AX MI ⟨[(.imm true aH p0),(.imm zp0 .il p1)],[]⟩=(wV p0 p1).run fun r=>some (rA zp0 p0 p1 r):=fun _ _ _=>by kernel_rfl
def MH (av:List AV) (rs:List Root):Tre au:=
 aA av fun a0_ av0=>
 aA av0 fun a1_ av1=>
 aK av1<|
 aK rs<|
 aD true aH a0_ fun d1=>
 bX .il a1_ fun z3 d2=>
 .mat (oJ d1 d2) fun r=>.alt r (fun a0=>.ret (rA z3 d1 d2 (.inl a0))) (fun b0=>.ret (rA z3 d1 d2 (.inr b0)))
def AY:Ctr:=fJ [] MH
theorem KF:Contract Try.prog .none 27 AY:=aB (V:=AX) aS (ay SE akq (ay FT akr aG)) Try.func27 bN fun _ _ _=>aJ fun _ _=>aJ fun _ _=>bD<|bD<|aU fun _=>iq fun _ _=>fun h=>by intros;subst_vars;exact Uw (KE _ _ _) h (by rintro (x|x)<;>rfl)
def wY (p0:(Int×(Int×Unit))) (p1:List Int):Tre Bool:=
 .cond (decide ((p1.length:Int)≤12))
  (.mat (p9 p0 p1) fun r1=>
  .cond r1
   (.cond (decide ((p1.length:Int)=0))
    (.ret true)
    (let v2:=aI .i64 ((p1.length:Int)-1)
    .ite (0≤v2∧v2<(p1.length:Int))<|
    .mat (p1[v2.toNat]?) fun x3=>
    .ret (!decide (x3=0))))
   (.ret false))
  (.ret false)
def oK (p0:(Int×(Int×Unit))) (p1:List Int):Option Bool:=(wY p0 p1).run some
def Bd:Env:=⟨tau,[(98,xQ)],[]⟩
def MQ:FnI:=fnI Try.f153 []
def yB (_:Bool) (_:(Int×(Int×Unit))) (_:List Int):Bool→au:=fun r=>⟨(.imm true .bool r),[],[]⟩
theorem KI:∀(zp0:Bool)(p0:(Int×(Int×Unit)))(p1:List Int),bU Bd MQ ⟨[(.imm true aH p0),(.imm zp0 .il p1)],[]⟩=(wY p0 p1).run fun r=>some (yB zp0 p0 p1 r):=fun _ _ _=>by kernel_rfl
def MP (av:List AV) (rs:List Root):Tre au:=
 aA av fun a0_ av0=>
 aA av0 fun a1_ av1=>
 aK av1<|
 aK rs<|
 aD true aH a0_ fun d1=>
 bX .il a1_ fun z3 d2=>
 .mat (oK d1 d2) fun r=>.ret (yB z3 d1 d2 r)
def Bf:Ctr:=fJ [] MP
theorem KJ:Contract Try.prog .none 153 Bf:=aB (V:=Bd) aS (ay Bc agm aG) Try.func153 bN fun _ _ _=>aJ fun _ _=>aJ fun _ _=>bD<|bD<|aU fun _=>iq fun _ _=>fun h=>by intros;subst_vars;exact bC (KI _ _ _) h
def lY (p0:List Int) (p1:(Int×(Int×Unit))):Tre Bool:=
 .mat (oK p1 p0) fun r1=>
 .ret (!r1)
def iO (p0:List Int) (p1:(Int×(Int×Unit))):Option Bool:=(lY p0 p1).run some
def qG:Env:=⟨tau,[(153,Bf)],[]⟩
def Ab:FnI:=fnI Try.f152 []
def ou (_:Bool) (_:List Int) (p1:(Int×(Int×Unit))):Bool→au:=fun r=>⟨(.imm true .bool r),[⟨true,aH,.own,p1⟩],[]⟩
theorem zi:∀(zp0:Bool)(p0:List Int)(p1:(Int×(Int×Unit))),bU qG Ab ⟨[(.imm zp0 .il p0),(.ptr (0,0) [])],[⟨true,aH,.own,p1⟩]⟩=(lY p0 p1).run fun r=>some (ou zp0 p0 p1 r):=fun _ _ _=>by kernel_rfl
def Aa (av:List AV) (rs:List Root):Tre au:=
 aA av fun a0_ av0=>
 aA av0 fun a1_ av1=>
 aK av1<|
 aA rs fun r0_ rs0=>
 aK rs0<|
 bX .il a0_ fun z2 d1=>
 nu (0,0) [] a1_<|
 uH true aH r0_ fun m3 d4=>
 asM .own m3<|
 .mat (iO d1 d4) fun r=>.ret (ou z2 d1 d4 r)
def qH:Ctr:=fJ [] Aa
theorem zk:Contract Try.prog .none 152 qH:=aB (V:=qG) aS (ay KJ ajo aG) Try.func152 bN fun _ _ _=>aJ fun _ _=>aJ fun _ _=>bD<|aJ fun _ _=>bD<|iq fun _ _=>Ap<|tRt fun _ _=>tM<|fun h=>by intros;subst_vars;exact bC (zi _ _ _) h
def aX (bA:(List (List Int))) (bg:Int) (aR:(Int×(Int×Unit))):Int→Tre (Int ⊕ (Int ⊕ Unit)):=fun s2=>
 .cond (decide (s2<bg))
  (.ite (0≤s2∧s2<(bA.length:Int))<|
  .mat (bA[s2.toNat]?) fun x1=>
  .mat (iO x1 aR) fun r2=>
  .cond r2
   (.ret (.inr (.inl s2)))
   (.ret (.inl (aI .i64 (s2+1)))))
  (.ret (.inr (.inr ())))
def fC (p0:(List (List Int))) (p1:(Int×(Int×Unit))):Tre Int:=
 .mat (aZ (aX p0 (p0.length:Int) p1) 0) fun l3=>
 .alt l3
  (fun a4=>
   .ret a4)
  (fun _=>
   .ret (-1))
def dD (p0:(List (List Int))) (p1:(Int×(Int×Unit))):Option Int:=(fC p0 p1).run some
def dF:Env:=⟨tau,[(152,qH)],[]⟩
def iG:Code:=(Try.f144.body).getD .skip
def dW (nk:Bool) (bA:(List (List Int))) (bg:Int) (aR:(Int×(Int×Unit))):Int→St:=fun x=>fA [(0,(.imm nk (.sl .il) bA)),(1,(.fn 152 [(0,0)])),(7,(.i bg)),(8,(.i x))] [((0,0),some ⟨true,aH,.own,aR⟩)]
def bZ (_:Bool) (_:(List (List Int))) (_:Int) (aR:(Int×(Int×Unit))):(Int ⊕ Unit)→Ex×St
 |.inl x=>(.ret,fA [(4,(.i x))] [((0,0),some ⟨true,aH,.own,aR⟩)])
 |.inr _=>(.exit 0,fA [(4,.dead)] [((0,0),some ⟨true,aH,.own,aR⟩)])
def gN (s:St):Tre (Ex×St):=
 bX (.sl .il) (s.tmps 0) fun z3 d2=>
 Hr 152 [(0,0)] (s.tmps 1)<|
 aD true .n (s.tmps 7) fun d6=>
 aD true .n (s.tmps 8) fun d8=>
 dY true aH (s.roots (0,0)) fun m10 d11=>
 asM .own m10<|
 .mat (aZ (aX d2 d6 d11) d8) fun x=>.alt x (fun a0=>.ret (bZ z3 d2 d6 d11 (.inl a0))) (fun b0=>.ret (bZ z3 d2 d6 d11 (.inr b0)))
def bK:bS:=⟨([0,1,7,8],[(0,0)]),([4],[(0,0)]),gN⟩
def eO:List (Nat×bS):=[(2,bK)]
theorem lD:∀(nk:Bool)(bA:(List (List Int)))(bg:Int)(aR:(Int×(Int×Unit)))(x:Int)(c:St→Option (Ex×St)),den dF eO (bF iG 0) (dW nk bA bg aR x) (fE bK.kp bK.kx c)=(aX bA bg aR x).run (fF (dW nk bA bg aR) (bZ nk bA bg aR) c):=fun _ _ _ _ _ _=>by
 kernel_rfl
theorem lW:dZ dF eO (bF iG 0) bK:=mh fun s e s' h=>by
 generalize hs:restrict bK.kp s=s1 at h
 have h:(gN s1).run some=some (e,s'):=h
 obtain ⟨z3,d2,e1,h_0⟩:=lF h
 obtain ⟨e4,h_1⟩:=Ar h_0
 obtain ⟨d6,e5,h_2⟩:=dA h_1
 obtain ⟨d8,e7,h_3⟩:=dA h_2
 obtain ⟨m10,d11,e9,h_4⟩:=gY h_3
 obtain ⟨rfl,h_5⟩:=nI h_4
 obtain ⟨y,hy,hz⟩:=nQ h_5
 refine ⟨_,_,dW z3 d2 d6 d11,bZ z3 d2 d6 d11,aX d2 d6 d11,d8,y,?_,hy,?_,lD z3 d2 d6 d11⟩
 ·subst hs;exact bn (T:=[(0,(.imm z3 (.sl .il) d2)),(1,(.fn 152 [(0,0)])),(7,(.i d6)),(8,(.i d8))]) (U:=[((0,0),some ⟨true,aH,.own,d11⟩)]) rfl rfl ⟨e1,e4,e5,e7,trivial⟩ ⟨e9,trivial⟩
 ·rcases y with x|x<;>exact Option.some.inj hz
def nD:FnI:=fnI Try.f144 eO
def ig (_:Bool) (_:(List (List Int))) (p1:(Int×(Int×Unit))):Int→au:=fun r=>⟨(.i r),[⟨true,aH,.own,p1⟩],[]⟩
theorem mY:∀(zp0:Bool)(p0:(List (List Int)))(p1:(Int×(Int×Unit))),bU dF nD ⟨[(.imm zp0 (.sl .il) p0),(.fn 152 [(0,0)])],[⟨true,aH,.own,p1⟩]⟩=(fC p0 p1).run fun r=>some (ig zp0 p0 p1 r):=fun _ _ _=>by kernel_rfl
def nC (av:List AV) (rs:List Root):Tre au:=
 aA av fun a0_ av0=>
 aA av0 fun a1_ av1=>
 aK av1<|
 aA rs fun r0_ rs0=>
 aK rs0<|
 bX (.sl .il) a0_ fun z2 d1=>
 Hr 152 [(0,0)] a1_<|
 uH true aH r0_ fun m3 d4=>
 asM .own m3<|
 .mat (dD d1 d4) fun r=>.ret (ig z2 d1 d4 r)
def iH:Ctr:=fJ [] nC
theorem mZ:Contract Try.prog .none 144 iH:=aB (V:=dF) aS (ay zk ajn aG) Try.func144 (dw (n:=1) fun k hk=>by
 match k,hk with
 |0,_=>exact eH (id:=2) lW) fun _ _ _=>aJ fun _ _=>aJ fun _ _=>bD<|aJ fun _ _=>bD<|iq fun _ _=>tFn<|tRt fun _ _=>tM<|fun h=>by intros;subst_vars;exact bC (mY _ _ _) h
def eF (p0:(List (List Int))) (p1:(Int×(Int×Unit))):Tre Bool:=
 .mat (dD p0 p1) fun r1=>
 .ret (decide (r1 ≥ 0))
def cO (p0:(List (List Int))) (p1:(Int×(Int×Unit))):Option Bool:=(eF p0 p1).run some
def gL:Env:=⟨tau,[(144,iH)],[]⟩
def l8:FnI:=fnI Try.f78 []
def gF (_:Bool) (_:(List (List Int))) (p1:(Int×(Int×Unit))):Bool→au:=fun r=>⟨(.imm true .bool r),[⟨true,aH,.own,p1⟩],[]⟩
theorem lU:∀(zp0:Bool)(p0:(List (List Int)))(p1:(Int×(Int×Unit))),bU gL l8 ⟨[(.imm zp0 (.sl .il) p0),(.fn 152 [(0,0)])],[⟨true,aH,.own,p1⟩]⟩=(eF p0 p1).run fun r=>some (gF zp0 p0 p1 r):=fun _ _ _=>by kernel_rfl
def lZ (av:List AV) (rs:List Root):Tre au:=
 aA av fun a0_ av0=>
 aA av0 fun a1_ av1=>
 aK av1<|
 aA rs fun r0_ rs0=>
 aK rs0<|
 bX (.sl .il) a0_ fun z2 d1=>
 Hr 152 [(0,0)] a1_<|
 uH true aH r0_ fun m3 d4=>
 asM .own m3<|
 .mat (cO d1 d4) fun r=>.ret (gF z2 d1 d4 r)
def gM:Ctr:=fJ [] lZ
theorem lV:Contract Try.prog .none 78 gM:=aB (V:=gL) aS (ay mZ ajk aG) Try.func78 bN fun _ _ _=>aJ fun _ _=>aJ fun _ _=>bD<|aJ fun _ _=>bD<|iq fun _ _=>tFn<|tRt fun _ _=>tM<|fun h=>by intros;subst_vars;exact bC (lU _ _ _) h
def uJ (p0:(Int×(Int×Unit))) (p1:(List (List Int))):Tre Int:=
 .mat (nN p0) fun r1=>
 .cond (!r1)
  (.ret 1)
  (.mat (cO p1 p0) fun r2=>
  .cond r2
   (.ret 1)
   (.ret 0))
def eu (p0:(Int×(Int×Unit))) (p1:(List (List Int))):Option Int:=(uJ p0 p1).run some
-- more
def Yt{f:TF3}(hf:aO f=true)(L:List Nat):Prop:=inL (FOf f hf) L∧AA L∧L.length≤12
theorem ah9{f:TF3}{hf:aO f=true}{L:List Nat}(h:Yt hf L):oK f (aW L)=some true:=by
 obtain ⟨h1,h2,h3⟩:=h
 unfold oK wY
 rw [Tre.aC,decide_eq_true (by rw [bG];omega),cond_true,ak (Bb hf _ (by rw [bG];omega)),acR hf h1,Tre.aC,cond_true,Tre.aC,bG]
 by_cases h0:L.length=0
 ·rw [decide_eq_true (by omega),cond_true,Tre.aM]
 ·have hn:=h2 fun hh=>h0 (by rw [hh];rfl)
  have hp:aI .i64 ((L.length:Int)-1)=((L.length-1:Nat):Int):=mU (by omega) (by omega)
  have hll:(L.length:Int)=((aW L).length:Int):=by rw [bG]
  rw [decide_eq_false (by omega),cond_false]
  dsimp only
  rw [hp,hll,lK (jd (oG (show L.length-1<L.length by omega))),Tre.aM,decide_eq_false (by omega)]
  rfl
theorem Ju{f:TF3}(hf:aO f=true){Ls:List (List Nat)}(hl:Ls.length≤1000)(h:∀L∈Ls,Yt hf L):eu f (Ls.map aW)=some 0:=by
 have hlen:(Ls.map aW).length=Ls.length:=List.length_map ..
 have h2:dD (Ls.map aW) f=some (-1):=by
  unfold dD fC
  rw [ak (show aZ (aX (Ls.map aW) ((Ls.map aW).length:Int) f) 0=some (.inr ()) from ?_)]
  ·rfl
  refine nZ (fun i=>(i:Int)) Ls.length _ (fun i hi=>?_) ?_
  ·have hg:(Ls.map aW)[i]?=some (aW Ls[i]):=by rw [List.getElem?_map,List.getElem?_eq_getElem hi];rfl
   have h1:iO (aW Ls[i]) f=some false:=by
    unfold iO lY
    rw [ak (ah9 (h _ (List.getElem_mem hi))),Tre.aM]
    rfl
   unfold aX
   rw [oW hg,ak h1,Tre.aC,cond_false,Tre.aM,bQ (by omega)]
  ·unfold aX
   rw [hlen,Tre.aC,decide_eq_false (by omega),cond_false,Tre.aM]
 have h4:cO (Ls.map aW) f=some false:=by
  unfold cO eF
  rw [ak h2,Tre.aM]
  rfl
 unfold eu uJ
 rw [ak (GX f),hf,Tre.aC,Bool.not_true,cond_false,ak h4]
 rfl
def yC:Env:=⟨tau,[(150,Bo),(78,gM)],[]⟩
def Jc:FnI:=fnI Try.f89 []
def vK (_:Bool) (_:(Int×(Int×Unit))) (_:(List (List Int))):Int→au:=fun r=>⟨(.i r),[],[]⟩
theorem HZ:∀(zp0:Bool)(p0:(Int×(Int×Unit)))(p1:(List (List Int))),bU yC Jc ⟨[(.imm true aH p0),(.imm zp0 (.sl .il) p1)],[]⟩=(uJ p0 p1).run fun r=>some (vK zp0 p0 p1 r):=fun _ _ _=>by kernel_rfl
def Jb (av:List AV) (rs:List Root):Tre au:=
 aA av fun a0_ av0=>
 aA av0 fun a1_ av1=>
 aK av1<|
 aK rs<|
 aD true aH a0_ fun d1=>
 bX (.sl .il) a1_ fun z3 d2=>
 .mat (eu d1 d2) fun r=>.ret (vK z3 d1 d2 r)
def mH:Ctr:=fJ [] Jb
theorem qo:Contract Try.prog .none 89 mH:=aB (V:=yC) aS (ay GY agc (ay lV ako aG)) Try.func89 bN fun _ _ _=>aJ fun _ _=>aJ fun _ _=>bD<|bD<|aU fun _=>iq fun _ _=>fun h=>by intros;subst_vars;exact bC (HZ _ _ _) h
def nK (cZ:Int):(Int×(List Int))→Tre ((Int×(List Int)) ⊕ (List Int)):=fun s3=>
 .cond (decide (s3.1<cZ))
  (.ite ((s3.2.length+1)*8≤fD∧1≤8)<|
  .ret (.inl (aI .i64 (s3.1+1),s3.2++([s3.1]))))
  (.ret (.inr s3.2))
def IY (p0:(Int×(Int×Unit))):Tre (List Int):=
 .mat (jl p0) fun r1=>
 .mat (aZ (nK r1) (0,[])) fun l2=>
 .ret l2
def xM (p0:(Int×(Int×Unit))):Option (List Int):=(IY p0).run some
-- more
theorem aeQ{f:TF3}(hf:aO f=true):jl f=some (((FOf f hf).q:Nat):Int):=by
 have hd:=jX hf
 have h5:=(FL hf).2
 unfold jl xP
 rw [Tre.run_ite,if_pos (by omega),Tre.aM,yg]
 congr 1
 have:∀n:Nat,n<6→Ah .i64 1 (n:Int)=((2 ^ n:Nat):Int):=by decide
 have h:=this f.1.toNat (by omega)
 rwa [show ((f.1.toNat:Nat):Int)=f.1 by omega] at h
theorem ahT{f:TF3}(hf:aO f=true):xM f=some (aW (List.range (FOf f hf).q)):=by
 have hq:(FOf f hf).q≤32:=by rw [yg];exact Nat.pow_le_pow_right (n:=2) (by decide) (FL hf).2
 unfold xM IY
 rw [ak (aeQ hf),ak (show aZ (nK (((FOf f hf).q:Nat):Int)) (0,[])=some (aW (List.range (FOf f hf).q)) from ?_),Tre.aM]
 refine nZ (fun i=>((i:Int),aW (List.range i))) (FOf f hf).q _ (fun i hi=>?_) ?_
 ·unfold nK
  dsimp only
  rw [Tre.aC,decide_eq_true (by omega),cond_true,Tre.run_ite,if_pos (by rw [bG,List.length_range];unfold fD;omega),Tre.aM,bQ (by omega),List.range_succ]
  unfold aW
  rw [List.map_append]
  rfl
 ·unfold nK
  dsimp only
  rw [Tre.aC,decide_eq_false (by omega),cond_false,Tre.aM]
def xO:Env:=⟨tau,[(142,uo)],[]⟩
def Lg:Code:=(Try.f91.body).getD .skip
def CV (cZ:Int):(Int×(List Int))→St:=fun x=>fA [(3,(.ref (5,0) [])),(7,(.i cZ)),(8,(.i x.1))] [((5,0),some ⟨false,.il,.own,x.2⟩)]
def AZ (_:Int):(List Int)→Ex×St:=fun x=>(.exit 0,fA [(3,(.ref (5,0) []))] [((5,0),some ⟨false,.il,.own,x⟩)])
def Ql (s:St):Tre (Ex×St):=
 nJ (5,0) [] (s.tmps 3)<|
 aD true .n (s.tmps 7) fun d3=>
 aD true .n (s.tmps 8) fun d5=>
 dY false .il (s.roots (5,0)) fun m7 d8=>
 asM .own m7<|
 .mat (aZ (nK d3) (d5,d8)) fun x=>.ret (AZ d3 x)
def sj:bS:=⟨([3,7,8],[(5,0)]),([3],[(5,0)]),Ql⟩
def DZ:List (Nat×bS):=[(3,sj)]
theorem KG:∀(cZ:Int)(x:(Int×(List Int)))(c:St→Option (Ex×St)),den xO DZ (bF Lg 0) (CV cZ x) (fE sj.kp sj.kx c)=(nK cZ x).run (fF (CV cZ) (AZ cZ) c):=fun _ _ _=>by
 kernel_rfl
theorem N8:dZ xO DZ (bF Lg 0) sj:=jf fun _ _ _=>J9<|aU fun _=>aU fun _=>mP fun _ _=>tM<|fun h _ e6 e4 e2 e1=>gB (KG _) h (by subst_vars;exact bn rfl rfl ⟨e1,e2,e4,trivial⟩ ⟨e6,trivial⟩)
def WS:FnI:=fnI Try.f91 DZ
def GA (_:(Int×(Int×Unit))):(List Int)→au:=fun r=>⟨(.ref (1,0) []),[],[⟨false,.il,.own,r⟩]⟩
theorem UG:∀(p0:(Int×(Int×Unit))),bU xO WS ⟨[(.imm true aH p0)],[]⟩=(IY p0).run fun r=>some (GA p0 r):=fun _=>by kernel_rfl
def WR (av:List AV) (rs:List Root):Tre au:=
 aA av fun a0_ av0=>
 aK av0<|
 aK rs<|
 aD true aH a0_ fun d1=>
 .mat (xM d1) fun r=>.ret (GA d1 r)
def Lh:Ctr:=fJ [] WR
theorem UH:Contract Try.prog .none 91 Lh:=aB (V:=xO) aS (ay wW acS aG) Try.func91 (dw (n:=1) fun k hk=>by
 match k,hk with
 |0,_=>exact eH (id:=3) N8) fun _ _ _=>aJ fun _ _=>bD<|bD<|aU fun _=>fun h=>by intros;subst_vars;exact bC (UG _) h
def xu (p0:Int) (p1:(Int×(Int×Unit))) (p2:List Int):Tre Bool:=
 .mat (kH p1 p2 p0) fun r1=>
 .ret (!decide (r1=0))
def lH (p0:Int) (p1:(Int×(Int×Unit))) (p2:List Int):Option Bool:=(xu p0 p1 p2).run some
def Bn:Env:=⟨tau,[(93,uy)],[]⟩
def M4:FnI:=fnI Try.f92 []
def yJ (zp0:Bool) (_:Int) (p1:(Int×(Int×Unit))) (p2:List Int):Bool→au:=fun r=>⟨(.imm true .bool r),[⟨true,aH,.own,p1⟩,⟨true,.il,(.imm zp0),p2⟩],[]⟩
theorem KR:∀(zp0:Bool)(p0:Int)(p1:(Int×(Int×Unit)))(p2:List Int),bU Bn M4 ⟨[(.i p0),(.ptr (0,0) []),(.ptr (0,1) [])],[⟨true,aH,.own,p1⟩,⟨true,.il,(.imm zp0),p2⟩]⟩=(xu p0 p1 p2).run fun r=>some (yJ zp0 p0 p1 p2 r):=fun _ _ _ _=>by kernel_rfl
def MZ (av:List AV) (rs:List Root):Tre au:=
 aA av fun a0_ av0=>
 aA av0 fun a1_ av1=>
 aA av1 fun a2_ av2=>
 aK av2<|
 aA rs fun r0_ rs0=>
 aA rs0 fun r1_ rs1=>
 aK rs1<|
 aD true .n a0_ fun d1=>
 nu (0,0) [] a1_<|
 nu (0,1) [] a2_<|
 uH true aH r0_ fun m2 d3=>
 asM .own m2<|
 uH true .il r1_ fun m4 d5=>
 ru m4 fun z6=>
 .mat (lH d1 d3 d5) fun r=>.ret (yJ z6 d1 d3 d5 r)
def uL:Ctr:=fJ [] MZ
theorem zP:Contract Try.prog .none 92 uL:=aB (V:=Bn) aS (ay xg agl aG) Try.func92 bN fun _ _ _=>aJ fun _ _=>aJ fun _ _=>aJ fun _ _=>bD<|aJ fun _ _=>aJ fun _ _=>bD<|aU fun _=>Ap<|Ap<|tRt fun _ _=>tM<|tRt fun _ _=>Hq fun _=>fun h=>by intros;subst_vars;exact bC (KR _ _ _ _) h
def aY (bA:List Int) (bg:Int) (aR:(Int×(Int×Unit))) (AP:List Int):Int→Tre (Int ⊕ (Int ⊕ Unit)):=fun s2=>
 .cond (decide (s2<bg))
  (.ite (0≤s2∧s2<(bA.length:Int))<|
  .mat (bA[s2.toNat]?) fun x1=>
  .mat (lH x1 aR AP) fun r2=>
  .cond r2
   (.ret (.inr (.inl s2)))
   (.ret (.inl (aI .i64 (s2+1)))))
  (.ret (.inr (.inr ())))
def iK (p0:List Int) (p1:(Int×(Int×Unit))) (p2:List Int):Tre Int:=
 .mat (aZ (aY p0 (p0.length:Int) p1 p2) 0) fun l3=>
 .alt l3
  (fun a4=>
   .ret a4)
  (fun _=>
   .ret (-1))
def eT (p0:List Int) (p1:(Int×(Int×Unit))) (p2:List Int):Option Int:=(iK p0 p1 p2).run some
def eU:Env:=⟨tau,[(92,uL)],[]⟩
def kM:Code:=(Try.f125.body).getD .skip
def fP (nk:Bool) (Kc:Bool) (bA:List Int) (bg:Int) (aR:(Int×(Int×Unit))) (AP:List Int):Int→St:=fun x=>fA [(0,(.imm nk .il bA)),(1,(.fn 92 [(0,0),(0,1)])),(7,(.i bg)),(8,(.i x))] [((0,0),some ⟨true,aH,.own,aR⟩),((0,1),some ⟨true,.il,(.imm Kc),AP⟩)]
def dO (_:Bool) (Kc:Bool) (_:List Int) (_:Int) (aR:(Int×(Int×Unit))) (AP:List Int):(Int ⊕ Unit)→Ex×St
 |.inl x=>(.ret,fA [(4,(.i x))] [((0,0),some ⟨true,aH,.own,aR⟩),((0,1),some ⟨true,.il,(.imm Kc),AP⟩)])
 |.inr _=>(.exit 0,fA [(4,.dead)] [((0,0),some ⟨true,aH,.own,aR⟩),((0,1),some ⟨true,.il,(.imm Kc),AP⟩)])
def jN (s:St):Tre (Ex×St):=
 bX .il (s.tmps 0) fun z3 d2=>
 Hr 92 [(0,0),(0,1)] (s.tmps 1)<|
 aD true .n (s.tmps 7) fun d6=>
 aD true .n (s.tmps 8) fun d8=>
 dY true aH (s.roots (0,0)) fun m10 d11=>
 asM .own m10<|
 dY true .il (s.roots (0,1)) fun m13 d14=>
 ru m13 fun z15=>
 .mat (aZ (aY d2 d6 d11 d14) d8) fun x=>.alt x (fun a0=>.ret (dO z3 z15 d2 d6 d11 d14 (.inl a0))) (fun b0=>.ret (dO z3 z15 d2 d6 d11 d14 (.inr b0)))
def dx:bS:=⟨([0,1,7,8],[(0,0),(0,1)]),([4],[(0,0),(0,1)]),jN⟩
def gU:List (Nat×bS):=[(2,dx)]
theorem pG:∀(nk Kc:Bool)(bA:List Int)(bg:Int)(aR:(Int×(Int×Unit)))(AP:List Int)(x:Int)(c:St→Option (Ex×St)),den eU gU (bF kM 0) (fP nk Kc bA bg aR AP x) (fE dx.kp dx.kx c)=(aY bA bg aR AP x).run (fF (fP nk Kc bA bg aR AP) (dO nk Kc bA bg aR AP) c):=fun _ _ _ _ _ _ _ _=>by
 kernel_rfl
theorem qx:dZ eU gU (bF kM 0) dx:=mh fun s e s' h=>by
 generalize hs:restrict dx.kp s=s1 at h
 have h:(jN s1).run some=some (e,s'):=h
 obtain ⟨z3,d2,e1,h_0⟩:=lF h
 obtain ⟨e4,h_1⟩:=Ar h_0
 obtain ⟨d6,e5,h_2⟩:=dA h_1
 obtain ⟨d8,e7,h_3⟩:=dA h_2
 obtain ⟨m10,d11,e9,h_4⟩:=gY h_3
 obtain ⟨rfl,h_5⟩:=nI h_4
 obtain ⟨m13,d14,e12,h_6⟩:=gY h_5
 obtain ⟨z15,rfl,h_7⟩:=Ir h_6
 obtain ⟨y,hy,hz⟩:=nQ h_7
 refine ⟨_,_,fP z3 z15 d2 d6 d11 d14,dO z3 z15 d2 d6 d11 d14,aY d2 d6 d11 d14,d8,y,?_,hy,?_,pG z3 z15 d2 d6 d11 d14⟩
 ·subst hs;exact bn (T:=[(0,(.imm z3 .il d2)),(1,(.fn 92 [(0,0),(0,1)])),(7,(.i d6)),(8,(.i d8))]) (U:=[((0,0),some ⟨true,aH,.own,d11⟩),((0,1),some ⟨true,.il,(.imm z15),d14⟩)]) rfl rfl ⟨e1,e4,e5,e7,trivial⟩ ⟨e9,e12,trivial⟩
 ·rcases y with x|x<;>exact Option.some.inj hz
def tN:FnI:=fnI Try.f125 gU
def kg (_:Bool) (zp1:Bool) (_:List Int) (p1:(Int×(Int×Unit))) (p2:List Int):Int→au:=fun r=>⟨(.i r),[⟨true,aH,.own,p1⟩,⟨true,.il,(.imm zp1),p2⟩],[]⟩
theorem sP:∀(zp0 zp1:Bool)(p0:List Int)(p1:(Int×(Int×Unit)))(p2:List Int),bU eU tN ⟨[(.imm zp0 .il p0),(.fn 92 [(0,0),(0,1)])],[⟨true,aH,.own,p1⟩,⟨true,.il,(.imm zp1),p2⟩]⟩=(iK p0 p1 p2).run fun r=>some (kg zp0 zp1 p0 p1 p2 r):=fun _ _ _ _ _=>by kernel_rfl
def tL (av:List AV) (rs:List Root):Tre au:=
 aA av fun a0_ av0=>
 aA av0 fun a1_ av1=>
 aK av1<|
 aA rs fun r0_ rs0=>
 aA rs0 fun r1_ rs1=>
 aK rs1<|
 bX .il a0_ fun z2 d1=>
 Hr 92 [(0,0),(0,1)] a1_<|
 uH true aH r0_ fun m3 d4=>
 asM .own m3<|
 uH true .il r1_ fun m5 d6=>
 ru m5 fun z7=>
 .mat (eT d1 d4 d6) fun r=>.ret (kg z2 z7 d1 d4 d6 r)
def kN:Ctr:=fJ [] tL
theorem sQ:Contract Try.prog .none 125 kN:=aB (V:=eU) aS (ay zP ai3 aG) Try.func125 (dw (n:=1) fun k hk=>by
 match k,hk with
 |0,_=>exact eH (id:=2) qx) fun _ _ _=>aJ fun _ _=>aJ fun _ _=>bD<|aJ fun _ _=>aJ fun _ _=>bD<|iq fun _ _=>tFn<|tRt fun _ _=>tM<|tRt fun _ _=>Hq fun _=>fun h=>by intros;subst_vars;exact bC (sP _ _ _ _ _) h
def bf (DX:(Int×(Int×Unit))) (oI:List Int):(Int×Int×(List Int))→Tre ((Int×Int×(List Int)) ⊕ (Int×(List Int))):=fun s5=>
 .cond (decide (s5.2.1<(s5.2.2.length:Int)))
  (.ite (0≤s5.2.1∧s5.2.1<(s5.2.2.length:Int))<|
  .mat (s5.2.2[s5.2.1.toNat]?) fun x2=>
  .mat (lH x2 DX oI) fun r3=>
  .cond (!r3)
   (.ite (0≤s5.1∧s5.1<(s5.2.2.length:Int))<|
   .mat (s5.2.2[s5.1.toNat]?) fun _=>
   let v5:=s5.2.2.set s5.1.toNat x2
   .ret (.inl (aI .i64 (s5.1+1),aI .i64 (s5.2.1+1),v5)))
   (.ret (.inl (s5.1,aI .i64 (s5.2.1+1),s5.2.2))))
  (.ret (.inr (s5.1,s5.2.2)))
def fO (p0:List Int) (p1:(Int×(Int×Unit))) (p2:List Int):Tre (Unit ⊕ (Nat×Nat×(List Int))):=
 .mat (eT p0 p1 p2) fun r1=>
 .cond (decide (r1 = -1))
  (.ret (.inl ()))
  (.mat (aZ (bf p1 p2) (r1,aI .i64 (r1+1),p0)) fun l6=>
  .ite (0≤l6.1∧l6.1≤(l6.2.length:Int)∧(l6.2.length:Int)≤(l6.2.length:Int))<|
  .ite (l6.1.toNat+((l6.2.length:Int)-l6.1).toNat≤l6.2.length)<|
  let v7:=l6.2.take l6.1.toNat++List.replicate (((l6.2.length:Int)-l6.1).toNat) 0++l6.2.drop (l6.1.toNat+((l6.2.length:Int)-l6.1).toNat)
  .ite (0≤(0:Int)∧(0:Int)≤l6.1∧l6.1≤(v7.length:Int))<|
  .ret (.inr (0,(l6.1-0).toNat,v7)))
def bY (p0:List Int) (p1:(Int×(Int×Unit))) (p2:List Int):Option (Unit ⊕ (Nat×Nat×(List Int))):=(fO p0 p1 p2).run some
-- more
theorem abB{f:TF3}(hf:aO f=true){V:List Nat}(hV:inL (FOf f hf) V)(hl:V.length≤1000){x:Nat}(hx:x<(FOf f hf).q):lH (x:Int) f (aW V)=some (!decide ((FOf f hf).lp V x=0)):=by
 unfold lH xu
 rw [ak (QJ hf hV hl hx),Tre.aM]
 congr 2
 exact decide_eq_decide.2 (by omega)
theorem adw{f:TF3}(hf:aO f=true){V:List Nat}(hV:inL (FOf f hf) V)(hl:V.length≤1000){X:List Nat}(hX:inL (FOf f hf) X)(hXl:X.length≤1000):eT (aW X) f (aW V)=some (Ee (fun x:Nat=>!decide ((FOf f hf).lp V x=0)) 0 X):=by
 have key:∀m i,i+m=X.length→∃r,aZ (aY (aW X) ((aW X).length:Int) f (aW V)) (i:Int)=some r∧(match r with|.inl a=>a|.inr _=>-1)=Ee (fun x:Nat=>!decide ((FOf f hf).lp V x=0)) i (X.drop i):=by
  intro m
  induction m with
  |zero=>
   intro i hi
   refine ⟨.inr (),gQ ?_,?_⟩
   ·unfold aY
    rw [bG,Tre.aC,decide_eq_false (by omega),cond_false,Tre.aM]
   ·rw [List.drop_of_length_le (by omega)]
    rfl
  |succ m ih=>
   intro i hi
   have hlt:i<X.length:=by omega
   have hg:X[i]?=some X[i]:=List.getElem?_eq_getElem hlt
   have hc:=abB hf hV hl (hX _ (List.getElem_mem hlt))
   rw [List.drop_eq_getElem_cons hlt]
   unfold Ee
   cases hb:!decide ((FOf f hf).lp V X[i]=0)
   ·rw [hb] at hc
    obtain ⟨r,h1,h2⟩:=ih (i+1) (by omega)
    refine ⟨r,?_,?_⟩
    ·rw [←h1]
     refine kK ?_
     unfold aY
     rw [oW (jd hg),ak hc,Tre.aC,cond_false,Tre.aM,bQ (by omega)]
    ·rw [h2]
     rfl
   ·rw [hb] at hc
    refine ⟨.inl (i:Int),gQ ?_,?_⟩
    ·unfold aY
     rw [oW (jd hg),ak hc,Tre.aC,cond_true,Tre.aM]
    ·rfl
 obtain ⟨r,h1,h2⟩:=key X.length 0 (by omega)
 rw [List.drop_zero] at h2
 unfold eT iK
 have h1:aZ (aY (aW X) ((aW X).length:Int) f (aW V)) 0=some r:=h1
 rw [ak h1,←h2]
 cases r<;>rfl
def keepR{f:TF3}(hf:aO f=true)(V X:List Nat):List Nat:=X.filter fun x=>decide ((FOf f hf).lp V x=0)
theorem aav{f:TF3}(hf:aO f=true){V:List Nat}(hV:inL (FOf f hf) V)(hl:V.length≤1000){X:List Nat}(hX:inL (FOf f hf) X)(hXl:X.length≤1000):∀(m j:Nat)(Y:List Nat),j+m=X.length→Y.length=X.length→Y.take (keepR hf V (X.take j)).length=keepR hf V (X.take j)→(keepR hf V (X.take j)).length<j→(∀i,j≤i→Y[i]?=X[i]?) →
  ∃Y':List Nat,aZ (bf f (aW V)) ((((keepR hf V (X.take j)).length:Nat):Int),(j:Int),aW Y)=some ((((keepR hf V X).length:Nat):Int),aW Y')∧Y'.length=X.length∧Y'.take (keepR hf V X).length=keepR hf V X:=by
 intro m
 induction m with
 |zero=>
  intro j Y hj hY ht _ _
  have htx:X.take j=X:=List.take_of_length_le (by omega)
  rw [htx] at ht ⊢
  refine ⟨Y,gQ ?_,hY,ht⟩
  unfold bf
  dsimp only
  rw [Tre.aC,decide_eq_false (by rw [bG];omega),cond_false,Tre.aM]
 |succ m ih=>
  intro j Y hj hY ht hlt hr
  have hjl:j<X.length:=by omega
  have hg:X[j]?=some X[j]:=List.getElem?_eq_getElem hjl
  have hyg:Y[j]?=some X[j]:=by rw [hr j (Nat.le_refl _),hg]
  have hc:=abB hf hV hl (hX _ (List.getElem_mem hjl))
  have htk:X.take (j+1)=X.take j++[X[j]]:=by rw [List.take_add_one,hg];rfl
  cases hb:!decide ((FOf f hf).lp V X[j]=0)
  ·rw [hb] at hc
   have hb':decide ((FOf f hf).lp V X[j]=0)=true:=by simpa using hb
   have hk:keepR hf V (X.take (j+1))=keepR hf V (X.take j)++[X[j]]:=by
    unfold keepR
    rw [htk,List.filter_append,List.filter_cons_of_pos (p:=fun x=>decide ((FOf f hf).lp V x=0)) hb',List.filter_nil]
   have hkl:(keepR hf V (X.take (j+1))).length=(keepR hf V (X.take j)).length+1:=by rw [hk,List.length_append];rfl
   have hyi:=List.getElem?_eq_getElem (show (keepR hf V (X.take j)).length<Y.length by omega)
   obtain ⟨Y',h1,h2,h3⟩:=ih (j+1) (Y.set (keepR hf V (X.take j)).length X[j]) (by omega) (by rw [List.length_set];exact hY) (by
    rw [hkl,hk,List.take_add_one,List.take_set_of_le (Nat.le_refl _),ht,List.getElem?_set_self (by omega)]
    rfl) (by omega) (fun i hi=>by rw [List.getElem?_set_ne (by omega)];exact hr i (by omega))
   refine ⟨Y',?_,h2,h3⟩
   rw [←h1]
   refine kK ?_
   unfold bf
   dsimp only
   rw [Tre.aC,decide_eq_true (by rw [bG];omega),cond_true,lK (jd hyg),ak hc,Tre.aC,Bool.not_false,cond_true,lK (jd hyi),Tre.aM,bQ (by omega),bQ (by omega),Int.toNat_natCast,←OD,hkl]
  ·rw [hb] at hc
   have hb':¬decide ((FOf f hf).lp V X[j]=0)=true:=by simpa using hb
   have hk:keepR hf V (X.take (j+1))=keepR hf V (X.take j):=by
    unfold keepR
    rw [htk,List.filter_append,List.filter_cons_of_neg (p:=fun x=>decide ((FOf f hf).lp V x=0)) hb',List.filter_nil,List.append_nil]
   obtain ⟨Y',h1,h2,h3⟩:=ih (j+1) Y (by omega) hY (by rw [hk];exact ht) (by rw [hk];omega) (fun i hi=>hr i (by omega))
   refine ⟨Y',?_,h2,h3⟩
   rw [←h1]
   refine kK ?_
   unfold bf
   dsimp only
   rw [Tre.aC,decide_eq_true (by rw [bG];omega),cond_true,lK (jd hyg),ak hc,Tre.aC,Bool.not_true,cond_false,Tre.aM,bQ (by omega),hk]
theorem ada{f:TF3}(hf:aO f=true){V:List Nat}(hV:inL (FOf f hf) V)(hl:V.length≤1000){X:List Nat}(hX:inL (FOf f hf) X)(hXl:X.length≤1000) :
  (bY (aW X) f (aW V)=some (.inl ())∧keepR hf V X=X)∨∃b,bY (aW X) f (aW V)=some (.inr b)∧(b.2.2.drop b.1).take b.2.1=aW (keepR hf V X):=by
 unfold bY fO
 rw [ak (adw hf hV hl hX hXl),Tre.aC]
 rcases Ga (fun x:Nat=>!decide ((FOf f hf).lp V x=0)) X 0 with ⟨h1,h2⟩|⟨k,x,hk,hx,h1⟩
 ·left
  rw [h1,decide_eq_true rfl]
  refine ⟨rfl,List.filter_eq_self.2 fun x hx=>?_⟩
  have:=h2 x hx
  simpa using this
 ·right
  have hkl:k<X.length:=(List.getElem?_eq_some_iff.1 hk).1
  have hfirst:∀i y,i<k→X[i]?=some y→(!decide ((FOf f hf).lp V y=0))=false:=fun i y hi hy=>RN _ X 0 h1 i hi y hy
  rw [Nat.zero_add] at h1
  have hk0:keepR hf V (X.take k)=X.take k:=List.filter_eq_self.2 fun y hy=>by
   obtain ⟨i,hi⟩:=List.getElem?_of_mem hy
   have hik:i<k:=by
    have:=(List.getElem?_eq_some_iff.1 hi).1
    rw [List.length_take] at this
    omega
   rw [List.getElem?_take,if_pos hik] at hi
   have:=hfirst i y hik hi
   simpa using this
  have hk1:keepR hf V (X.take (k+1))=X.take k:=by
   have htk:X.take (k+1)=X.take k++[x]:=by rw [List.take_add_one,hk];rfl
   unfold keepR at hk0 ⊢
   rw [htk,List.filter_append,hk0,List.filter_cons_of_neg (p:=fun x=>decide ((FOf f hf).lp V x=0)) (by simpa using hx),List.filter_nil,List.append_nil]
  have hkk:(X.take k).length=k:=by rw [List.length_take];omega
  obtain ⟨Y',h3,h4,h5⟩:=aav hf hV hl hX hXl (X.length-(k+1)) (k+1) X (by omega) rfl (by rw [hk1,hkk]) (by rw [hk1,hkk];omega) (fun _ _=>rfl)
  rw [hk1,hkk] at h3
  have hle:(keepR hf V X).length≤X.length:=List.length_filter_le _ _
  rw [h1,decide_eq_false (by omega),cond_false,bQ (by omega),ak h3]
  dsimp only
  rw [bG,h4,Int.toNat_natCast,Tre.run_ite,if_pos (by omega),Tre.run_ite,if_pos (by omega),Tre.run_ite,if_pos (by
   refine ⟨by omega,by omega,?_⟩
   rw [List.length_append,List.length_append,List.length_take,List.length_replicate,List.length_drop,bG]
   omega),Tre.aM]
  refine ⟨_,rfl,?_⟩
  dsimp only
  rw [List.drop_zero,show (((keepR hf V X).length:Int)-0).toNat=(keepR hf V X).length by omega,List.append_assoc,List.take_append_of_le_length (by rw [List.length_take,bG];omega),List.take_take,Nat.min_self,←QI,h5]
def dJ:Env:=⟨tau,[(125,kN),(92,uL)],[]⟩
def jg:Code:=(Try.f90.body).getD .skip
def iE (DX:(Int×(Int×Unit))) (oI:List Int):(Int×Int×(List Int))→St:=fun x=>fA [(0,(.ref (0,0) [])),(1,(.fn 92 [(0,1),(0,2)])),(5,(.i x.1)),(6,(.i x.2.1))] [((0,0),some ⟨false,.il,.own,x.2.2⟩),((0,1),some ⟨true,aH,.own,DX⟩),((0,2),some ⟨true,.il,(.imm true),oI⟩)]
def gZ (DX:(Int×(Int×Unit))) (oI:List Int):(Int×(List Int))→Ex×St:=fun x=>(.exit 0,fA [(0,(.ref (0,0) [])),(5,(.i x.1))] [((0,0),some ⟨false,.il,.own,x.2⟩),((0,1),some ⟨true,aH,.own,DX⟩),((0,2),some ⟨true,.il,(.imm true),oI⟩)])
def nA (s:St):Tre (Ex×St):=
 nJ (0,0) [] (s.tmps 0)<|
 Hr 92 [(0,1),(0,2)] (s.tmps 1)<|
 aD true .n (s.tmps 5) fun d4=>
 aD true .n (s.tmps 6) fun d6=>
 dY false .il (s.roots (0,0)) fun m8 d9=>
 asM .own m8<|
 dY true aH (s.roots (0,1)) fun m11 d12=>
 asM .own m11<|
 dY true .il (s.roots (0,2)) fun m14 d15=>
 asM (.imm true) m14<|
 .mat (aZ (bf d12 d15) (d4,d6,d9)) fun x=>.ret (gZ d12 d15 x)
def dB:bS:=⟨([0,1,5,6],[(0,0),(0,1),(0,2)]),([0,5],[(0,0),(0,1),(0,2)]),nA⟩
def fG:List (Nat×bS):=[(5,dB)]
theorem l9:∀(DX:(Int×(Int×Unit)))(oI:List Int)(x:(Int×Int×(List Int)))(c:St→Option (Ex×St)),den dJ fG (bF jg 0) (iE DX oI x) (fE dB.kp dB.kx c)=(bf DX oI x).run (fF (iE DX oI) (gZ DX oI) c):=fun _ _ _ _=>by
 kernel_rfl
theorem mW:dZ dJ fG (bF jg 0) dB:=jf fun _ _ _=>J9<|tFn<|aU fun _=>aU fun _=>mP fun _ _=>tM<|mP fun _ _=>tM<|mP fun _ _=>tM<|fun h _ e13 _ e10 _ e7 e5 e3 e2 e1=>gB (l9 _ _) h (by subst_vars;exact bn rfl rfl ⟨e1,e2,e3,e5,trivial⟩ ⟨e7,e10,e13,trivial⟩)
def pE:FnI:=fnI Try.f90 fG
def fq (p0:List Int) (p1:(Int×(Int×Unit))) (p2:List Int):(Unit ⊕ (Nat×Nat×(List Int)))→au
 |.inl _=>⟨(.ref (0,0) []),[⟨false,.il,.own,p0⟩,⟨true,aH,.own,p1⟩,⟨true,.il,(.imm true),p2⟩],[]⟩
 |.inr r=>⟨(.slc (0,0) [] r.1 r.2.1),[⟨false,.il,.own,r.2.2⟩,⟨true,aH,.own,p1⟩,⟨true,.il,(.imm true),p2⟩],[]⟩
theorem om:∀(p0:List Int)(p1:(Int×(Int×Unit)))(p2:List Int),bU dJ pE ⟨[(.ref (0,0) []),(.fn 92 [(0,1),(0,2)])],[⟨false,.il,.own,p0⟩,⟨true,aH,.own,p1⟩,⟨true,.il,(.imm true),p2⟩]⟩=(fO p0 p1 p2).run fun r=>some (fq p0 p1 p2 r):=fun _ _ _=>by kernel_rfl
def pz (av:List AV) (rs:List Root):Tre au:=
 aA av fun a0_ av0=>
 aA av0 fun a1_ av1=>
 aK av1<|
 aA rs fun r0_ rs0=>
 aA rs0 fun r1_ rs1=>
 aA rs1 fun r2_ rs2=>
 aK rs2<|
 nJ (0,0) [] a0_<|
 Hr 92 [(0,1),(0,2)] a1_<|
 uH false .il r0_ fun m1 d2=>
 asM .own m1<|
 uH true aH r1_ fun m3 d4=>
 asM .own m3<|
 uH true .il r2_ fun m5 d6=>
 asM (.imm true) m5<|
 .mat (bY d2 d4 d6) fun r=>.alt r (fun a0=>.ret (fq d2 d4 d6 (.inl a0))) (fun b0=>.ret (fq d2 d4 d6 (.inr b0)))
def jh:Ctr:=fJ [0] pz
theorem oq:Contract Try.prog .none 90 jh:=aB (V:=dJ) aS (ay sQ YO (ay zP ai3 aG)) Try.func90 (dw (n:=1) fun k hk=>by
 match k,hk with
 |0,_=>exact eH (id:=5) mW) fun _ _ _=>aJ fun _ _=>aJ fun _ _=>bD<|aJ fun _ _=>aJ fun _ _=>aJ fun _ _=>bD<|J9<|tFn<|tRt fun _ _=>tM<|tRt fun _ _=>tM<|tRt fun _ _=>tM<|fun h=>by intros;subst_vars;exact Uw (om _ _ _) h (by rintro (x|x)<;>rfl)
def Qy (p0:(Int×(Int×Unit))) (p1:List Int):Tre (Int×(List Int)):=
 .mat (eu p0 ([p1])) fun r1=>
 .cond (!decide (r1=0))
  (.ret (r1,[]))
  (.mat (xM p0) fun r2=>
  .mat (bY r2 p0 p1) fun r3=>
  .alt r3
   (fun _=>
    .ret (0,r2))
   (fun b5=>
    .ret (0,(b5.2.2.drop b5.1).take b5.2.1)))
def yI (p0:(Int×(Int×Unit))) (p1:List Int):Option (Int×(List Int)):=(Qy p0 p1).run some
-- more
theorem aeS{f:TF3}(hf:aO f=true){V:List Nat}(hV:Yt hf V):yI f (aW V)=some (0,aW (keepR hf V (List.range (FOf f hf).q))):=by
 have hq:(FOf f hf).q≤32:=by rw [yg];exact Nat.pow_le_pow_right (n:=2) (by decide) (FL hf).2
 have hc:=Ju hf (Ls:=[V]) (by simp) fun L hL=>by rw [List.mem_singleton.1 hL];exact hV
 have hl:=hV.2.2
 unfold yI Qy
 rw [ak (show eu f [aW V]=some 0 from hc),Tre.aC,decide_eq_true rfl,Bool.not_true,cond_false,ak (ahT hf)]
 rcases ada hf hV.1 (by omega) (X:=List.range (FOf f hf).q) (fun x hx=>List.mem_range.1 hx) (by rw [List.length_range];omega) with ⟨h1,h2⟩|⟨b,h1,h2⟩
 ·rw [ak h1,Tre.aiC,Tre.aM,h2]
 ·rw [ak h1,Tre.Zx,Tre.aM,h2]
def Rv:Env:=⟨tau,[(89,mH),(91,Lh),(90,jh)],[]⟩
def aaO:FnI:=fnI Try.f28 []
def Lp (_:(Int×(Int×Unit))) (_:List Int):(Int×(List Int))→au:=fun r=>⟨(.tcons (.ref (1,0) []) (.tcons (.i r.1) .tnil)),[],[⟨false,.il,.own,r.2⟩]⟩
theorem YW:∀(p0:(Int×(Int×Unit)))(p1:List Int),bU Rv aaO ⟨[(.imm true aH p0),(.imm true .il p1)],[]⟩=(Qy p0 p1).run fun r=>some (Lp p0 p1 r):=fun _ _=>by kernel_rfl
def aaN (av:List AV) (rs:List Root):Tre au:=
 aA av fun a0_ av0=>
 aA av0 fun a1_ av1=>
 aK av1<|
 aK rs<|
 aD true aH a0_ fun d1=>
 aD true .il a1_ fun d2=>
 .mat (yI d1 d2) fun r=>.ret (Lp d1 d2 r)
def Rw:Ctr:=fJ [] aaN
theorem YX:Contract Try.prog .none 28 Rw:=aB (V:=Rv) aS (ay qo agk (ay UH akt (ay oq aks aG))) Try.func28 bN fun _ _ _=>aJ fun _ _=>aJ fun _ _=>bD<|bD<|aU fun _=>aU fun _=>fun h=>by intros;subst_vars;exact bC (YW _ _) h
def FY (p0:bP) (p1:Int):Tre Bool:=
 .ite (0≤p0.1)<|
 let v1:=aI .i64 ((Ah .i64 1 p0.1)-1)
 .ret (inR p1 0 v1)
def vM (p0:bP) (p1:Int):Option Bool:=(FY p0 p1).run some
def Jh:Env:=⟨tau,[(57,Bu)],[]⟩
def UR:FnI:=fnI Try.f209 []
def EK (_:Bool) (_:bP) (_:Int):Bool→au:=fun r=>⟨(.imm true .bool r),[],[]⟩
theorem SX:∀(zp0:Bool)(p0:bP)(p1:Int),bU Jh UR ⟨[(.imm zp0 eG p0),(.i p1)],[]⟩=(FY p0 p1).run fun r=>some (EK zp0 p0 p1 r):=fun _ _ _=>by kernel_rfl
def UQ (av:List AV) (rs:List Root):Tre au:=
 aA av fun a0_ av0=>
 aA av0 fun a1_ av1=>
 aK av1<|
 aK rs<|
 bX eG a0_ fun z2 d1=>
 aD true .n a1_ fun d3=>
 .mat (vM d1 d3) fun r=>.ret (EK z2 d1 d3 r)
def Ji:Ctr:=fJ [] UQ
theorem S9:Contract Try.prog .none 209 Ji:=aB (V:=Jh) aS (ay Dq adS aG) Try.func209 bN fun _ _ _=>aJ fun _ _=>aJ fun _ _=>bD<|bD<|iq fun _ _=>aU fun _=>fun h=>by intros;subst_vars;exact bC (SX _ _ _) h
def rE (p0:Int) (p1:bP):Tre Bool:=
 .mat (vM p1 p0) fun r1=>
 .ret (!r1)
def kV (p0:Int) (p1:bP):Option Bool:=(rE p0 p1).run some
def vO:Env:=⟨tau,[(209,Ji)],[]⟩
def F6:FnI:=fnI Try.f208 []
def tY (zp0:Bool) (_:Int) (p1:bP):Bool→au:=fun r=>⟨(.imm true .bool r),[⟨true,eG,(.imm zp0),p1⟩],[]⟩
theorem EO:∀(zp0:Bool)(p0:Int)(p1:bP),bU vO F6 ⟨[(.i p0),(.ptr (0,0) [])],[⟨true,eG,(.imm zp0),p1⟩]⟩=(rE p0 p1).run fun r=>some (tY zp0 p0 p1 r):=fun _ _ _=>by kernel_rfl
def F5 (av:List AV) (rs:List Root):Tre au:=
 aA av fun a0_ av0=>
 aA av0 fun a1_ av1=>
 aK av1<|
 aA rs fun r0_ rs0=>
 aK rs0<|
 aD true .n a0_ fun d1=>
 nu (0,0) [] a1_<|
 uH true eG r0_ fun m2 d3=>
 ru m2 fun z4=>
 .mat (kV d1 d3) fun r=>.ret (tY z4 d1 d3 r)
def vP:Ctr:=fJ [] F5
theorem ER:Contract Try.prog .none 208 vP:=aB (V:=vO) aS (ay S9 ajD aG) Try.func208 bN fun _ _ _=>aJ fun _ _=>aJ fun _ _=>bD<|aJ fun _ _=>bD<|aU fun _=>Ap<|tRt fun _ _=>Hq fun _=>fun h=>by intros;subst_vars;exact bC (EO _ _ _) h
def bL (bA:List Int) (bg:Int) (aR:bP):Int→Tre (Int ⊕ (Int ⊕ Unit)):=fun s2=>
 .cond (decide (s2<bg))
  (.ite (0≤s2∧s2<(bA.length:Int))<|
  .mat (bA[s2.toNat]?) fun x1=>
  .mat (kV x1 aR) fun r2=>
  .cond r2
   (.ret (.inr (.inl s2)))
   (.ret (.inl (aI .i64 (s2+1)))))
  (.ret (.inr (.inr ())))
def gH (p0:List Int) (p1:bP):Tre Int:=
 .mat (aZ (bL p0 (p0.length:Int) p1) 0) fun l3=>
 .alt l3
  (fun a4=>
   .ret a4)
  (fun _=>
   .ret (-1))
def dS (p0:List Int) (p1:bP):Option Int:=(gH p0 p1).run some
def dU:Env:=⟨tau,[(208,vP)],[]⟩
def jD:Code:=(Try.f125.body).getD .skip
def fu (nk:Bool) (Kc:Bool) (bA:List Int) (bg:Int) (aR:bP):Int→St:=fun x=>fA [(0,(.imm nk .il bA)),(1,(.fn 208 [(0,0)])),(7,(.i bg)),(8,(.i x))] [((0,0),some ⟨true,eG,(.imm Kc),aR⟩)]
def dG (_:Bool) (Kc:Bool) (_:List Int) (_:Int) (aR:bP):(Int ⊕ Unit)→Ex×St
 |.inl x=>(.ret,fA [(4,(.i x))] [((0,0),some ⟨true,eG,(.imm Kc),aR⟩)])
 |.inr _=>(.exit 0,fA [(4,.dead)] [((0,0),some ⟨true,eG,(.imm Kc),aR⟩)])
def iU (s:St):Tre (Ex×St):=
 bX .il (s.tmps 0) fun z3 d2=>
 Hr 208 [(0,0)] (s.tmps 1)<|
 aD true .n (s.tmps 7) fun d6=>
 aD true .n (s.tmps 8) fun d8=>
 dY true eG (s.roots (0,0)) fun m10 d11=>
 ru m10 fun z12=>
 .mat (aZ (bL d2 d6 d11) d8) fun x=>.alt x (fun a0=>.ret (dG z3 z12 d2 d6 d11 (.inl a0))) (fun b0=>.ret (dG z3 z12 d2 d6 d11 (.inr b0)))
def bV:bS:=⟨([0,1,7,8],[(0,0)]),([4],[(0,0)]),iU⟩
def fQ:List (Nat×bS):=[(2,bV)]
theorem ng:∀(nk Kc:Bool)(bA:List Int)(bg:Int)(aR:bP)(x:Int)(c:St→Option (Ex×St)),den dU fQ (bF jD 0) (fu nk Kc bA bg aR x) (fE bV.kp bV.kx c)=(bL bA bg aR x).run (fF (fu nk Kc bA bg aR) (dG nk Kc bA bg aR) c):=fun _ _ _ _ _ _ _=>by
 kernel_rfl
theorem nY:dZ dU fQ (bF jD 0) bV:=mh fun s e s' h=>by
 generalize hs:restrict bV.kp s=s1 at h
 have h:(iU s1).run some=some (e,s'):=h
 obtain ⟨z3,d2,e1,h_0⟩:=lF h
 obtain ⟨e4,h_1⟩:=Ar h_0
 obtain ⟨d6,e5,h_2⟩:=dA h_1
 obtain ⟨d8,e7,h_3⟩:=dA h_2
 obtain ⟨m10,d11,e9,h_4⟩:=gY h_3
 obtain ⟨z12,rfl,h_5⟩:=Ir h_4
 obtain ⟨y,hy,hz⟩:=nQ h_5
 refine ⟨_,_,fu z3 z12 d2 d6 d11,dG z3 z12 d2 d6 d11,bL d2 d6 d11,d8,y,?_,hy,?_,ng z3 z12 d2 d6 d11⟩
 ·subst hs;exact bn (T:=[(0,(.imm z3 .il d2)),(1,(.fn 208 [(0,0)])),(7,(.i d6)),(8,(.i d8))]) (U:=[((0,0),some ⟨true,eG,(.imm z12),d11⟩)]) rfl rfl ⟨e1,e4,e5,e7,trivial⟩ ⟨e9,trivial⟩
 ·rcases y with x|x<;>exact Option.some.inj hz
def qz:FnI:=fnI Try.f125 fQ
def ji (_:Bool) (zp1:Bool) (_:List Int) (p1:bP):Int→au:=fun r=>⟨(.i r),[⟨true,eG,(.imm zp1),p1⟩],[]⟩
theorem pU:∀(zp0 zp1:Bool)(p0:List Int)(p1:bP),bU dU qz ⟨[(.imm zp0 .il p0),(.fn 208 [(0,0)])],[⟨true,eG,(.imm zp1),p1⟩]⟩=(gH p0 p1).run fun r=>some (ji zp0 zp1 p0 p1 r):=fun _ _ _ _=>by kernel_rfl
def qy (av:List AV) (rs:List Root):Tre au:=
 aA av fun a0_ av0=>
 aA av0 fun a1_ av1=>
 aK av1<|
 aA rs fun r0_ rs0=>
 aK rs0<|
 bX .il a0_ fun z2 d1=>
 Hr 208 [(0,0)] a1_<|
 uH true eG r0_ fun m3 d4=>
 ru m3 fun z5=>
 .mat (dS d1 d4) fun r=>.ret (ji z2 z5 d1 d4 r)
def jE:Ctr:=fJ [] qy
theorem pV:Contract Try.prog .none 125 jE:=aB (V:=dU) aS (ay ER ajC aG) Try.func125 (dw (n:=1) fun k hk=>by
 match k,hk with
 |0,_=>exact eH (id:=2) nY) fun _ _ _=>aJ fun _ _=>aJ fun _ _=>bD<|aJ fun _ _=>bD<|iq fun _ _=>tFn<|tRt fun _ _=>Hq fun _=>fun h=>by intros;subst_vars;exact bC (pU _ _ _ _) h
def fI (p0:List Int) (p1:bP):Tre Bool:=
 .mat (dS p0 p1) fun r1=>
 .ret (decide (r1 ≥ 0))
def dH (p0:List Int) (p1:bP):Option Bool:=(fI p0 p1).run some
def iR:Env:=⟨tau,[(125,jE)],[]⟩
def oh:FnI:=fnI Try.f55 []
def iF (_:Bool) (zp1:Bool) (_:List Int) (p1:bP):Bool→au:=fun r=>⟨(.imm true .bool r),[⟨true,eG,(.imm zp1),p1⟩],[]⟩
theorem nV:∀(zp0 zp1:Bool)(p0:List Int)(p1:bP),bU iR oh ⟨[(.imm zp0 .il p0),(.fn 208 [(0,0)])],[⟨true,eG,(.imm zp1),p1⟩]⟩=(fI p0 p1).run fun r=>some (iF zp0 zp1 p0 p1 r):=fun _ _ _ _=>by kernel_rfl
def og (av:List AV) (rs:List Root):Tre au:=
 aA av fun a0_ av0=>
 aA av0 fun a1_ av1=>
 aK av1<|
 aA rs fun r0_ rs0=>
 aK rs0<|
 bX .il a0_ fun z2 d1=>
 Hr 208 [(0,0)] a1_<|
 uH true eG r0_ fun m3 d4=>
 ru m3 fun z5=>
 .mat (dH d1 d4) fun r=>.ret (iF z2 z5 d1 d4 r)
def iT:Ctr:=fJ [] og
theorem nW:Contract Try.prog .none 55 iT:=aB (V:=iR) aS (ay pV YO aG) Try.func55 bN fun _ _ _=>aJ fun _ _=>aJ fun _ _=>bD<|aJ fun _ _=>bD<|iq fun _ _=>tFn<|tRt fun _ _=>Hq fun _=>fun h=>by intros;subst_vars;exact bC (nV _ _ _ _) h
-- shared
theorem adr{α:Type} [DecidableEq α] {l l':List α} (hl:l.Nodup) (hs:∀x∈l,x∈l') (hle:l'.length≤l.length):∀x∈l',x∈l:=by
 intro x hx
 refine Classical.byContradiction fun hn=>?_
 have:=Vw (l:=x::l) (l':=l') (List.nodup_cons.2 ⟨hn,hl⟩) (fun y hy=>by
  rcases List.mem_cons.1 hy with rfl|hy
  ·exact hx
  ·exact hs y hy)
 simp only [List.length_cons] at this
 omega
theorem ag8{p h:Nat}:∀(l:List Nat)(i:Nat),(∀x∈l,x.testBit p=false)→(wD h i l).testBit p=false:=by
 intro l
 induction l with
 |nil=>intro i _;exact Nat.zero_testBit p
 |cons x l ih=>
  intro i hx
  simp only [wD]
  rw [Nat.testBit_xor,ih (i+1) fun y hy=>hx y (.tail _ hy)]
  cases h.testBit i
  ·simp
  ·simp [hx x (.head _)]
theorem ad5{p h:Nat}:∀(l:List Nat)(i j:Nat),(∀j' x,l[j']?=some x→x.testBit p=decide (j'=j))→j<l.length→(wD h i l).testBit p=h.testBit (i+j):=by
 intro l
 induction l with
 |nil=>intro i j _ hj;simp at hj
 |cons x l ih=>
  intro i j hx hj
  simp only [wD]
  rw [Nat.testBit_xor]
  have h0:=hx 0 x rfl
  cases j with
  |zero=>
   rw [ag8 l (i+1) fun y hy=>by
    obtain ⟨k,hk⟩:=List.getElem?_of_mem hy
    have:=hx (k+1) y (by simpa using hk)
    simpa using this]
   cases h.testBit i
   ·simp
   ·simp [h0]
  |succ j=>
   rw [ih (i+1) j (fun k y hk=>by have:=hx (k+1) y (by simpa using hk);simpa using this) (by simpa using hj)]
   have h0:x.testBit p=false:=by simpa using h0
   rw [show i+1+j=i+(j+1) by omega]
   cases h.testBit i<;>simp [h0]
theorem aeC{ns:List Nat}(h:jA ns ns){q:Nat}(hq:q<ns.length):∃p,∀j x,ns[j]?=some x→x.testBit p=decide (j=q):=by
 obtain ⟨P,c,hr,rfl,_⟩:=h
 rw [List.length_map] at hq
 refine ⟨P[q].1,fun j x hx=>?_⟩
 rw [List.getElem?_map] at hx
 cases hj:P[j]? with
 |none=>rw [hj] at hx;cases hx
 |some a=>
  rw [hj] at hx
  simp only [Option.map_some,Option.some.injEq] at hx
  subst hx
  obtain ⟨hjl,rfl⟩:=List.getElem?_eq_some_iff.1 hj
  by_cases hjq:j=q
  ·subst hjq
   simpa using (hr.1 _ (List.getElem_mem hjl)).2.1
  ·rw [decide_eq_false hjq]
   refine hr.apart (List.getElem_mem hjl) (List.getElem_mem hq) ?_
   have hp:=List.pairwise_iff_getElem.1 hr.2
   rcases Nat.lt_or_gt_of_ne hjq with h|h
   ·exact Nat.ne_of_lt (hp j q hjl hq h).1
   ·exact Nat.ne_of_gt (hp q j hq hjl h).1
theorem aiH{ns:List Nat}(h:jA ns ns){a b:Nat}(ha:a<2 ^ ns.length)(hb:b<2 ^ ns.length)(he:wD a 0 ns=wD b 0 ns):a=b:=by
 apply Nat.eq_of_testBit_eq
 intro q
 by_cases hq:q<ns.length
 ·obtain ⟨p,hp⟩:=aeC h hq
  have h1:=ad5 (h:=a) ns 0 q hp hq
  have h2:=ad5 (h:=b) ns 0 q hp hq
  rw [he,h2,Nat.zero_add] at h1
  exact h1.symm
 ·rw [Nat.testBit_lt_two_pow (Nat.lt_of_lt_of_le ha (Nat.pow_le_pow_right (by decide) (by omega))),Nat.testBit_lt_two_pow (Nat.lt_of_lt_of_le hb (Nat.pow_le_pow_right (by decide) (by omega)))]
theorem ajZ{ns:List Nat}{v:Nat}(h:Sp ns v):∃a,a<2 ^ ns.length∧wD a 0 ns=v:=by
 induction h with
 |zero=>exact ⟨0,Nat.two_pow_pos _,Q8 ns 0⟩
 |add hr _ ih=>
  obtain ⟨a,ha,rfl⟩:=ih
  obtain ⟨j,hj⟩:=List.getElem?_of_mem hr
  have hjl:j<ns.length:=(List.getElem?_eq_some_iff.1 hj).1
  have:=V6 ns 0 j hj
  rw [Nat.zero_add] at this
  exact ⟨2 ^ j^^^a,Nat.xor_lt_two_pow (Nat.pow_lt_pow_right (by decide) hjl) ha,by rw [abV,this]⟩
def Wq(ns:List Nat):List Nat:=(List.range (2 ^ ns.length)).map fun a=>wD a 0 ns
theorem aiW{ns:List Nat}{v:Nat}:v∈Wq ns↔Sp ns v:=by
 unfold Wq
 rw [List.mem_map]
 constructor
 ·rintro ⟨a,_,rfl⟩;exact aiG a ns ns 0 fun x hx=>hx
 ·intro h
  obtain ⟨a,ha,rfl⟩:=ajZ h
  exact ⟨a,List.mem_range.2 ha,rfl⟩
theorem afs{ns:List Nat}(h:jA ns ns):(Wq ns).Nodup:=by
 unfold Wq
 rw [List.nodup_iff_pairwise_ne]
 refine List.pairwise_map.2 (List.Pairwise.imp_of_mem ?_ (List.nodup_iff_pairwise_ne.1 List.nodup_range))
 intro a b ha hb hab he
 exact hab (aiH h (List.mem_range.1 ha) (List.mem_range.1 hb) he)
def Zn(m:Int×List Int×Unit):Bool:=inR m.1 1 10&&(decide (m.2.1.length≤10)&&m.2.1.all (inP m.1))
def aiJ (m:Int×List Int×Unit):Bool:=Zn m&&decide (YL m.2.1=m.2.1)
theorem aiw{m:Int×List Int×Unit}(h:Zn m=true):∃(c:Nat) (ns:List Nat),m=((c:Int),up ns,())∧1≤c∧c≤10∧ns.length≤10∧∀n∈ns,n<2 ^ c:=by
 obtain ⟨a,xs,_⟩:=m
 simp only [Zn,Bool.and_eq_true,Ag,decide_eq_true_eq,List.all_eq_true] at h
 obtain ⟨⟨h1,h2⟩,h3,h4⟩:=h
 obtain ⟨c,rfl⟩:=Int.eq_ofNat_of_zero_le (show 0≤a by omega)
 have hc:c≤62:=by omega
 refine ⟨c,xs.map Int.toNat,?_,by omega,by omega,by simpa using h3,fun n hn=>?_⟩
 ·have:up (xs.map Int.toNat)=xs:=by
   unfold up
   rw [List.map_map]
   refine (List.map_congr_left fun x hx=>?_).trans (List.map_id xs)
   obtain ⟨n,rfl,_⟩:=adX hc (h4 x hx)
   simp
  rw [this]
 ·obtain ⟨x,hx,rfl⟩:=List.mem_map.1 hn
  obtain ⟨k,rfl,hk⟩:=adX hc (h4 x hx)
  simpa using hk
theorem Yh{c b:Nat}{ns:List Nat}(hc:c≤b)(hl:ns.length≤1048576)(hn:∀n∈ns,n<2 ^ c):Jz b (up ns)=true:=
 QU hl fun n h=>Nat.lt_of_lt_of_le (hn n h) (adt hc)
theorem aiM{σ β:Type}{step:σ→Tre (σ ⊕ β)}(st:Nat→σ)(n:Nat){b:β}(h:∀i,i<n→(step (st i)).run some=some (.inl (st (i+1))))(hd:(step (st n)).run some=some (.inr b)) :
  ∀k i,i+k=n→aZ step (st i)=some b:=by
 intro k
 induction k with
 |zero=>
  intro i hi
  obtain rfl:i=n:=by omega
  exact gQ hd
 |succ k ih=>
  intro i hi
  rw [kK (h i (by omega))];exact ih (i+1) (by omega)
theorem Vj{k:Nat}(h:k≤10):Ah .i64 1 (k:Int)=((2 ^ k:Nat):Int):=by
 have:∀k:Nat,k<11→Ah .i64 1 (k:Int)=((2 ^ k:Nat):Int):=by decide
 exact this k (by omega)
theorem ae5{k:Nat}(h:k≤10):2 ^ k≤1024:=Nat.pow_le_pow_right (n:=2) (by decide) h
def D9 (p0:bP):Tre Bool:=
 .cond (inR p0.1 1 10)
  (.cond (decide ((p0.2.1.length:Int)≤10))
   (.mat (dH p0.2.1 p0) fun r1=>
   .ret (!r1))
   (.ret false))
  (.ret false)
def pK (p0:bP):Option Bool:=(D9 p0).run some
-- more
theorem SY(m:Int×List Int×Unit)(x:Int)(h:0≤m.1):vM m x=some (inP m.1 x):=by
 unfold vM FY
 rw [Tre.run_ite,if_pos h]
 rfl
theorem EP(m:Int×List Int×Unit)(x:Int)(h:0≤m.1):kV x m=some (!inP m.1 x):=by
 unfold kV rE
 rw [ak (SY m x h)]
 rfl
theorem Oq(xs:List Int)(m:Int×List Int×Unit)(h:0≤m.1)(hl:xs.length≤1048576):dS xs m=some (Ee (fun x=>!inP m.1 x) 0 xs):=by
 unfold dS gH
 rw [Tre.oZ,EA (xs:=xs) (fun i x=>cond (!inP m.1 x) (some (.inl (i:Int))) none) (.inr ())]
 ·rw [Option.bind_some,←Qg (p:=fun x=>!inP m.1 x)]
  generalize IE _ _ _ _=r
  cases r<;>rfl
 ·intro i x hx
  have hi:i<xs.length:=(List.getElem?_eq_some_iff.1 hx).1
  unfold bL
  rw [oW hx,ak (EP m x h),Tre.aC]
  cases inP m.1 x
  ·rfl
  ·simp only [Bool.not_true,cond_false,Tre.aM,bQ (show i<4611686018427387904 by omega)]
 ·unfold bL
  exact qN
theorem Oo(xs:List Int)(m:Int×List Int×Unit)(h:0≤m.1)(hl:xs.length≤1048576):dH xs m=some (xs.any fun x=>!inP m.1 x):=by
 unfold dH fI
 rw [ak (Oq xs m h hl),Tre.aM,aa3]
theorem EM(m:Int×List Int×Unit)(hl:m.2.1.length≤1048576):pK m=some (Zn m):=by
 unfold pK D9 Zn
 rw [Tre.aC]
 cases h1:inR m.1 1 10
 ·rfl
 rw [cond_true,Tre.aC,Bool.true_and]
 rw [Ag] at h1
 by_cases h2:(m.2.1.length:Int)≤10
 ·rw [decide_eq_true h2,cond_true,ak (Oo m.2.1 m (by omega) hl),Tre.aM,decide_eq_true (show m.2.1.length≤10 by omega),Bool.true_and,List.not_any_eq_all_not]
  simp only [Bool.not_not]
 ·rw [decide_eq_false h2,decide_eq_false (show ¬m.2.1.length≤10 by omega)];rfl
def GZ:Env:=⟨tau,[(57,Bu),(55,iT)],[]⟩
def Td:FnI:=fnI Try.f154 []
def Di (_:Bool) (_:bP):Bool→au:=fun r=>⟨(.imm true .bool r),[],[]⟩
theorem QA:∀(zp0:Bool)(p0:bP),bU GZ Td ⟨[(.imm zp0 eG p0)],[]⟩=(D9 p0).run fun r=>some (Di zp0 p0 r):=fun _ _=>by kernel_rfl
def Tc (av:List AV) (rs:List Root):Tre au:=
 aA av fun a0_ av0=>
 aK av0<|
 aK rs<|
 bX eG a0_ fun z2 d1=>
 .mat (pK d1) fun r=>.ret (Di z2 d1 r)
def zw:Ctr:=fJ [] Tc
theorem EN:Contract Try.prog .none 154 zw:=aB (V:=GZ) aS (ay Dq adS (ay nW ai0 aG)) Try.func154 bN fun _ _ _=>aJ fun _ _=>bD<|bD<|iq fun _ _=>fun h=>by intros;subst_vars;exact bC (QA _ _) h
def vg:Tre (List Int):=
 .ret []
def Cn:Option (List Int):=(vg).run some
theorem zI:Cn=some []:=rfl
def tu:Env:=⟨tau,[],[]⟩
def Cq:FnI:=fnI Try.f61 []
def qR:(List Int)→au:=fun r=>⟨(.ref (1,0) []),[],[⟨false,.il,.own,r⟩]⟩
theorem BU:bU tu Cq ⟨[.nil],[]⟩=(vg).run fun r=>some (qR r):=by kernel_rfl
def Co (av:List AV) (rs:List Root):Tre au:=
 aA av fun a0_ av0=>
 aK av0<|
 aK rs<|
 adO a0_<|
 .ret (qR [])
def Cr:Ctr:=fJ [] Co
theorem BX:Contract Try.prog .none 61 Cr:=aB (V:=tu) aS aG Try.func61 bN fun _ _ _=>aJ fun _ _=>bD<|bD<|akL<|fun h=>by intros;subst_vars;exact NW BU zI h
def nU (p0:List Int):Tre (List Int):=
 .ite ((0+p0.length)*8≤fD∧1≤8)<|
 .ret ([]++p0)
def sZ (p0:List Int):Option (List Int):=(nU p0).run some
theorem zH(p0 y:List Int)(h:za p0=some y):sZ p0=some y:=by
 obtain ⟨hl,rfl⟩:=OL h
 have hb:(0+p0.length)*8≤fD∧1≤8:=by unfold fD;omega
 unfold sZ nU
 rw [Tre.run_ite,if_pos hb]
 rfl
def tq:Env:=⟨tau,[],[]⟩
def Ck:FnI:=fnI Try.f61 []
def qQ (_:Bool) (_:List Int):(List Int)→au:=fun r=>⟨(.ref (1,0) []),[],[⟨false,.il,.own,r⟩]⟩
theorem BQ:∀(zp0:Bool)(p0:List Int),bU tq Ck ⟨[(.nn zp0 .n p0)],[]⟩=(nU p0).run fun r=>some (qQ zp0 p0 r):=fun _ _=>by kernel_rfl
def Cj (av:List AV) (rs:List Root):Tre au:=
 aA av fun a0_ av0=>
 aK av0<|
 aK rs<|
 ahJ .n a0_ fun z1 d2=>
 .mat (za d2) fun r=>.ret (qQ z1 d2 r)
def Cm:Ctr:=fJ [] Cj
theorem BR:Contract Try.prog .none 61 Cm:=aB (V:=tq) aS aG Try.func61 bN fun _ _ _=>aJ fun _ _=>bD<|bD<|tNn fun _ _=>fun h=>by intros;subst_vars;exact CF (BQ _ _) (zH _) h
theorem Gr(y:List Int)(h:za ([]:List Int)=some y):y=[]:=(OL h).2.symm
def y5 (av:List AV) (rs:List Root):Tre au:=
 aA av fun a0_ av0=>
 aK av0<|
 aK rs<|
 bX .il a0_ fun _ d1=>
 .mat (za d1) fun r=>.ret ⟨(.ref (1,0) []),[],[⟨false,.il,.own,r⟩]⟩
def rP:Ctr:=⟨[],fun ci=>y5 ci.args ci.roots,false⟩
theorem wP:Contract Try.prog .none 61 rP:=by
 refine YH (e:=.n) BX BR ?_
 rintro ⟨av,rs⟩ co h
 have h:(y5 av rs).run some=some co:=h
 obtain ⟨a0_,av0,rfl,h_0⟩:=Cv h
 obtain ⟨rfl,h_1⟩:=AB h_0
 obtain ⟨rfl,h_2⟩:=AB h_1
 obtain ⟨z2,d1,rfl,h_3⟩:=lF h_2
 refine ⟨z2,d1,rfl,?_,?_⟩
 ·exact h_3
 ·rintro rfl
  obtain ⟨y,h1,h2⟩:=TL h_3
  have hy:y=[]:=by
   have:=Gr y h1
   exact this
  subst hy
  rw [←h2];rfl
def xw (p0:Int) (p1:Int):Tre Bool:=
 .ite (0≤p1)<|
 let v1:=KU .i64 (OH .i64 p0 p1) 1
 .ret (decide (v1=1))
def Bp (p0:Int) (p1:Int):Option Bool:=(xw p0 p1).run some
def ahL(x j:Int):Option Bool:=aeg (decide (0≤j)) (AJ x j)
theorem Ia(p0 p1:Int)(y:Bool)(h:ahL p0 p1=some y):Bp p0 p1=some y:=by
 obtain ⟨hl,rfl⟩:=Ev h
 unfold Bp xw
 rw [Tre.run_ite,if_pos (of_decide_eq_true hl)]
 rfl
def Bq:Env:=⟨tau,[],[]⟩
def M8:FnI:=fnI Try.f202 []
def yL (_:Int) (p1:Int):Bool→au:=fun r=>⟨(.imm true .bool r),[⟨true,.n,.own,p1⟩],[]⟩
theorem KS:∀(p0 p1:Int),bU Bq M8 ⟨[(.i p0),(.ptr (0,0) [])],[⟨true,.n,.own,p1⟩]⟩=(xw p0 p1).run fun r=>some (yL p0 p1 r):=fun _ _=>by kernel_rfl
def M7 (av:List AV) (rs:List Root):Tre au:=
 aA av fun a0_ av0=>
 aA av0 fun a1_ av1=>
 aK av1<|
 aA rs fun r0_ rs0=>
 aK rs0<|
 aD true .n a0_ fun d1=>
 nu (0,0) [] a1_<|
 uH true .n r0_ fun m2 d3=>
 asM .own m2<|
 .mat (ahL d1 d3) fun r=>.ret (yL d1 d3 r)
def Br:Ctr:=fJ [] M7
theorem KT:Contract Try.prog .none 202 Br:=aB (V:=Bq) aS aG Try.func202 bN fun _ _ _=>aJ fun _ _=>aJ fun _ _=>bD<|aJ fun _ _=>bD<|aU fun _=>Ap<|tRt fun _ _=>tM<|fun h=>by intros;subst_vars;exact CF (KS _ _) (Ia _ _) h
def bW (bA:List Int) (bg:Int) (aR:Int):Int→Tre (Int ⊕ (Int ⊕ Unit)):=fun s2=>
 .cond (decide (s2<bg))
  (.ite (0≤s2∧s2<(bA.length:Int))<|
  .mat (bA[s2.toNat]?) fun x1=>
  .mat (ahL x1 aR) fun r2=>
  .cond r2
   (.ret (.inr (.inl s2)))
   (.ret (.inl (aI .i64 (s2+1)))))
  (.ret (.inr (.inr ())))
def iL (p0:List Int) (p1:Int):Tre Int:=
 .mat (aZ (bW p0 (p0.length:Int) p1) 0) fun l3=>
 .alt l3
  (fun a4=>
   .ret a4)
  (fun _=>
   .ret (-1))
def kP (p0:List Int) (p1:Int):Option Int:=(iL p0 p1).run some
def ahW(xs:List Int)(j:Int):Option Int:=aeg (decide (0≤j)&&decide (xs.length≤1048576)) (Ee (fun x=>AJ x j) 0 xs)
theorem qW(p0:List Int)(p1 y:Int)(h:ahW p0 p1=some y):kP p0 p1=some y:=by
 obtain ⟨hl,rfl⟩:=Ev h
 rw [Bool.and_eq_true] at hl
 obtain ⟨hm,hl⟩:=hl
 have hl:=of_decide_eq_true hl
 unfold kP iL
 rw [Tre.oZ,EA (xs:=p0) (fun i x=>cond (AJ x p1) (some (.inl (i:Int))) none) (.inr ())]
 ·rw [Option.bind_some,←Qg (p:=fun x=>AJ x p1)]
  generalize IE _ _ _ _=r
  cases r<;>rfl
 ·intro i x hx
  have hi:i<p0.length:=(List.getElem?_eq_some_iff.1 hx).1
  unfold bW
  rw [oW hx,ak (show ahL x p1=some _ from Au hm),Tre.aC]
  cases AJ x p1
  ·simp only [cond_false,Tre.aM,bQ (show i<4611686018427387904 by omega)]
  ·rfl
 ·unfold bW
  exact qN
def eX:Env:=⟨tau,[(202,Br)],[]⟩
def kQ:Code:=(Try.f125.body).getD .skip
def fT (nk:Bool) (bA:List Int) (bg:Int) (aR:Int):Int→St:=fun x=>fA [(0,(.imm nk .il bA)),(1,(.fn 202 [(0,0)])),(7,(.i bg)),(8,(.i x))] [((0,0),some ⟨true,.n,.own,aR⟩)]
def dP (_:Bool) (_:List Int) (_:Int) (aR:Int):(Int ⊕ Unit)→Ex×St
 |.inl x=>(.ret,fA [(4,(.i x))] [((0,0),some ⟨true,.n,.own,aR⟩)])
 |.inr _=>(.exit 0,fA [(4,.dead)] [((0,0),some ⟨true,.n,.own,aR⟩)])
def jO (s:St):Tre (Ex×St):=
 bX .il (s.tmps 0) fun z3 d2=>
 Hr 202 [(0,0)] (s.tmps 1)<|
 aD true .n (s.tmps 7) fun d6=>
 aD true .n (s.tmps 8) fun d8=>
 dY true .n (s.roots (0,0)) fun m10 d11=>
 asM .own m10<|
 .mat (aZ (bW d2 d6 d11) d8) fun x=>.alt x (fun a0=>.ret (dP z3 d2 d6 d11 (.inl a0))) (fun b0=>.ret (dP z3 d2 d6 d11 (.inr b0)))
def dz:bS:=⟨([0,1,7,8],[(0,0)]),([4],[(0,0)]),jO⟩
def gV:List (Nat×bS):=[(2,dz)]
theorem pI:∀(nk:Bool)(bA:List Int)(bg aR x:Int)(c:St→Option (Ex×St)),den eX gV (bF kQ 0) (fT nk bA bg aR x) (fE dz.kp dz.kx c)=(bW bA bg aR x).run (fF (fT nk bA bg aR) (dP nk bA bg aR) c):=fun _ _ _ _ _ _=>by
 kernel_rfl
theorem qA:dZ eX gV (bF kQ 0) dz:=mh fun s e s' h=>by
 generalize hs:restrict dz.kp s=s1 at h
 have h:(jO s1).run some=some (e,s'):=h
 obtain ⟨z3,d2,e1,h_0⟩:=lF h
 obtain ⟨e4,h_1⟩:=Ar h_0
 obtain ⟨d6,e5,h_2⟩:=dA h_1
 obtain ⟨d8,e7,h_3⟩:=dA h_2
 obtain ⟨m10,d11,e9,h_4⟩:=gY h_3
 obtain ⟨rfl,h_5⟩:=nI h_4
 obtain ⟨y,hy,hz⟩:=nQ h_5
 refine ⟨_,_,fT z3 d2 d6 d11,dP z3 d2 d6 d11,bW d2 d6 d11,d8,y,?_,hy,?_,pI z3 d2 d6 d11⟩
 ·subst hs;exact bn (T:=[(0,(.imm z3 .il d2)),(1,(.fn 202 [(0,0)])),(7,(.i d6)),(8,(.i d8))]) (U:=[((0,0),some ⟨true,.n,.own,d11⟩)]) rfl rfl ⟨e1,e4,e5,e7,trivial⟩ ⟨e9,trivial⟩
 ·rcases y with x|x<;>exact Option.some.inj hz
def tQ:FnI:=fnI Try.f125 gV
def ko (_:Bool) (_:List Int) (p1:Int):Int→au:=fun r=>⟨(.i r),[⟨true,.n,.own,p1⟩],[]⟩
theorem sS:∀(zp0:Bool)(p0:List Int)(p1:Int),bU eX tQ ⟨[(.imm zp0 .il p0),(.fn 202 [(0,0)])],[⟨true,.n,.own,p1⟩]⟩=(iL p0 p1).run fun r=>some (ko zp0 p0 p1 r):=fun _ _ _=>by kernel_rfl
def tO (av:List AV) (rs:List Root):Tre au:=
 aA av fun a0_ av0=>
 aA av0 fun a1_ av1=>
 aK av1<|
 aA rs fun r0_ rs0=>
 aK rs0<|
 bX .il a0_ fun z2 d1=>
 Hr 202 [(0,0)] a1_<|
 uH true .n r0_ fun m3 d4=>
 asM .own m3<|
 .mat (ahW d1 d4) fun r=>.ret (ko z2 d1 d4 r)
def kR:Ctr:=fJ [] tO
theorem sU:Contract Try.prog .none 125 kR:=aB (V:=eX) aS (ay KT ajy aG) Try.func125 (dw (n:=1) fun k hk=>by
 match k,hk with
 |0,_=>exact eH (id:=2) qA) fun _ _ _=>aJ fun _ _=>aJ fun _ _=>bD<|aJ fun _ _=>bD<|iq fun _ _=>tFn<|tRt fun _ _=>tM<|fun h=>by intros;subst_vars;exact CF (sS _ _ _) (qW _ _) h
def mR (rZ:Int) (CJ:Int) (vC:Int):(Int×(List Int))→Tre ((Int×(List Int)) ⊕ (List Int)):=fun s10=>
 .cond (decide (s10.1<CJ))
  (.cond (!decide (s10.1=rZ))
   (.ite (0≤s10.1∧s10.1<(s10.2.length:Int))<|
   .mat (s10.2[s10.1.toNat]?) fun x9=>
   .ite (0≤vC)<|
   let v10:=KU .i64 (OH .i64 x9 vC) 1
   .cond (decide (v10=1))
    (.ite (0≤s10.1∧s10.1<(s10.2.length:Int))<|
    .mat (s10.2[s10.1.toNat]?) fun x11=>
    .ite (0≤rZ∧rZ<(s10.2.length:Int))<|
    .mat (s10.2[rZ.toNat]?) fun x12=>
    .ite (0≤s10.1∧s10.1<(s10.2.length:Int))<|
    .mat (s10.2[s10.1.toNat]?) fun _=>
    let v14:=s10.2.set s10.1.toNat (yN .i64 x11 x12)
    .ret (.inl (aI .i64 (s10.1+1),v14)))
    (.ret (.inl (aI .i64 (s10.1+1),s10.2))))
   (.ret (.inl (aI .i64 (s10.1+1),s10.2))))
  (.ret (.inr s10.2))
def jc:(Int×(List Int)×Int)→Tre ((Int×(List Int)×Int) ⊕ (Int×(List Int))):=fun s4=>
 .cond (decide (s4.2.2<62))
  (.cond (decide (s4.1<(s4.2.1.length:Int)))
   (.ite (0≤s4.1∧s4.1≤(s4.2.1.length:Int)∧(s4.2.1.length:Int)≤(s4.2.1.length:Int))<|
   .mat (ahW ((s4.2.1.drop s4.1.toNat).take (((s4.2.1.length:Int)-s4.1).toNat)) s4.2.2) fun r2=>
   .cond (decide (r2<0))
    (.ret (.inl (s4.1,s4.2.1,aI .i64 (s4.2.2+1))))
    (.ite (0≤aI .i64 (s4.1+r2)∧aI .i64 (s4.1+r2)<(s4.2.1.length:Int))<|
    .mat (s4.2.1[(aI .i64 (s4.1+r2)).toNat]?) fun x3=>
    .ite (0≤s4.1∧s4.1<(s4.2.1.length:Int))<|
    .mat (s4.2.1[s4.1.toNat]?) fun x4=>
    .ite (0≤s4.1∧s4.1<(s4.2.1.length:Int))<|
    .mat (s4.2.1[s4.1.toNat]?) fun _=>
    let v6:=s4.2.1.set s4.1.toNat x3
    .ite (0≤aI .i64 (s4.1+r2)∧aI .i64 (s4.1+r2)<(v6.length:Int))<|
    .mat (v6[(aI .i64 (s4.1+r2)).toNat]?) fun _=>
    let v8:=v6.set ((aI .i64 (s4.1+r2)).toNat) x4
    .mat (aZ (mR s4.1 (v8.length:Int) s4.2.2) (0,v8)) fun l15=>
    .ret (.inl (aI .i64 (s4.1+1),l15,aI .i64 (s4.2.2+1)))))
   (.ret (.inr (s4.1,s4.2.1))))
  (.ret (.inr (s4.1,s4.2.1)))
def QD (p0:List Int):Tre (List Int):=
 .mat (za p0) fun r1=>
 .mat (aZ jc (0,r1,0)) fun l16=>
 .ite (0≤(0:Int)∧(0:Int)≤l16.1∧l16.1≤(l16.2.length:Int))<|
 .ret ((l16.2.drop 0).take ((l16.1-0).toNat))
def RB (p0:List Int):Option (List Int):=(QD p0).run some
def acM (xs:List Int):Option (List Int):=aeg (Jz 62 xs) (YL xs)
theorem U1(k c r:Nat)(hc:c≤62)(hr:r<2 ^ 62)(A B:List Nat)(hk:A.length=k)(hb:∀n∈A++r::B,n<2 ^ 62)(hl:(A++r::B).length≤1048576) :
  aZ (mR (k:Int) ((A++r::B).length:Int) (c:Int)) (0,up (A++r::B))=some (up (A.map (lX c r)++r::B.map (lX c r))):=by
 have hkr:(A++r::B)[k]?=some r:=by rw [List.getElem?_append_right (by omega),hk];simp
 generalize hL:A++r::B=l at *
 have:=ae2 (step:=mR (k:Int) (l.length:Int) (c:Int)) (fun i x=>if i=k then x else lX c r x) l id (by
  intro i x hx
  have hi:i<l.length:=(List.getElem?_eq_some_iff.1 hx).1
  have hx2:=ad9 (Zp (g:=fun i x=>if i=k then x else lX c r x) (i:=i) hx)
  rw [if_neg (Nat.lt_irrefl i)] at hx2
  have hr2:=ad9 (Zp (g:=fun i x=>if i=k then x else lX c r x) (i:=i) hkr)
  simp only [if_true,ite_self] at hr2
  have hxb:=hb x (List.mem_of_getElem? hx)
  rw [←agY hx]
  generalize hP:yT (fun i x=>if i=k then x else lX c r x) i l=P at *
  have hset:(up P).set i (x:Int)=up P:=List.ext_getElem? fun j=>by
   rw [List.getElem?_set]
   by_cases hj:i=j
   ·subst hj;rw [if_pos rfl,hx2,if_pos (List.getElem?_eq_some_iff.1 hx2).1]
   ·rw [if_neg hj]
  unfold mR
  rw [Tre.aC]
  show cond (decide ((i:Int)<(l.length:Int))) _ _=_
  rw [show decide ((i:Int)<(l.length:Int))=true from by simpa using hi,cond_true,Tre.aC]
  show cond (!decide ((i:Int)=(k:Int))) _ _=_
  by_cases hik:i=k
  ·rw [show decide ((i:Int)=(k:Int))=true from decide_eq_true (by omega),Bool.not_true,cond_false,Tre.aM,bQ (by omega),if_pos hik,←Wp,hset]
  ·rw [show decide ((i:Int)=(k:Int))=false from decide_eq_false (by omega),Bool.not_false,cond_true,lK hx2,Tre.run_ite,if_pos (by omega),Tre.aC,if_neg hik]
   show cond (AJ (x:Int) (c:Int)) _ _=_
   rw [Kg (by omega) (by omega)]
   have he:lX c r x=cond (x.testBit c) (x^^^r) x:=rfl
   rw [he]
   cases x.testBit c
   ·rw [cond_false,Tre.aM,bQ (by omega),cond_false,←Wp,hset]
   ·rw [cond_true,lK hx2,lK hr2,lK hx2,Tre.aM,bQ (by omega),yO (by omega) (by omega),Int.toNat_natCast,cond_true,←Wp])
  (by
  unfold mR
  exact qN)
 rw [this,←hL,Zk (f:=lX c r) (g:=fun i x=>if i=k then x else lX c r x) (r:=r) (B:=B) hk (fun i x h=>if_neg h) (if_pos rfl)]
 rfl
theorem U3(orig:List Nat):∀(n c:Nat)(E:List (Nat×Nat))(R:List Nat),c+n=62→Inv orig c E R→E.length+R.length≤1048576→(∀x∈R,x<2 ^ 62)→(∀a∈E,a.2<2 ^ 62) →
  ∃(E' L:List Nat),aZ jc ((E.length:Int),up (E.map (·.2)++R),(c:Int))=some ((E'.length:Int),up (E'++L))∧jA orig E':=by
 intro n
 induction n with
 |zero=>
  intro c E R hc hI _ hR _
  have:c=62:=hc
  subst this
  refine ⟨E.map (·.2),R,gQ ?_,hI.done fun x hx=>PU (hR x hx) (hI.low x hx)⟩
  unfold jc
  simp [Tre.aC,Tre.aM]
 |succ n ih=>
  intro c E R hc hI hl hR hEb
  have hcm:c<62:=by omega
  have hlen:(up (E.map (·.2)++R)).length=E.length+R.length:=by rw [rV];simp
  by_cases hR0:R=[]
  ·subst hR0
   refine ⟨E.map (·.2),[],gQ ?_,hI.done fun x hx=>by cases hx⟩
   unfold jc
   simp [Tre.aC,Tre.aM]
  have hRl:0<R.length:=List.length_pos_iff.2 hR0
  have hstep:∀E2 R2,Inv orig (c+1) E2 R2→E2.length+R2.length≤1048576→(∀x∈R2,x<2 ^ 62)→(∀a∈E2,a.2<2 ^ 62)→(jc ((E.length:Int),up (E.map (·.2)++R),(c:Int))).run some=some (.inl ((E2.length:Int),up (E2.map (·.2)++R2),((c+1:Nat):Int))) →
    ∃(E' L:List Nat),aZ jc ((E.length:Int),up (E.map (·.2)++R),(c:Int))=some ((E'.length:Int),up (E'++L))∧jA orig E':=by
   intro E2 R2 h1 h2 h3 h4 h5
   rw [kK h5]
   exact ih (c+1) E2 R2 (by omega) h1 h2 h3 h4
  have hsub:((up (E.map (·.2)++R)).drop E.length).take (((E.length+R.length:Nat):Int)-(E.length:Int)).toNat=up R:=by
   rw [show (((E.length+R.length:Nat):Int)-(E.length:Int)).toNat=R.length from by omega]
   unfold up
   rw [List.map_append,List.drop_append_of_le_length (by simp),List.drop_of_length_le (by simp),List.nil_append,List.take_of_length_le (by simp)]
  have hfind:ahW (up R) (c:Int)=some _:=Au (by rw [rV];simp;omega)
  have hw:aI .i64 ((c:Int)+1)=((c+1:Nat):Int):=bQ (by omega)
  have hdec:decide ((c:Int)<62)=true:=by simp;omega
  have hdec2:decide ((E.length:Int)<((E.length+R.length:Nat):Int))=true:=by simp;omega
  rcases Ga (fun x=>AJ x (c:Int)) (up R) 0 with ⟨h1,h2⟩|⟨j,x,h1,h2,h3⟩
  ·refine hstep E R (hI.skip fun x hx=>?_) hl hR hEb ?_
   ·have:=h2 (x:Int) (List.mem_map.2 ⟨x,hx,rfl⟩)
    have hxb:=hR x hx
    rwa [Kg (by omega) (by omega)] at this
   ·unfold jc
    dsimp only
    rw [hlen,Tre.aC,hdec,cond_true,Tre.aC,hdec2,cond_true,Tre.run_ite,if_pos (by omega),Int.toNat_natCast,hsub,ak (hfind.trans (by rw [h1])),Tre.aC]
    simp only [show decide ((-1:Int)<0)=true from rfl,cond_true,Tre.aM,hw]
  ·obtain ⟨r,hr1,rfl⟩:∃r:Nat,R[j]?=some r∧(r:Int)=x:=by
    simp only [up,List.getElem?_map,Option.map_eq_some_iff] at h1
    exact h1
   have hrm:r∈R:=List.mem_of_getElem? hr1
   have hrb:=hR r hrm
   rw [Kg (by omega) (by omega)] at h2
   rw [Nat.zero_add] at h3
   have hj:j<R.length:=(List.getElem?_eq_some_iff.1 hr1).1
   obtain ⟨y,R',rfl⟩:∃y R',R=y::R':=by
    cases R with
    |nil=>exact absurd rfl hR0
    |cons y R'=>exact ⟨y,R',rfl⟩
-- the rows behind the swap
   obtain ⟨B,hB,hB1,hB2,hBl⟩:∃B,((y::R').set 0 r).set j y=r::B∧(∀x∈B,x∈y::R')∧(∀x∈y::R',x=r∨x∈B)∧B.length=R'.length:=by
    cases j with
    |zero=>
     have hyr:y=r:=by simpa using hr1
     subst hyr
     exact ⟨R',by simp,fun x hx=>.tail _ hx,fun x hx=>by
      cases hx with
      |head=>exact .inl rfl
      |tail _ hx=>exact .inr hx,rfl⟩
    |succ j=>
     have hr1:R'[j]?=some r:=by simpa using hr1
     have hj':j<R'.length:=(List.getElem?_eq_some_iff.1 hr1).1
     refine ⟨R'.set j y,by simp,fun x hx=>?_,fun x hx=>?_,by simp⟩
     ·rcases List.mem_or_eq_of_mem_set hx with hx|rfl
      ·exact .tail _ hx
      ·exact .head _
     ·cases hx with
      |head=>exact .inr (List.mem_set hj' _)
      |tail _ hx=>
       obtain ⟨i,hi⟩:=List.getElem?_of_mem hx
       by_cases hij:j=i
       ·subst hij;rw [hr1] at hi;exact .inl (Option.some.inj hi).symm
       ·exact .inr (List.mem_of_getElem? (i:=i) (by rw [List.getElem?_set,if_neg hij,hi]))
   have hE2:((E.map fun a=>(a.1,lX c r a.2))++[(c,r)]).map (·.2)=(E.map (·.2)).map (lX c r)++[r]:=by simp [List.map_map,Function.comp_def]
   have hRB:(E.map (·.2)++r::B).length=E.length+(y::R').length:=by simp [hBl]
   have hall:∀x∈E.map (·.2)++r::B,x<2 ^ 62:=by
    intro x hx
    rcases List.mem_append.1 hx with hx|hx
    ·obtain ⟨a,ha,rfl⟩:=List.mem_map.1 hx;exact hEb a ha
    ·cases hx with
     |head=>exact hrb
     |tail _ hx=>exact hR x (hB1 x hx)
   refine hstep (E.map (fun a=>(a.1,lX c r a.2))++[(c,r)]) (B.map (lX c r)) (hI.step hrm h2 ?_ ?_) (by simp [hBl] at hl ⊢;omega) ?_ ?_ ?_
   ·intro z hz
    obtain ⟨x,hx,rfl⟩:=List.mem_map.1 hz
    exact .inr ⟨x,hB1 x hx,rfl⟩
   ·intro x hx
    rcases hB2 x hx with h|h
    ·exact .inl h
    ·exact .inr (List.mem_map.2 ⟨x,h,rfl⟩)
   ·intro z hz
    obtain ⟨x,hx,rfl⟩:=List.mem_map.1 hz
    exact Ur hrb (hR x (hB1 x hx))
   ·intro a ha
    rcases List.mem_append.1 ha with ha|ha
    ·obtain ⟨b,hb,rfl⟩:=List.mem_map.1 ha
     exact Ur hrb (hEb b hb)
    ·simp only [List.mem_singleton] at ha;subst ha;exact hrb
   ·have e1:=U1 E.length c r (by omega) hrb (E.map (·.2)) B (by simp) hall (by rw [hRB];exact hl)
    have hkj:aI .i64 ((E.length:Int)+(j:Int))=((E.length+j:Nat):Int):=by rw [jK (by omega) (by omega)];omega
    have hat1:(up (E.map (·.2)++y::R'))[E.length+j]?=some (r:Int):=ad9 (by rw [List.getElem?_append_right (by simp)];simpa using hr1)
    have hat2:(up (E.map (·.2)++y::R'))[E.length]?=some (y:Int):=ad9 (by rw [List.getElem?_append_right (by simp)];simp)
    have hs1:(up (E.map (·.2)++y::R')).set E.length (r:Int)=up (E.map (·.2)++(y::R').set 0 r):=by
     rw [Wp,List.set_append_right _ _ (by simp)]
     simp
    have hs2:(up (E.map (·.2)++(y::R').set 0 r)).set (E.length+j) (y:Int)=up (E.map (·.2)++r::B):=by
     rw [Wp,List.set_append_right _ _ (by simp),←hB]
     simp
    have hat3:∃z,(up (E.map (·.2)++(y::R').set 0 r))[E.length+j]?=some z:=⟨_,List.getElem?_eq_getElem (by rw [rV];simp at hj ⊢;omega)⟩
    obtain ⟨z,hat3⟩:=hat3
    have hlen3:((up (E.map (·.2)++r::B)).length:Int)=((E.map (·.2)++r::B).length:Int):=by rw [rV]
    unfold jc
    dsimp only
    rw [hlen,Tre.aC,hdec,cond_true,Tre.aC,hdec2,cond_true,Tre.run_ite,if_pos (by omega),Int.toNat_natCast,hsub,ak (hfind.trans (by rw [h3])),Tre.aC]
    rw [show decide ((j:Int)<0)=false from by simp,cond_false,hkj,←hlen,lK hat1,Zv hat2,Zv hat2]
    rw [Int.toNat_natCast,hs1,Zv hat3,hs2,hlen3,ak e1,Tre.aM,bQ (by omega),hw,hE2]
    simp [List.append_assoc]
theorem U4(p0 y:List Int)(h:acM p0=some y):RB p0=some y:=by
 obtain ⟨hl,rfl⟩:=Ev h
 obtain ⟨ns,rfl,hlen,hb,hn⟩:=Yi hl
 obtain ⟨E,L,h1,h2⟩:=U3 ns 62 0 [] ns (by omega) (Inv.start ns) (by simpa using hlen) hb (fun a ha=>by cases ha)
 unfold RB QD
 have e1:za (up ns)=some (up ns):=Zh (by rw [rV];exact hlen)
 have h1:aZ jc (0,up ns,0)=some ((E.length:Int),up (E++L)):=h1
 rw [ak e1,ak h1,Tre.run_ite,if_pos (by rw [rV];simp;omega),Tre.aM]
 unfold YL
 rw [hn,acP h2]
 simp [up]
def uY:Env:=⟨tau,[(61,rP),(125,kR)],[]⟩
def Dl:Code:=(Try.f146.body).getD .skip
def ET (rZ:Int) (CJ:Int) (vC:Int):(Int×(List Int))→St:=fun x=>fA [(0,(.ref (2,0) [])),(3,(.i rZ)),(4,(.ptr (6,0) [])),(45,(.i CJ)),(46,(.i x.1))] [((2,0),some ⟨false,.il,.own,x.2⟩),((6,0),some ⟨true,.n,.own,vC⟩)]
def Dm (rZ:Int) (_:Int) (vC:Int):(List Int)→Ex×St:=fun x=>(.exit 2,fA [(0,(.ref (2,0) [])),(3,(.i rZ)),(4,(.ptr (6,0) []))] [((2,0),some ⟨false,.il,.own,x⟩),((6,0),some ⟨true,.n,.own,vC⟩)])
def Tf (s:St):Tre (Ex×St):=
 nJ (2,0) [] (s.tmps 0)<|
 aD true .n (s.tmps 3) fun d3=>
 nu (6,0) [] (s.tmps 4)<|
 aD true .n (s.tmps 45) fun d6=>
 aD true .n (s.tmps 46) fun d8=>
 dY false .il (s.roots (2,0)) fun m10 d11=>
 asM .own m10<|
 dY true .n (s.roots (6,0)) fun m13 d14=>
 asM .own m13<|
 .mat (aZ (mR d3 d6 d14) (d8,d11)) fun x=>.ret (Dm d3 d6 d14 x)
def uE:bS:=⟨([0,3,4,45,46],[(2,0),(6,0)]),([0,3,4],[(2,0),(6,0)]),Tf⟩
def G6:(Int×(List Int)×Int)→St:=fun x=>fA [(0,(.ref (2,0) [])),(3,(.i x.1)),(4,(.ptr (6,0) []))] [((2,0),some ⟨false,.il,.own,x.2.1⟩),((6,0),some ⟨true,.n,.own,x.2.2⟩)]
def EU:(Int×(List Int))→Ex×St:=fun x=>(.exit 0,fA [(0,(.ref (2,0) [])),(3,(.i x.1))] [((2,0),some ⟨false,.il,.own,x.2⟩)])
def U2 (s:St):Tre (Ex×St):=
 nJ (2,0) [] (s.tmps 0)<|
 aD true .n (s.tmps 3) fun d3=>
 nu (6,0) [] (s.tmps 4)<|
 dY false .il (s.roots (2,0)) fun m6 d7=>
 asM .own m6<|
 dY true .n (s.roots (6,0)) fun m9 d10=>
 asM .own m9<|
 .mat (aZ jc (d3,d7,d10)) fun x=>.ret (EU x)
def vQ:bS:=⟨([0,3,4],[(2,0),(6,0)]),([0,3],[(2,0)]),U2⟩
def yK:List (Nat×bS):=[(10,uE),(4,vQ)]
theorem M6:∀(rZ CJ vC:Int)(x:(Int×(List Int)))(c:St→Option (Ex×St)),den uY yK (bF Dl 1) (ET rZ CJ vC x) (fE uE.kp uE.kx c)=(mR rZ CJ vC x).run (fF (ET rZ CJ vC) (Dm rZ CJ vC) c):=fun _ _ _ _ _=>by
 kernel_rfl
theorem QE:dZ uY yK (bF Dl 1) uE:=jf fun _ _ _=>J9<|aU fun _=>Ap<|aU fun _=>aU fun _=>mP fun _ _=>tM<|mP fun _ _=>tM<|fun h _ e12 _ e9 e7 e5 e4 e2 e1=>gB (M6 _ _ _) h (by subst_vars;exact bn rfl rfl ⟨e1,e2,e4,e5,e7,trivial⟩ ⟨e9,e12,trivial⟩)
theorem Ou:∀(x:(Int×(List Int)×Int))(c:St→Option (Ex×St)),den uY yK (bF Dl 0) (G6 x) (fE vQ.kp vQ.kx c)=(jc x).run (fF (G6) (EU) c):=fun _ _=>by
 kernel_rfl
theorem Tg:dZ uY yK (bF Dl 0) vQ:=jf fun _ _ _=>J9<|aU fun _=>Ap<|mP fun _ _=>tM<|mP fun _ _=>tM<|fun h _ e8 _ e5 e4 e2 e1=>gB Ou h (by subst_vars;exact bn rfl rfl ⟨e1,e2,e4,trivial⟩ ⟨e5,e8,trivial⟩)
def aaU:FnI:=fnI Try.f146 yK
def LA (_:Bool) (_:List Int):(List Int)→au:=fun r=>⟨(.ref (1,0) []),[],[⟨false,.il,.own,r⟩]⟩
theorem Y5:∀(zp0:Bool)(p0:List Int),bU uY aaU ⟨[(.imm zp0 .il p0)],[]⟩=(QD p0).run fun r=>some (LA zp0 p0 r):=fun _ _=>by kernel_rfl
def aaT (av:List AV) (rs:List Root):Tre au:=
 aA av fun a0_ av0=>
 aK av0<|
 aK rs<|
 bX .il a0_ fun z2 d1=>
 .mat (acM d1) fun r=>.ret (LA z2 d1 r)
def Jm:Ctr:=fJ [] aaT
theorem Ov:Contract Try.prog .none 146 Jm:=aB (V:=uY) aS (ay wP ai1 (ay sU YO aG)) Try.func146 (dw (n:=2) fun k hk=>by
 match k,hk with
 |0,_=>exact eH (id:=4) Tg
 |1,_=>exact eH (id:=10) QE) fun _ _ _=>aJ fun _ _=>bD<|bD<|iq fun _ _=>fun h=>by intros;subst_vars;exact CF (Y5 _ _) (U4 _) h
def D7 (p0:bP):Tre (Int×(List Int)):=
 .mat (acM p0.2.1) fun r1=>
 .ret (p0.1,r1)
def uz (p0:bP):Option (Int×(List Int)):=(D7 p0).run some
def GU:Env:=⟨tau,[(146,Jm)],[]⟩
def SV:FnI:=fnI Try.f155 []
def Dh (_:Bool) (_:bP):(Int×(List Int))→au:=fun r=>⟨(.pair (.i r.1) (.pair (.ref (1,0) []) (.imm true .unit ()))),[],[⟨false,.il,.own,r.2⟩]⟩
theorem Qw:∀(zp0:Bool)(p0:bP),bU GU SV ⟨[(.imm zp0 eG p0)],[]⟩=(D7 p0).run fun r=>some (Dh zp0 p0 r):=fun _ _=>by kernel_rfl
def SS (av:List AV) (rs:List Root):Tre au:=
 aA av fun a0_ av0=>
 aK av0<|
 aK rs<|
 bX eG a0_ fun z2 d1=>
 .mat (uz d1) fun r=>.ret (Dh z2 d1 r)
def GV:Ctr:=fJ [] SS
theorem Qx:Contract Try.prog .none 155 GV:=aB (V:=GU) aS (ay Ov agb aG) Try.func155 bN fun _ _ _=>aJ fun _ _=>bD<|bD<|iq fun _ _=>fun h=>by intros;subst_vars;exact bC (Qw _ _) h
def IX (p0:bP):Tre (Int×Int×(List Int)):=
 .mat (pK p0) fun r1=>
 .cond (!r1)
  (.ret (0,1,[]))
  (.mat (uz p0) fun r2=>
  .ret (r2.1,0,r2.2))
def xL (p0:bP):Option (Int×Int×(List Int)):=(IX p0).run some
def Le:Env:=⟨tau,[(154,zw),(155,GV)],[]⟩
def WQ:FnI:=fnI Try.f94 []
def Gz (_:Bool) (_:bP):(Int×Int×(List Int))→au:=fun r=>⟨(.tcons (.pair (.i r.1) (.pair (.ref (1,0) []) (.imm true .unit ()))) (.tcons (.i r.2.1) .tnil)),[],[⟨false,.il,.own,r.2.2⟩]⟩
theorem UE:∀(zp0:Bool)(p0:bP),bU Le WQ ⟨[(.imm zp0 eG p0)],[]⟩=(IX p0).run fun r=>some (Gz zp0 p0 r):=fun _ _=>by kernel_rfl
def WO (av:List AV) (rs:List Root):Tre au:=
 aA av fun a0_ av0=>
 aK av0<|
 aK rs<|
 bX eG a0_ fun z2 d1=>
 .mat (xL d1) fun r=>.ret (Gz z2 d1 r)
def Lf:Ctr:=fJ [] WO
theorem UF:Contract Try.prog .none 94 Lf:=aB (V:=Le) aS (ay EN agf (ay Qx ajp aG)) Try.func94 bN fun _ _ _=>aJ fun _ _=>bD<|bD<|iq fun _ _=>fun h=>by intros;subst_vars;exact bC (UE _ _) h
-- shared
theorem Yz{F:FO}{out:List Nat}{x y:Nat}(h:F.lp out y=0):F.lp (gX F out x) y=0:=by
 unfold gX
 split
 ·exact h
 ·rw [F.Zj (q:=F.lG [F.lp out x,1] out) (fun i=>jV _ i),F.Vu,h,F.OP]
theorem aag{F:FO}{out:List Nat}{x:Nat}:F.lp (gX F out x) x=0:=by
 unfold gX
 split
 ·rename_i h;exact h
 ·rw [F.Zj (q:=F.lG [F.lp out x,1] out) (fun i=>jV _ i),F.Vu]
  have hv:=F.abr out x
  simp only [FO.lp]
  rw [F.comm 1,F.one _ (F.abY _),Nat.xor_zero]
  exact Nat.xor_self _
theorem Aq{F:FO}:∀(xs:List Nat){x:Nat},x∈xs→F.lp (kS F xs) x=0:=by
 have keep:∀(xs out:List Nat){x:Nat},F.lp out x=0→F.lp (xs.foldl (gX F) out) x=0:=by
  intro xs
  induction xs with
  |nil=>intro out x h;exact h
  |cons y xs ih=>intro out x h;exact ih _ (Yz h)
 have key:∀(xs out:List Nat){x:Nat},x∈xs→F.lp (xs.foldl (gX F) out) x=0:=by
  intro xs
  induction xs with
  |nil=>intro out x h;cases h
  |cons y xs ih=>
   intro out x h
   rcases List.mem_cons.1 h with rfl|h
   ·exact keep xs _ aag
   ·exact ih _ h
 intro xs x h
 exact key xs [1] h
theorem Yc{F:FO}{V xs:List Nat}(h:∀x∈xs,F.lp V x=0){v:Nat}(hv:Sp xs v):F.lp V v=0:=by
 induction hv with
 |zero=>exact F.OP V
 |add hr _ ih=>rw [F.ajS,h _ hr,ih];rfl
end Go.Proofs.Ytldafhnnnabipaa
