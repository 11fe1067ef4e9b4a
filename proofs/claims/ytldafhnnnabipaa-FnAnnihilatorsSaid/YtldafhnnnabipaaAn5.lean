/- Part 5 of the proof of FnAnnihilators. -/
import Derived.Test.YtldafhnnnabipaaAn4
set_option maxRecDepth 100000
noncomputable section
namespace Go.Proofs.Ytldafhnnnabipaa
open Go Go.Abs Go.Proofs
-- shared
theorem aaE{P E F:List Nat}{y:Nat}(hE:jA P E)(hF:jA (P++[y]) F)(hl:F.length≤E.length):Sp P y:=by
 obtain ⟨Q,c,hR,rfl,hs⟩:=hE
 obtain ⟨Q',c',hR',rfl,hs'⟩:=hF
 have hb:=adr (l':=ni (Q'.map (·.2))) hR.nodup (fun x hx=>((hs' x).1 (((hs x).2 (TR hx)).trans fun r hr=>Sp.mem (List.mem_append_left _ hr))).sums) (by
  rw [xI,xI]
  exact Nat.pow_le_pow_right (by decide) hl)
 exact (hs y).2 (TR (hb y ((hs' y).1 (Sp.mem (List.mem_append_right _ (List.mem_singleton.2 rfl)))).sums))
theorem aga{P E F:List Nat}{y:Nat}(hE:jA P E)(hF:jA (P++[y]) F):E.length≤F.length:=by
 obtain ⟨Q,c,hR,rfl,hs⟩:=hE
 obtain ⟨Q',c',hR',rfl,hs'⟩:=hF
 have:=Vw (l':=ni (Q'.map (·.2))) hR.nodup fun x hx=>((hs' x).1 (((hs x).2 (TR hx)).trans fun r hr=>Sp.mem (List.mem_append_left _ hr))).sums
 rw [xI,xI] at this
 exact (Nat.pow_le_pow_iff_right (by decide)).1 this
section
variable {f : TF3} {hf : aO f = true} {xs : List Nat}
theorem Ey{L E:List Nat}(h:jA L E):jA E E:=by
 obtain ⟨P,c,hR,hP,hs⟩:=h
 exact ⟨P,c,hR,hP,fun v=>Iff.rfl⟩
theorem NU{L E:List Nat}(h:jA L E){e:Nat}(he:e∈E):Sp L e:=by
 obtain ⟨P,c,hR,hP,hs⟩:=h
 exact (hs e).2 (Sp.mem he)
theorem af8{L E:List Nat}(h:jA L E){v:Nat}(hv:Sp L v):Sp E v:=by
 obtain ⟨P,c,hR,hP,hs⟩:=h
 exact (hs v).1 hv
theorem YM(hx:inL (FOf f hf) xs){E:List Nat}(h:jA xs E):inL (FOf f hf) E:=fun e he=>by
 rw [yg]
 exact ai9 (fun x hx'=>by have:=hx x hx';rwa [yg] at this) (NU h he)
theorem NP(_:inL (FOf f hf) xs){E:List Nat}(hE:jA E E)(hEi:inL (FOf f hf) E)(hr:∀e∈E,(FOf f hf).lp (kS (FOf f hf) xs) e=0):E.length<(kS (FOf f hf) xs).length:=by
 obtain ⟨a1,a2,a3,a4⟩:=Tz (FOf f hf) xs
 apply Classical.byContradiction
 intro hn
 have hz:=(FOf f hf).abt E (kS (FOf f hf) xs) (by omega) hEi a1 (aa6 hE rfl) hr
 have hp:=List.length_pos_iff.2 a4
 exact a3 a4 (hz _ (List.mem_of_getElem? (oG (show (kS (FOf f hf) xs).length-1<(kS (FOf f hf) xs).length by omega))))
theorem ajf(hx:inL (FOf f hf) xs)(hl:xs.length≤100):∀i,i≤xs.length→(kS (FOf f hf) (xs.take i)).length≤rkN (xs.take i)+1:=by
 intro i
 induction i with
 |zero=>intro _;show ([1]:List Nat).length≤_;simp
 |succ i ih=>
  intro hi
  have h0:=ih (by omega)
  have hti:inL (FOf f hf) (xs.take i):=fun x hx'=>hx x (List.mem_of_mem_take hx')
  have htk:xs.take (i+1)=xs.take i++[cf xs i]:=by rw [List.take_add_one,oG (by omega)];rfl
  have hti1:inL (FOf f hf) (xs.take i++[cf xs i]):=by rw [←htk];exact fun x hx'=>hx x (List.mem_of_mem_take hx')
  have hlen:(xs.take i).length≤100:=by rw [List.length_take];omega
  have hE:=BF hf hti (by omega)
  have hF:=BF hf hti1 (by rw [List.length_append];show (xs.take i).length+1≤1000;omega)
  have hmono:=aga hE hF
  obtain ⟨a1,a2,a3,a4⟩:=Tz (FOf f hf) (xs.take i)
  rw [XI (by omega),htk]
  unfold rkN at h0 ⊢
  unfold gX
  split
  ·omega
  ·rename_i hne
   have hgt:(ech (xs.take i)).length<(ech (xs.take i++[cf xs i])).length:=by
    apply Classical.byContradiction
    intro hn
    exact hne (Yc (fun x hx'=>Aq _ hx') (aaE hE hF (by omega)))
   have h1:=(FOf f hf).Ew [(FOf f hf).lp (kS (FOf f hf) (xs.take i)) (cf xs i),1] (kS (FOf f hf) (xs.take i)) (by simp) a4
   have h2:=sV ((FOf f hf).lG [(FOf f hf).lp (kS (FOf f hf) (xs.take i)) (cf xs i),1] (kS (FOf f hf) (xs.take i)))
   simp only [List.length_cons,List.length_nil] at h1
   omega
theorem YA(hx:inL (FOf f hf) xs)(hl:xs.length≤100):(kS (FOf f hf) xs).length=rkN xs+1:=by
 have h1:=ajf hx hl xs.length (Nat.le_refl _)
 rw [List.take_length] at h1
 have hE:=BF hf hx (by omega)
 have h2:=NP hx (Ey hE) (YM hx hE) fun e he=>Yc (fun x hx'=>Aq _ hx') (NU hE he)
 unfold rkN at h1 ⊢
 omega
theorem aed(hx:inL (FOf f hf) xs)(hl:xs.length≤100){y:Nat}(hy:y<(FOf f hf).q):(FOf f hf).lp (kS (FOf f hf) xs) y=0↔Sp xs y:=by
 refine ⟨fun h=>?_,fun h=>Yc (fun x hx'=>Aq _ hx') h⟩
 have hxy:inL (FOf f hf) (xs++[y]):=TK hx fun z hz=>by rw [List.mem_singleton.1 hz];exact hy
 have hE:=BF hf hx (by omega)
 have hF:=BF hf hxy (by rw [List.length_append];show xs.length+1≤1000;omega)
 have hlen:=YA hx hl
 have h2:=NP hx (Ey hF) (YM hxy hF) fun e he=>Yc (fun x hx'=>by
  rcases List.mem_append.1 hx' with hx'|hx'
  ·exact Aq _ hx'
  ·rw [List.mem_singleton.1 hx'];exact h) (NU hF he)
 unfold rkN at hlen
 exact aaE hE hF (by omega)
end
theorem aah{F:FO}{out:List Nat}{x:Nat}(hi:inL F out)(hn:out≠[])(h:cf out (out.length-1)=1):cf (gX F out x) ((gX F out x).length-1)=1:=by
 have hp:=List.length_pos_iff.2 hn
 unfold gX
 split
 ·exact h
 ·have hV:inL F [F.lp out x,1]:=fun y hy=>by
   rcases List.mem_cons.1 hy with rfl|hy
   ·exact F.abr _ _
   ·rw [List.mem_singleton.1 hy];exact F.hq
  have hl:=F.Lb hV hi (by simp) hn (by simp [cf]) (by rw [h];decide)
  rw [hl,jV,F.Iw]
  have ht:=F.Kh [F.lp out x,1] 1 (cf out) (out.length-1) (by simp) fun i hi'=>NT (by omega)
  simp only [List.length_cons,List.length_nil]
  rw [show 0+1+1+out.length-1-1=1+(out.length-1) by omega,ht,h]
  show F.mul 1 (F.sq 1)=1
  rw [F.comm,F.one _ (F.abY _)]
  exact F.one 1 F.hq
theorem ahH(F:FO):∀(xs:List Nat),cf (kS F xs) ((kS F xs).length-1)=1:=by
 have key:∀(xs out:List Nat),inL F out→AA out→out≠[]→cf out (out.length-1)=1→cf (xs.foldl (gX F) out) ((xs.foldl (gX F) out).length-1)=1:=by
  intro xs
  induction xs with
  |nil=>intro out _ _ _ h;exact h
  |cons x xs ih=>
   intro out h1 h2 h3 h4
   obtain ⟨c,d⟩:=T9 (x:=x) h1 h2 h3
   exact ih _ (Ua (n:=out.length) ⟨h1,by omega,h3⟩).1 c d (aah h1 h3 h4)
 intro xs
 exact key xs [1] (fun y hy=>by rw [List.mem_singleton.1 hy];exact F.hq) (fun _=>by simp [cf]) (by simp) rfl
def Qz (p0:bP):Tre (Int×Int×(List Int)):=
 .mat (xL p0) fun r1=>
 .ret (r1.1,r1.2.1,r1.2.2)
def uX (p0:bP):Option (Int×Int×(List Int)):=(Qz p0).run some
-- more
theorem ai5{f:TF3}(hf:aO f=true){xs:List Nat}(hx:inL (FOf f hf) xs)(hl:xs.length≤10):Zn (f.1,up xs,())=true:=by
 have hd:=jX hf
 unfold Zn
 simp only [Bool.and_eq_true,Ag,decide_eq_true_eq,List.all_eq_true]
 refine ⟨by omega,by rw [rV];exact hl,fun x hx'=>?_⟩
 obtain ⟨y,hy,rfl⟩:=List.mem_map.1 hx'
 have hq:=hx y hy
 rw [yg] at hq
 unfold inP
 rw [show f.1=((f.1.toNat:Nat):Int) by omega,ab6 (by omega),Ag]
 omega
theorem aeT{f:TF3}(hf:aO f=true){xs:List Nat}(hx:inL (FOf f hf) xs)(hl:xs.length≤10):uX (f.1,up xs,())=some (f.1,0,up (ech xs)):=by
 have hd:=jX hf
 have h1:uz (f.1,up xs,())=some (f.1,up (ech xs)):=by
  unfold uz D7
  rw [ak (show acM (up xs)=some (up (ech xs)) from by
   unfold acM
   rw [Au (QU (by omega) fun n hn=>Nat.lt_of_lt_of_le (hx n hn) (by rw [yg];exact Nat.pow_le_pow_right (by decide) (by omega)))]
   unfold YL
   rw [up_toNat]),Tre.aM]
 have h2:xL (f.1,up xs,())=some (f.1,0,up (ech xs)):=by
  unfold xL IX
  rw [ak (EM (f.1,up xs,()) (by show (up xs).length≤1048576;rw [rV];omega)),ai5 hf hx hl,Tre.aC,Bool.not_true,cond_false,ak h1,Tre.aM]
 unfold uX Qz
 rw [ak h2,Tre.aM]
def Rx:Env:=⟨tau,[(94,Lf)],[]⟩
def aaQ:FnI:=fnI Try.f29 []
def Lr (_:Bool) (_:bP):(Int×Int×(List Int))→au:=fun r=>⟨(.tcons (.pair (.i r.1) (.pair (.ref (1,0) []) (.imm true .unit ()))) (.tcons (.i r.2.1) .tnil)),[],[⟨false,.il,.own,r.2.2⟩]⟩
theorem YZ:∀(zp0:Bool)(p0:bP),bU Rx aaQ ⟨[(.imm zp0 eG p0)],[]⟩=(Qz p0).run fun r=>some (Lr zp0 p0 r):=fun _ _=>by kernel_rfl
def aaP (av:List AV) (rs:List Root):Tre au:=
 aA av fun a0_ av0=>
 aK av0<|
 aK rs<|
 bX eG a0_ fun z2 d1=>
 .mat (uX d1) fun r=>.ret (Lr z2 d1 r)
def Ry:Ctr:=fJ [] aaP
theorem Y0:Contract Try.prog .none 29 Ry:=aB (V:=Rx) aS (ay UF aku aG) Try.func29 bN fun _ _ _=>aJ fun _ _=>bD<|bD<|iq fun _ _=>fun h=>by intros;subst_vars;exact bC (YZ _ _) h
def sI (fB:List Int) (jr:List Int):Int→Tre (Int ⊕ (Bool ⊕ Unit)):=fun s4=>
 .cond (decide (s4<(fB.length:Int)))
  (.ite (0≤s4∧s4<(fB.length:Int))<|
  .mat (fB[s4.toNat]?) fun x1=>
  .ite (0≤s4∧s4<(jr.length:Int))<|
  .mat (jr[s4.toNat]?) fun x2=>
  .cond (!decide (x1=x2))
   (.ret (.inr (.inl false)))
   (.ret (.inl (aI .i64 (s4+1)))))
  (.ret (.inr (.inr ())))
def QZ (p0:List Int) (p1:List Int):Tre Bool:=
 .cond (!decide ((p0.length:Int)=(p1.length:Int)))
  (.ret false)
  (.mat (aZ (sI p0 p1) 0) fun l3=>
  .alt l3
   (fun a4=>
    .ret a4)
   (fun _=>
    .ret true))
def R3 (p0:List Int) (p1:List Int):Option Bool:=(QZ p0 p1).run some
def Sj(a b:List Int):Option Bool:=aeg (decide (a.length≤1048576)&&decide (b.length≤1048576)) (decide (a=b))
def sameAt(b:List Int)(i:Nat)(x:Int):Option (Bool ⊕ Unit):=match b[i]? with
 |some y=>cond (decide (x=y)) none (some (.inl false))
 |none=>none
theorem Ux(b:List Int):∀(l:List Int)(i:Nat),l.length=(b.drop i).length→IE (β:=Bool ⊕ Unit) (sameAt b) (.inr ()) i l=cond (decide (l=b.drop i)) (.inr ()) (.inl false):=by
 intro l
 induction l with
 |nil=>
  intro i h
  have:b.drop i=[]:=List.eq_nil_of_length_eq_zero h.symm
  rw [this];rfl
 |cons x l ih=>
  intro i h
  have hi:i<b.length:=by rw [List.length_drop,List.length_cons] at h;omega
  have hd:b.drop i=b[i]::b.drop (i+1):=List.drop_eq_getElem_cons hi
  have hlen:l.length=(b.drop (i+1)).length:=by rw [hd,List.length_cons,List.length_cons] at h;omega
  have hih:=ih (i+1) hlen
  simp only [IE,sameAt]
  rw [List.getElem?_eq_getElem hi]
  simp only
  by_cases hx:x=b[i]
  ·rw [decide_eq_true hx,cond_true,hih]
   by_cases hl:l=b.drop (i+1)
   ·rw [decide_eq_true hl,decide_eq_true (show x::l=b.drop i by rw [hd,hx,hl])]
   ·rw [decide_eq_false hl,decide_eq_false (fun h2=>hl (by rw [hd] at h2;exact (List.cons.inj h2).2))]
  ·rw [decide_eq_false hx,cond_false,decide_eq_false (fun h2=>hx (by rw [hd] at h2;exact (List.cons.inj h2).1))]
   rfl
theorem VU(p0 p1:List Int)(y:Bool)(h:Sj p0 p1=some y):R3 p0 p1=some y:=by
 obtain ⟨hok,rfl⟩:=Ev h
 simp only [Bool.and_eq_true,decide_eq_true_eq] at hok
 unfold R3 QZ
 rw [Tre.aC]
 by_cases hl:p0.length=p1.length
 ·rw [decide_eq_true (show (p0.length:Int)=(p1.length:Int) by omega),Bool.not_true,cond_false,Tre.oZ,EA (xs:=p0) (sameAt p1) (.inr ()),Ux p1 p0 0 (by simpa using hl)]
  ·rw [List.drop_zero]
   cases decide (p0=p1)<;>rfl
  ·intro i x hx
   have hi:i<p0.length:=(List.getElem?_eq_some_iff.1 hx).1
   have hy:p1[i]?=some p1[i]:=List.getElem?_eq_getElem (by omega)
   unfold sI
   unfold sameAt
   rw [oW hx,lK hy,Tre.aC,hy]
   dsimp only
   cases decide (x=p1[i])
   ·rfl
   ·simp only [Bool.not_true,cond_true,cond_false,Tre.aM,bQ (show i<4611686018427387904 by omega)]
  ·unfold sI
   exact qN
 ·rw [decide_eq_false (show ¬(p0.length:Int)=(p1.length:Int) by omega),Bool.not_false,cond_true,Tre.aM,decide_eq_false (fun h=>hl (by rw [h]))]
def Dw:Env:=⟨tau,[],[]⟩
def R4:Code:=(Try.f100.body).getD .skip
def zB (Ke:Bool) (Ws:Bool) (fB:List Int) (jr:List Int):Int→St:=fun x=>fA [(0,(.imm Ke .il fB)),(1,(.imm Ws .il jr)),(5,(.i x))] []
def sJ (_:Bool) (_:Bool) (_:List Int) (_:List Int):(Bool ⊕ Unit)→Ex×St
 |.inl x=>(.ret,fA [(4,(.imm true .bool x))] [])
 |.inr _=>(.exit 0,fA [(4,.dead)] [])
def JV (s:St):Tre (Ex×St):=
 bX .il (s.tmps 0) fun z3 d2=>
 bX .il (s.tmps 1) fun z6 d5=>
 aD true .n (s.tmps 5) fun d8=>
 .mat (aZ (sI d2 d5) d8) fun x=>.alt x (fun a0=>.ret (sJ z3 z6 d2 d5 (.inl a0))) (fun b0=>.ret (sJ z3 z6 d2 d5 (.inr b0)))
def rO:bS:=⟨([0,1,5],[]),([4],[]),JV⟩
def JU:List (Nat×bS):=[(4,rO)]
theorem Pm:∀(Ke Ws:Bool)(fB jr:List Int)(x:Int)(c:St→Option (Ex×St)),den Dw JU (bF R4 0) (zB Ke Ws fB jr x) (fE rO.kp rO.kx c)=(sI fB jr x).run (fF (zB Ke Ws fB jr) (sJ Ke Ws fB jr) c):=fun _ _ _ _ _ _=>by
 kernel_rfl
theorem Tt:dZ Dw JU (bF R4 0) rO:=mh fun s e s' h=>by
 generalize hs:restrict rO.kp s=s1 at h
 have h:(JV s1).run some=some (e,s'):=h
 obtain ⟨z3,d2,e1,h_0⟩:=lF h
 obtain ⟨z6,d5,e4,h_1⟩:=lF h_0
 obtain ⟨d8,e7,h_2⟩:=dA h_1
 obtain ⟨y,hy,hz⟩:=nQ h_2
 refine ⟨_,_,zB z3 z6 d2 d5,sJ z3 z6 d2 d5,sI d2 d5,d8,y,?_,hy,?_,Pm z3 z6 d2 d5⟩
 ·subst hs;exact bn (T:=[(0,(.imm z3 .il d2)),(1,(.imm z6 .il d5)),(5,(.i d8))]) (U:=[]) rfl rfl ⟨e1,e4,e7,trivial⟩ trivial
 ·rcases y with x|x<;>exact Option.some.inj hz
def abN:FnI:=fnI Try.f100 JU
def LW (_:Bool) (_:Bool) (_:List Int) (_:List Int):Bool→au:=fun r=>⟨(.imm true .bool r),[],[]⟩
theorem ZG:∀(zp0 zp1:Bool)(p0 p1:List Int),bU Dw abN ⟨[(.imm zp0 .il p0),(.imm zp1 .il p1)],[]⟩=(QZ p0 p1).run fun r=>some (LW zp0 zp1 p0 p1 r):=fun _ _ _ _=>by kernel_rfl
def abM (av:List AV) (rs:List Root):Tre au:=
 aA av fun a0_ av0=>
 aA av0 fun a1_ av1=>
 aK av1<|
 aK rs<|
 bX .il a0_ fun z2 d1=>
 bX .il a1_ fun z4 d3=>
 .mat (Sj d1 d3) fun r=>.ret (LW z2 z4 d1 d3 r)
def R5:Ctr:=fJ [] abM
theorem ZH:Contract Try.prog .none 100 R5:=aB (V:=Dw) aS aG Try.func100 (dw (n:=1) fun k hk=>by
 match k,hk with
 |0,_=>exact eH (id:=4) Tt) fun _ _ _=>aJ fun _ _=>aJ fun _ _=>bD<|bD<|iq fun _ _=>iq fun _ _=>fun h=>by intros;subst_vars;exact CF (ZG _ _ _ _) (VU _ _) h
def iw (fB:List Int) (jr:List Int) (IL:Int):Int→Tre (Int ⊕ (Bool ⊕ Unit)):=fun s4=>
 .cond (decide (s4<IL))
  (.ite (0≤s4∧s4<(fB.length:Int))<|
  .mat (fB[s4.toNat]?) fun x1=>
  .ite (0≤s4∧s4<(jr.length:Int))<|
  .mat (jr[s4.toNat]?) fun x2=>
  .cond (!decide (x1=x2))
   (.ret (.inr (.inl false)))
   (.ret (.inl (aI .i64 (s4+1)))))
  (.ret (.inr (.inr ())))
def uR (p0:List Int) (p1:List Int):Tre Bool:=
 .cond (!decide ((p0.length:Int)=(p1.length:Int)))
  (.ret false)
  (.mat (aZ (iw p0 p1 (p0.length:Int)) 0) fun l3=>
  .alt l3
   (fun a4=>
    .ret a4)
   (fun _=>
    .ret true))
def y7 (p0:List Int) (p1:List Int):Option Bool:=(uR p0 p1).run some
theorem Fu(p0 p1:List Int)(y:Bool)(h:Sj p0 p1=some y):y7 p0 p1=some y:=by
 obtain ⟨hok,rfl⟩:=Ev h
 simp only [Bool.and_eq_true,decide_eq_true_eq] at hok
 unfold y7 uR
 rw [Tre.aC]
 by_cases hl:p0.length=p1.length
 ·rw [decide_eq_true (show (p0.length:Int)=(p1.length:Int) by omega),Bool.not_true,cond_false,Tre.oZ,EA (xs:=p0) (sameAt p1) (.inr ()),Ux p1 p0 0 (by simpa using hl)]
  ·rw [List.drop_zero]
   cases decide (p0=p1)<;>rfl
  ·intro i x hx
   have hi:i<p0.length:=(List.getElem?_eq_some_iff.1 hx).1
   have hy:p1[i]?=some p1[i]:=List.getElem?_eq_getElem (by omega)
   unfold iw
   unfold sameAt
   rw [oW hx,lK hy,Tre.aC,hy]
   dsimp only
   cases decide (x=p1[i])
   ·rfl
   ·simp only [Bool.not_true,cond_true,cond_false,Tre.aM,bQ (show i<4611686018427387904 by omega)]
  ·unfold iw
   exact qN
 ·rw [decide_eq_false (show ¬(p0.length:Int)=(p1.length:Int) by omega),Bool.not_false,cond_true,Tre.aM,decide_eq_false (fun h=>hl (by rw [h]))]
def mO:Env:=⟨tau,[],[]⟩
def y8:Code:=(Try.f114.body).getD .skip
def mX (Ke:Bool) (Ws:Bool) (fB:List Int) (jr:List Int) (IL:Int):Int→St:=fun x=>fA [(0,(.imm Ke .il fB)),(1,(.imm Ws .il jr)),(12,(.i IL)),(13,(.i x))] []
def jw (_:Bool) (_:Bool) (_:List Int) (_:List Int) (_:Int):(Bool ⊕ Unit)→Ex×St
 |.inl x=>(.ret,fA [(4,(.imm true .bool x))] [])
 |.inr _=>(.exit 0,fA [(4,.dead)] [])
def vk (s:St):Tre (Ex×St):=
 bX .il (s.tmps 0) fun z3 d2=>
 bX .il (s.tmps 1) fun z6 d5=>
 aD true .n (s.tmps 12) fun d8=>
 aD true .n (s.tmps 13) fun d10=>
 .mat (aZ (iw d2 d5 d8) d10) fun x=>.alt x (fun a0=>.ret (jw z3 z6 d2 d5 d8 (.inl a0))) (fun b0=>.ret (jw z3 z6 d2 d5 d8 (.inr b0)))
def iN:bS:=⟨([0,1,12,13],[]),([4],[]),vk⟩
def rQ:List (Nat×bS):=[(4,iN)]
theorem BZ:∀(Ke Ws:Bool)(fB jr:List Int)(IL x:Int)(c:St→Option (Ex×St)),den mO rQ (bF y8 0) (mX Ke Ws fB jr IL x) (fE iN.kp iN.kx c)=(iw fB jr IL x).run (fF (mX Ke Ws fB jr IL) (jw Ke Ws fB jr IL) c):=fun _ _ _ _ _ _ _=>by
 kernel_rfl
theorem Ep:dZ mO rQ (bF y8 0) iN:=mh fun s e s' h=>by
 generalize hs:restrict iN.kp s=s1 at h
 have h:(vk s1).run some=some (e,s'):=h
 obtain ⟨z3,d2,e1,h_0⟩:=lF h
 obtain ⟨z6,d5,e4,h_1⟩:=lF h_0
 obtain ⟨d8,e7,h_2⟩:=dA h_1
 obtain ⟨d10,e9,h_3⟩:=dA h_2
 obtain ⟨y,hy,hz⟩:=nQ h_3
 refine ⟨_,_,mX z3 z6 d2 d5 d8,jw z3 z6 d2 d5 d8,iw d2 d5 d8,d10,y,?_,hy,?_,BZ z3 z6 d2 d5 d8⟩
 ·subst hs;exact bn (T:=[(0,(.imm z3 .il d2)),(1,(.imm z6 .il d5)),(12,(.i d8)),(13,(.i d10))]) (U:=[]) rfl rfl ⟨e1,e4,e7,e9,trivial⟩ trivial
 ·rcases y with x|x<;>exact Option.some.inj hz
def J7:FnI:=fnI Try.f114 rQ
def wC (_:Bool) (_:Bool) (_:List Int) (_:List Int):Bool→au:=fun r=>⟨(.imm true .bool r),[],[]⟩
theorem Il:∀(zp0 zp1:Bool)(p0 p1:List Int),bU mO J7 ⟨[(.imm zp0 .il p0),(.imm zp1 .il p1)],[]⟩=(uR p0 p1).run fun r=>some (wC zp0 zp1 p0 p1 r):=fun _ _ _ _=>by kernel_rfl
def J6 (av:List AV) (rs:List Root):Tre au:=
 aA av fun a0_ av0=>
 aA av0 fun a1_ av1=>
 aK av1<|
 aK rs<|
 bX .il a0_ fun z2 d1=>
 bX .il a1_ fun z4 d3=>
 .mat (Sj d1 d3) fun r=>.ret (wC z2 z4 d1 d3 r)
def y9:Ctr:=fJ [] J6
theorem Im:Contract Try.prog .none 114 y9:=aB (V:=mO) aS aG Try.func114 (dw (n:=1) fun k hk=>by
 match k,hk with
 |0,_=>exact eH (id:=4) Ep) fun _ _ _=>aJ fun _ _=>aJ fun _ _=>bD<|bD<|iq fun _ _=>iq fun _ _=>fun h=>by intros;subst_vars;exact CF (Il _ _ _ _) (Fu _ _) h
def Qv (p0:bP):Tre Bool:=
 .mat (pK p0) fun r1=>
 .cond r1
  (.mat (acM p0.2.1) fun r2=>
  .mat (Sj r2 p0.2.1) fun r3=>
  .ret r3)
  (.ret false)
def Df (p0:bP):Option Bool:=(Qv p0).run some
-- more
theorem acN{c:Nat}{ns:List Nat}(hc:c≤10)(hl:ns.length≤10)(hn:∀n∈ns,n<2 ^ c):(YL (up ns)).length≤ns.length:=by
 have hi:=af9 (b:=62) (by omega) (Yh (c:=c) (b:=62) (ns:=ns) (by omega) (by omega) hn)
 rw [up_toNat] at hi
 rw [af7,up_toNat]
 exact hi.le
theorem YU(m:Int×List Int×Unit)(hl:m.2.1.length≤1048576):Df m=some (aiJ m):=by
 unfold Df Qv
 rw [ak (EM m hl),Tre.aC]
 unfold aiJ
 cases h:Zn m
 ·rfl
 obtain ⟨c,ns,rfl,h1,h2,h3,h4⟩:=aiw h
 dsimp only at hl ⊢
 rw [cond_true,ak (show acM (up ns)=some _ from Au (Yh (c:=c) (by omega) (by omega) h4))]
 rw [ak (show Sj (YL (up ns)) (up ns)=some _ from Au (by
  have:=acN h2 h3 h4
  simp only [Bool.and_eq_true,decide_eq_true_eq,rV];omega))]
 rfl
def Rt:Env:=⟨tau,[(154,zw),(146,Jm),(114,y9)],[]⟩
def aaM:FnI:=fnI Try.f95 []
def Lm (_:Bool) (_:bP):Bool→au:=fun r=>⟨(.imm true .bool r),[],[]⟩
theorem YT:∀(zp0:Bool)(p0:bP),bU Rt aaM ⟨[(.imm zp0 eG p0)],[]⟩=(Qv p0).run fun r=>some (Lm zp0 p0 r):=fun _ _=>by kernel_rfl
def aaL (av:List AV) (rs:List Root):Tre au:=
 aA av fun a0_ av0=>
 aK av0<|
 aK rs<|
 bX eG a0_ fun z2 d1=>
 .mat (Df d1) fun r=>.ret (Lm z2 d1 r)
def Ru:Ctr:=fJ [] aaL
theorem YV:Contract Try.prog .none 95 Ru:=aB (V:=Rt) aS (ay EN agf (ay Ov agb (ay Im ajj aG))) Try.func95 bN fun _ _ _=>aJ fun _ _=>bD<|bD<|iq fun _ _=>fun h=>by intros;subst_vars;exact bC (YT _ _) h
def xA (cZ:Int) (fK:List Int) (jG:Int):(Int×Int)→Tre ((Int×Int) ⊕ Int):=fun s3=>
 .cond (decide (s3.2<jG))
  (.ite (0≤s3.2∧s3.2<(fK.length:Int))<|
  .mat (fK[s3.2.toNat]?) fun x1=>
  .ite (0≤s3.2)<|
  let v2:=KU .i64 (OH .i64 cZ s3.2) 1
  .cond (decide (v2=1))
   (.ret (.inl (yN .i64 s3.1 x1,aI .i64 (s3.2+1))))
   (.ret (.inl (s3.1,aI .i64 (s3.2+1)))))
  (.ret (.inr s3.1))
def Y9 (p0:List Int) (p1:Int):Tre Int:=
 .mat (aZ (xA p1 p0 (p0.length:Int)) (0,0)) fun l3=>
 .ret l3
def XY (p0:List Int) (p1:Int):Option Int:=(Y9 p0 p1).run some
def aiO(xs:List Int)(a:Int):Option Int:=lim xs.length (ahm a xs)
theorem Zb(p0:List Int)(p1 y:Int)(h:aiO p0 p1=some y):XY p0 p1=some y:=by
 obtain ⟨hl,rfl⟩:=OL h
 unfold XY Y9
 rw [Tre.oZ]
 have:=acY (xs:=p0) (step:=xA p1 p0 (p0.length:Int)) (fun i acc=>(acc,(i:Int))) (fun i acc x=>.inl (cond (AJ p1 (i:Int)) (yN .i64 acc x) acc)) id (by
  intro i acc x hx
  have hi:i<p0.length:=(List.getElem?_eq_some_iff.1 hx).1
  unfold xA
  rw [oW hx,Tre.run_ite,if_pos (by dsimp only;omega),Tre.aC]
  show cond (AJ p1 (i:Int)) _ _=_
  cases AJ p1 (i:Int)
  ·rw [cond_false,Tre.aM,bQ (by omega)];rfl
  ·rw [cond_true,Tre.aM,bQ (by omega)];rfl)
  (by
  intro acc
  unfold xA
  exact qN) 0
 rw [show ((0:Int),(0:Int))=(0,((0:Nat):Int)) from rfl,this]
 rfl
def Km:Env:=⟨tau,[],[]⟩
def XZ:Code:=(Try.f156.body).getD .skip
def LD (uS:Bool) (cZ:Int) (fK:List Int) (jG:Int):(Int×Int)→St:=fun x=>fA [(1,(.i cZ)),(5,(.i x.1)),(8,(.imm uS .il fK)),(9,(.i jG)),(10,(.i x.2))] []
def Jr (_:Bool) (_:Int) (_:List Int) (_:Int):Int→Ex×St:=fun x=>(.exit 0,fA [(5,(.i x))] [])
def Za (s:St):Tre (Ex×St):=
 aD true .n (s.tmps 1) fun d2=>
 aD true .n (s.tmps 5) fun d4=>
 bX .il (s.tmps 8) fun z7 d6=>
 aD true .n (s.tmps 9) fun d9=>
 aD true .n (s.tmps 10) fun d11=>
 .mat (aZ (xA d2 d6 d9) (d4,d11)) fun x=>.ret (Jr z7 d2 d6 d9 x)
def Af:bS:=⟨([1,5,8,9,10],[]),([5],[]),Za⟩
def QG:List (Nat×bS):=[(3,Af)]
theorem Tj:∀(uS:Bool)(cZ:Int)(fK:List Int)(jG:Int)(x:(Int×Int))(c:St→Option (Ex×St)),den Km QG (bF XZ 0) (LD uS cZ fK jG x) (fE Af.kp Af.kx c)=(xA cZ fK jG x).run (fF (LD uS cZ fK jG) (Jr uS cZ fK jG) c):=fun _ _ _ _ _ _=>by
 kernel_rfl
theorem Xa:dZ Km QG (bF XZ 0) Af:=jf fun _ _ _=>aU fun _=>aU fun _=>iq fun _ _=>aU fun _=>aU fun _=>fun h e10 e8 e5 e3 e1=>gB (Tj _ _ _ _) h (by subst_vars;exact bn rfl rfl ⟨e1,e3,e5,e8,e10,trivial⟩ trivial)
def aeO:FnI:=fnI Try.f156 QG
def RJ (_:Bool) (_:List Int) (_:Int):Int→au:=fun r=>⟨(.i r),[],[]⟩
theorem ac6:∀(zp0:Bool)(p0:List Int)(p1:Int),bU Km aeO ⟨[(.imm zp0 .il p0),(.i p1)],[]⟩=(Y9 p0 p1).run fun r=>some (RJ zp0 p0 p1 r):=fun _ _ _=>by kernel_rfl
def aeN (av:List AV) (rs:List Root):Tre au:=
 aA av fun a0_ av0=>
 aA av0 fun a1_ av1=>
 aK av1<|
 aK rs<|
 bX .il a0_ fun z2 d1=>
 aD true .n a1_ fun d3=>
 .mat (aiO d1 d3) fun r=>.ret (RJ z2 d1 d3 r)
def X0:Ctr:=fJ [] aeN
theorem ac7:Contract Try.prog .none 156 X0:=aB (V:=Km) aS aG Try.func156 (dw (n:=1) fun k hk=>by
 match k,hk with
 |0,_=>exact eH (id:=3) Xa) fun _ _ _=>aJ fun _ _=>aJ fun _ _=>bD<|bD<|iq fun _ _=>aU fun _=>fun h=>by intros;subst_vars;exact CF (ac6 _ _ _) (Zb _ _) h
abbrev uh:Ctr:=ad6 false
theorem Am:Z7 Try.prog 59:=fun blk off cap zs w h1 h2 h3=>AnyG.slices_Sort_int Try.ai8 blk off cap zs w h1 h2 h3
theorem Al:SortNone Try.prog 59:=fun a w=>AnyG.slices_Sort_int_none Try.ai8 a 0 w
theorem Ct:Contract Try.prog .none 59 uh:=aiI Am Al
def jk (cZ:Int) (fK:bP):(Int×(List Int))→Tre ((Int×(List Int)) ⊕ (List Int)):=fun s3=>
 .cond (decide (s3.1<cZ))
  (.mat (aiO fK.2.1 s3.1) fun r2=>
  .ite ((s3.2.length+1)*8≤fD∧1≤8)<|
  .ret (.inl (aI .i64 (s3.1+1),s3.2++([r2]))))
  (.ret (.inr s3.2))
def xq (p0:bP):Tre (List Int):=
 .ite (0≤(p0.2.1.length:Int))<|
 let v1:=Ah .i64 1 (p0.2.1.length:Int)
 .mat (aZ (jk v1 p0) (0,[])) fun l3=>
 .ite (l3.length<4611686018427387904)<|
 .ret (J8 l3)
def oO (p0:bP):Option (List Int):=(xq p0).run some
-- more
theorem KP{c:Nat}{ns:List Nat}(hc:c≤10)(hl:ns.length≤10)(hn:∀n∈ns,n<2 ^ c):oO ((c:Int),up ns,())=some (J8 (up (Wq ns))):=by
 have hp:=ae5 hl
 unfold oO xq
 dsimp only
 rw [Tre.run_ite,if_pos (by omega),rV,Vj hl,Tre.oZ]
 have:=aiM (step:=jk ((2 ^ ns.length:Nat):Int) ((c:Int),up ns,())) (fun h=>((h:Int),up ((List.range h).map fun a=>wD a 0 ns))) (2 ^ ns.length) (b:=up (Wq ns)) (by
  intro h hh
  unfold jk
  dsimp only
  rw [Tre.aC,decide_eq_true (by omega),cond_true,ak (show aiO (up ns) (h:Int)=some _ from Zh (by rw [rV];omega))]
  rw [Tre.run_ite,if_pos (by rw [rV,List.length_map,List.length_range];unfold fD;omega),Tre.aM,bQ (by omega)]
  rw [afk (b:=c) (by omega) (by omega) (by omega) hn]
  rw [List.range_succ,List.map_append]
  simp [up])
  (by
  unfold jk
  dsimp only
  rw [Tre.aC,decide_eq_false (by omega)]
  rfl) (2 ^ ns.length) 0 (by omega)
 rw [show ((0:Int),([]:List Int))=(((0:Nat):Int),up ((List.range 0).map fun a=>wD a 0 ns)) from rfl,this,Option.bind_some]
 rw [Tre.run_ite,if_pos (by rw [rV];unfold Wq;rw [List.length_map,List.length_range];omega)]
 rfl
def oP:Env:=⟨tau,[(156,X0),(59,uh)],[]⟩
def Bj:Code:=(Try.f96.body).getD .skip
def vN (uS:Bool) (cZ:Int) (fK:bP):(Int×(List Int))→St:=fun x=>fA [(1,(.ptr (3,0) [])),(3,(.ref (5,0) [])),(9,(.i cZ)),(10,(.i x.1))] [((3,0),some ⟨true,eG,(.imm uS),fK⟩),((5,0),some ⟨false,.il,.own,x.2⟩)]
def uW (_:Bool) (_:Int) (_:bP):(List Int)→Ex×St:=fun x=>(.exit 0,fA [(3,(.ref (5,0) []))] [((5,0),some ⟨false,.il,.own,x⟩)])
def H9 (s:St):Tre (Ex×St):=
 nu (3,0) [] (s.tmps 1)<|
 nJ (5,0) [] (s.tmps 3)<|
 aD true .n (s.tmps 9) fun d4=>
 aD true .n (s.tmps 10) fun d6=>
 dY true eG (s.roots (3,0)) fun m8 d9=>
 ru m8 fun z10=>
 dY false .il (s.roots (5,0)) fun m12 d13=>
 asM .own m12<|
 .mat (aZ (jk d4 d9) (d6,d13)) fun x=>.ret (uW z10 d4 d9 x)
def lQ:bS:=⟨([1,3,9,10],[(3,0),(5,0)]),([3],[(5,0)]),H9⟩
def uK:List (Nat×bS):=[(3,lQ)]
theorem D8:∀(uS:Bool)(cZ:Int)(fK:bP)(x:(Int×(List Int)))(c:St→Option (Ex×St)),den oP uK (bF Bj 0) (vN uS cZ fK x) (fE lQ.kp lQ.kx c)=(jk cZ fK x).run (fF (vN uS cZ fK) (uW uS cZ fK) c):=fun _ _ _ _ _=>by
 kernel_rfl
theorem F4:dZ oP uK (bF Bj 0) lQ:=jf fun _ _ _=>Ap<|J9<|aU fun _=>aU fun _=>mP fun _ _=>Hq fun _=>mP fun _ _=>tM<|fun h _ e11 _ e7 e5 e3 e2 e1=>gB (D8 _ _ _) h (by subst_vars;exact bn rfl rfl ⟨e1,e2,e3,e5,trivial⟩ ⟨e7,e11,trivial⟩)
def MX:FnI:=fnI Try.f96 uK
def yH (_:Bool) (_:bP):(List Int)→au:=fun r=>⟨(.ref (1,0) []),[],[⟨false,.il,.own,r⟩]⟩
theorem KO:∀(zp0:Bool)(p0:bP),bU oP MX ⟨[(.imm zp0 eG p0)],[]⟩=(xq p0).run fun r=>some (yH zp0 p0 r):=fun _ _=>by kernel_rfl
def MW (av:List AV) (rs:List Root):Tre au:=
 aA av fun a0_ av0=>
 aK av0<|
 aK rs<|
 bX eG a0_ fun z2 d1=>
 .mat (oO d1) fun r=>.ret (yH z2 d1 r)
def Bl:Ctr:=fJ [] MW
theorem KQ:Contract Try.prog .none 96 Bl:=aB (V:=oP) aS (ay ac7 ajq (ay Ct akn aG)) Try.func96 (dw (n:=1) fun k hk=>by
 match k,hk with
 |0,_=>exact eH (id:=3) F4) fun _ _ _=>aJ fun _ _=>bD<|bD<|iq fun _ _=>fun h=>by intros;subst_vars;exact bC (KO _ _) h
def Jk (p0:bP):Tre (Int×(List Int)):=
 .mat (Df p0) fun r1=>
 .cond (!r1)
  (.ret (1,[]))
  (.ite (0≤(p0.2.1.length:Int))<|
  let v2:=Ah .i64 1 (p0.2.1.length:Int)
  .cond (decide (v2>400))
   (.ret (3,[]))
   (.mat (oO p0) fun r3=>
   .ret (0,r3)))
def xR (p0:bP):Option (Int×(List Int)):=(Jk p0).run some
-- more
theorem abb{f:TF3}(hf:aO f=true){ns:List Nat}(hx:inL (FOf f hf) ns)(hl:ns.length≤5)(hE:jA ns ns)(hm:Zn (f.1,up ns,())=true):xR (f.1,up ns,())=some (0,J8 (up (Wq ns))):=by
 have hd:=jX hf
 have hp:2 ^ ns.length≤32:=Nat.pow_le_pow_right (n:=2) (by decide) hl
 have hs:aiJ (f.1,up ns,())=true:=by
  unfold aiJ
  rw [hm,Bool.true_and,decide_eq_true_eq]
  unfold YL
  rw [up_toNat,acP hE]
 have hv:=KP (c:=f.1.toNat) (ns:=ns) (by omega) (by omega) fun n hn=>by have:=hx n hn;rwa [yg] at this
 rw [show ((f.1.toNat:Nat):Int)=f.1 by omega] at hv
 unfold xR Jk
 rw [ak (YU (f.1,up ns,()) (by show (up ns).length≤1048576;rw [rV];omega)),hs,Tre.aC,Bool.not_true,cond_false]
 dsimp only
 rw [Tre.run_ite,if_pos (by omega),rV,Vj (by omega),Tre.aC,decide_eq_false (by omega),cond_false,ak hv,Tre.aM]
theorem abX{f:TF3}(hf:aO f=true){ns:List Nat}(hx:inL (FOf f hf) ns)(hE:jA ns ns){p:Nat→Bool}(h:∀y,y<(FOf f hf).q→(p y=true↔Sp ns y)):J8 (up (Wq ns))=up ((List.range (FOf f hf).q).filter p):=by
 have h2:((List.range (FOf f hf).q).filter p).Pairwise (· < ·):=List.Pairwise.filter _ List.pairwise_lt_range
 have h3:(up ((List.range (FOf f hf).q).filter p)).Pairwise (·≤·):=by
  unfold up
  refine List.pairwise_map.2 (h2.imp fun hab=>?_)
  omega
 have hperm:(Wq ns).Perm ((List.range (FOf f hf).q).filter p):=by
  refine (List.perm_ext_iff_of_nodup (afs hE) (h2.imp fun hab=>by omega)).2 fun y=>?_
  rw [aiW,List.mem_filter,List.mem_range]
  refine ⟨fun hy=>?_,fun hy=>(h y hy.1).1 hy.2⟩
  have hlt:y<(FOf f hf).q:=by
   rw [yg]
   exact ai9 (fun x hx'=>by have:=hx x hx';rwa [yg] at this) hy
  exact ⟨hlt,(h y hlt).2 hy⟩
 exact List.Perm.eq_of_pairwise (fun a b _ _ h k=>Int.le_antisymm h k) (PE _) h3 ((NC _).trans (hperm.map _))
def Lv:Env:=⟨tau,[(95,Ru),(96,Bl)],[]⟩
def WY:FnI:=fnI Try.f30 []
def G5 (_:Bool) (_:bP):(Int×(List Int))→au:=fun r=>⟨(.tcons (.ref (1,0) []) (.tcons (.i r.1) .tnil)),[],[⟨false,.il,.own,r.2⟩]⟩
theorem UY:∀(zp0:Bool)(p0:bP),bU Lv WY ⟨[(.imm zp0 eG p0)],[]⟩=(Jk p0).run fun r=>some (G5 zp0 p0 r):=fun _ _=>by kernel_rfl
def WX (av:List AV) (rs:List Root):Tre au:=
 aA av fun a0_ av0=>
 aK av0<|
 aK rs<|
 bX eG a0_ fun z2 d1=>
 .mat (xR d1) fun r=>.ret (G5 z2 d1 r)
def Lx:Ctr:=fJ [] WX
theorem UZ:Contract Try.prog .none 30 Lx:=aB (V:=Lv) aS (ay YV akv (ay KQ akw aG)) Try.func30 bN fun _ _ _=>aJ fun _ _=>bD<|bD<|iq fun _ _=>fun h=>by intros;subst_vars;exact bC (UY _ _) h
def Q6 (p0:(Int×(Int×Unit))):Tre Int:=
 .ite (0≤aI .u64 p0.1)<|
 let v1:=Ah .i64 1 (aI .u64 p0.1)
 .ret v1
def DI (p0:(Int×(Int×Unit))):Option Int:=(Q6 p0).run some
def Sc:Env:=⟨tau,[],[]⟩
def abR:FnI:=fnI Try.f157 []
def L8 (_:(Int×(Int×Unit))):Int→au:=fun r=>⟨(.i r),[],[]⟩
theorem ZK:∀(p0:(Int×(Int×Unit))),bU Sc abR ⟨[(.imm true aH p0)],[]⟩=(Q6 p0).run fun r=>some (L8 p0 r):=fun _=>by kernel_rfl
def abQ (av:List AV) (rs:List Root):Tre au:=
 aA av fun a0_ av0=>
 aK av0<|
 aK rs<|
 aD true aH a0_ fun d1=>
 .mat (DI d1) fun r=>.ret (L8 d1 r)
def Sd:Ctr:=fJ [] abQ
theorem ZL:Contract Try.prog .none 157 Sd:=aB (V:=Sc) aS aG Try.func157 bN fun _ _ _=>aJ fun _ _=>bD<|bD<|aU fun _=>fun h=>by intros;subst_vars;exact bC (ZK _) h
def VP (p0:List Int):Tre (List Int):=
 .ite ((0+p0.length)*8≤fD∧1≤8)<|
 .ret ([]++p0)
def VQ (p0:List Int):Option (List Int):=(VP p0).run some
theorem Xw(p0 y:List Int)(h:za p0=some y):VQ p0=some y:=by
 obtain ⟨hl,rfl⟩:=OL h
 have hb:(0+p0.length)*8≤fD∧1≤8:=by unfold fD;omega
 unfold VQ VP
 rw [Tre.run_ite,if_pos hb]
 rfl
def VR:Env:=⟨tau,[],[]⟩
def adz:FnI:=fnI Try.f188 []
def Pk (_:Bool) (_:List Int):(List Int)→au:=fun r=>⟨(.ref (1,0) []),[],[⟨false,.il,.own,r⟩]⟩
theorem abK:∀(zp0:Bool)(p0:List Int),bU VR adz ⟨[(.imm zp0 .il p0)],[]⟩=(VP p0).run fun r=>some (Pk zp0 p0 r):=fun _ _=>by kernel_rfl
def ady (av:List AV) (rs:List Root):Tre au:=
 aA av fun a0_ av0=>
 aK av0<|
 aK rs<|
 bX .il a0_ fun z2 d1=>
 .mat (za d1) fun r=>.ret (Pk z2 d1 r)
def VT:Ctr:=fJ [] ady
theorem abL:Contract Try.prog .none 188 VT:=aB (V:=VR) aS aG Try.func188 bN fun _ _ _=>aJ fun _ _=>bD<|bD<|iq fun _ _=>fun h=>by intros;subst_vars;exact CF (abK _ _) (Xw _) h
def sO (bA:List Int):Int→Tre (Int ⊕ Int):=fun s2=>
 .cond (decide (s2>0))
  (.ite (0≤aI .i64 (s2-1)∧aI .i64 (s2-1)<(bA.length:Int))<|
  .mat (bA[(aI .i64 (s2-1)).toNat]?) fun x1=>
  .cond (decide (x1=0))
   (.ret (.inl (aI .i64 (s2-1))))
   (.ret (.inr s2)))
  (.ret (.inr s2))
def Q7 (p0:List Int):Tre (List Int):=
 .mat (aZ (sO p0) (p0.length:Int)) fun l2=>
 .ite (0≤(0:Int)∧(0:Int)≤l2∧l2≤(p0.length:Int))<|
 let v3:=(p0.drop 0).take (l2-0).toNat
 .mat (za v3) fun r4=>
 .ret r4
def DL (p0:List Int):Option (List Int):=(Q7 p0).run some
-- more
theorem ahh{l:List Nat}(hl2:l.length≤1000):DL (aW l)=some (aW (dR l)):=by
 have htl:=sV l
 have hlen:=bG l
 have hm:∀n,0<n→n≤l.length→aI .i64 ((n:Int)-1)=((n-1:Nat):Int):=fun n h1 h2=>mU h1 (by omega)
 have hx:∀n,0<n→n≤l.length→(aW l)[n-1]?=some (cf l (n-1):Int):=fun n h1 h2=>jd (oG (by omega))
 unfold DL Q7
 rw [ak (show aZ (sO (aW l)) ((aW l).length:Int)=some (((dR l).length:Nat):Int) from ?_)]
 ·rw [Tre.run_ite,if_pos (by omega)]
  dsimp only
  rw [show ((((dR l).length:Nat):Int)-0).toNat=(dR l).length by omega,List.drop_zero,←QI,ZV,ak (show za (aW (dR l))=some _ from Zh (by rw [bG];omega)),Tre.aM]
 have h0:((aW l).length:Int)=((l.length-0:Nat):Int):=by rw [hlen];omega
 rw [h0]
 refine nZ (fun i=>((l.length-i:Nat):Int)) (l.length-(dR l).length) _ (fun i hi=>?_) ?_
 ·unfold sO
  rw [Tre.aC,decide_eq_true (by omega),cond_true,hm _ (by omega) (by omega),lK (hx _ (by omega) (by omega)),Tre.aC,decide_eq_true (by rw [FD (by omega)];rfl),cond_true,Tre.aM,Nat.sub_sub]
 ·rw [show l.length-(l.length-(dR l).length)=(dR l).length by omega]
  unfold sO
  by_cases hz:(dR l).length=0
  ·rw [Tre.aC,decide_eq_false (by omega),cond_false,Tre.aM]
  ·have h1:=(PO l).resolve_left hz
   rw [Tre.aC,decide_eq_true (by omega),cond_true,hm _ (by omega) htl,lK (hx _ (by omega) htl),Tre.aC,decide_eq_false (by omega),cond_false,Tre.aM]
def DN:Env:=⟨tau,[(188,VT)],[]⟩
def Sg:Code:=(Try.f158.body).getD .skip
def Ho (nk:Bool) (bA:List Int):Int→St:=fun x=>fA [(0,(.imm nk .il bA)),(3,(.i x))] []
def Fq (nk:Bool) (bA:List Int):Int→Ex×St:=fun x=>(.exit 0,fA [(0,(.imm nk .il bA)),(3,(.i x))] [])
def V3 (s:St):Tre (Ex×St):=
 bX .il (s.tmps 0) fun z3 d2=>
 aD true .n (s.tmps 3) fun d5=>
 .mat (aZ (sO d2) d5) fun x=>.ret (Fq z3 d2 x)
def wz:bS:=⟨([0,3],[]),([0,3],[]),V3⟩
def J5:List (Nat×bS):=[(2,wz)]
theorem Py:∀(nk:Bool)(bA:List Int)(x:Int)(c:St→Option (Ex×St)),den DN J5 (bF Sg 0) (Ho nk bA x) (fE wz.kp wz.kx c)=(sO bA x).run (fF (Ho nk bA) (Fq nk bA) c):=fun _ _ _ _=>by
 kernel_rfl
theorem Tw:dZ DN J5 (bF Sg 0) wz:=jf fun _ _ _=>iq fun _ _=>aU fun _=>fun h e4 e1=>gB (Py _ _) h (by subst_vars;exact bn rfl rfl ⟨e1,e4,trivial⟩ trivial)
def abT:FnI:=fnI Try.f158 J5
def L9 (_:Bool) (_:List Int):(List Int)→au:=fun r=>⟨(.ref (1,0) []),[],[⟨false,.il,.own,r⟩]⟩
theorem ZM:∀(zp0:Bool)(p0:List Int),bU DN abT ⟨[(.imm zp0 .il p0)],[]⟩=(Q7 p0).run fun r=>some (L9 zp0 p0 r):=fun _ _=>by kernel_rfl
def abS (av:List AV) (rs:List Root):Tre au:=
 aA av fun a0_ av0=>
 aK av0<|
 aK rs<|
 bX .il a0_ fun z2 d1=>
 .mat (DL d1) fun r=>.ret (L9 z2 d1 r)
def Si:Ctr:=fJ [] abS
theorem ZN:Contract Try.prog .none 158 Si:=aB (V:=DN) aS (ay abL ajv aG) Try.func158 (dw (n:=1) fun k hk=>by
 match k,hk with
 |0,_=>exact eH (id:=2) Tw) fun _ _ _=>aJ fun _ _=>bD<|bD<|iq fun _ _=>fun h=>by intros;subst_vars;exact bC (ZM _ _) h
def jM (fK:(Int×(Int×Unit))):(Int×dn×(List Int))→Tre ((Int×dn×(List Int)) ⊕ (dn×(List Int))):=fun s3=>
 .cond (decide (s3.1>0))
  (.mat (DI fK) fun r2=>
  .mat (gD r2 s3.2.1) fun r3=>
  .ite ((s3.2.2.length+1)*8≤fD∧1≤8)<|
  .ret (.inl (aI .i64 (s3.1-1),r3.2,s3.2.2++([r3.1]))))
  (.ret (.inr (s3.2.1,s3.2.2)))
def zD (p0:(Int×(Int×Unit))) (p1:Int) (p2:dn):Tre (dn×(List Int)):=
 .mat (gD (aI .i64 (p1+1)) p2) fun r1=>
 .mat (aZ (jM p0) (r1.1,r1.2,[])) fun l4=>
 .mat (DL l4.2) fun r5=>
 .ret (l4.1,r5)
def wo (p0:(Int×(Int×Unit))) (p1:Int) (p2:dn):Option (dn×(List Int)):=(zD p0 p1 p2).run some
def qP:Env:=⟨tau,[(149,mK),(157,Sd),(158,Si)],[]⟩
def DJ:Code:=(Try.f97.body).getD .skip
def wO (uS:Bool) (fK:(Int×(Int×Unit))):(Int×dn×(List Int))→St:=fun x=>fA [(0,(.ptr (0,0) [])),(4,(.ptr (6,0) [])),(7,(.ref (9,0) [])),(8,(.i x.1))] [((0,0),some ⟨true,jR,(.imm uS),x.2.1⟩),((6,0),some ⟨true,aH,.own,fK⟩),((9,0),some ⟨false,.il,.own,x.2.2⟩)]
def wu (uS:Bool) (_:(Int×(Int×Unit))):(dn×(List Int))→Ex×St:=fun x=>(.exit 0,fA [(7,(.ref (9,0) []))] [((0,0),some ⟨true,jR,(.imm uS),x.1⟩),((9,0),some ⟨false,.il,.own,x.2⟩)])
def J4 (s:St):Tre (Ex×St):=
 nu (0,0) [] (s.tmps 0)<|
 nu (6,0) [] (s.tmps 4)<|
 nJ (9,0) [] (s.tmps 7)<|
 aD true .n (s.tmps 8) fun d5=>
 dY true jR (s.roots (0,0)) fun m7 d8=>
 ru m7 fun z9=>
 dY true aH (s.roots (6,0)) fun m11 d12=>
 asM .own m11<|
 dY false .il (s.roots (9,0)) fun m14 d15=>
 asM .own m14<|
 .mat (aZ (jM d12) (d5,d8,d15)) fun x=>.ret (wu z9 d12 x)
def mM:bS:=⟨([0,4,7,8],[(0,0),(6,0),(9,0)]),([7],[(0,0),(9,0)]),J4⟩
def wm:List (Nat×bS):=[(3,mM)]
theorem Fp:∀(uS:Bool)(fK:(Int×(Int×Unit)))(x:(Int×dn×(List Int)))(c:St→Option (Ex×St)),den qP wm (bF DJ 0) (wO uS fK x) (fE mM.kp mM.kx c)=(jM fK x).run (fF (wO uS fK) (wu uS fK) c):=fun _ _ _ _=>by
 kernel_rfl
theorem Ij:dZ qP wm (bF DJ 0) mM:=jf fun _ _ _=>Ap<|Ap<|J9<|aU fun _=>mP fun _ _=>Hq fun _=>mP fun _ _=>tM<|mP fun _ _=>tM<|fun h _ e13 _ e10 _ e6 e4 e3 e2 e1=>gB (Fp _ _) h (by subst_vars;exact bn rfl rfl ⟨e1,e2,e3,e4,trivial⟩ ⟨e6,e10,e13,trivial⟩)
def Px:FnI:=fnI Try.f97 wm
def zT (zp0:Bool) (_:(Int×(Int×Unit))) (_:Int) (_:dn):(dn×(List Int))→au:=fun r=>⟨(.ref (1,0) []),[⟨true,jR,(.imm zp0),r.1⟩],[⟨false,.il,.own,r.2⟩]⟩
theorem Ny:∀(zp0:Bool)(p0:(Int×(Int×Unit)))(p1:Int)(p2:dn),bU qP Px ⟨[(.ptr (0,0) []),(.imm true aH p0),(.i p1)],[⟨true,jR,(.imm zp0),p2⟩]⟩=(zD p0 p1 p2).run fun r=>some (zT zp0 p0 p1 p2 r):=fun _ _ _ _=>by kernel_rfl
def Pw (av:List AV) (rs:List Root):Tre au:=
 aA av fun a0_ av0=>
 aA av0 fun a1_ av1=>
 aA av1 fun a2_ av2=>
 aK av2<|
 aA rs fun r0_ rs0=>
 aK rs0<|
 nu (0,0) [] a0_<|
 aD true aH a1_ fun d1=>
 aD true .n a2_ fun d2=>
 uH true jR r0_ fun m3 d4=>
 ru m3 fun z5=>
 .mat (wo d1 d2 d4) fun r=>.ret (zT z5 d1 d2 d4 r)
def DK:Ctr:=fJ [] Pw
theorem Nz:Contract Try.prog .none 97 DK:=aB (V:=qP) aS (ay qw acT (ay ZL ajr (ay ZN ajs aG))) Try.func97 (dw (n:=1) fun k hk=>by
 match k,hk with
 |0,_=>exact eH (id:=3) Ij) fun _ _ _=>aJ fun _ _=>aJ fun _ _=>aJ fun _ _=>bD<|aJ fun _ _=>bD<|Ap<|aU fun _=>aU fun _=>tRt fun _ _=>Hq fun _=>fun h=>by intros;subst_vars;exact bC (Ny _ _ _ _) h
def Nr (p0:List Int) (p1:(Int×(Int×Unit))) (p2:Int):Tre (List Int):=
 .mat (wo p1 p2 (p0,(0,(0,())))) fun r1=>
 .ret r1.2
def Aj (p0:List Int) (p1:(Int×(Int×Unit))) (p2:Int):Option (List Int):=(Nr p0 p1 p2).run some
-- more
theorem ajY{f:TF3}(hf:aO f=true):DI f=some (((FOf f hf).q:Nat):Int):=by
 have hd:=jX hf
 unfold DI Q6
 have hu:aI .u64 f.1=f.1:=Kr (by omega) (by omega)
 rw [hu,Tre.run_ite,if_pos (by omega),Tre.aM,yg]
 congr 1
 have:∀n:Nat,n<6→Ah .i64 1 (n:Int)=((2 ^ n:Nat):Int):=by decide
 have h:=this f.1.toNat (by omega)
 rwa [show ((f.1.toNat:Nat):Int)=f.1 by omega] at h
theorem Zg{f:TF3}(hf:aO f=true):∀(m:Nat){c:Nat}{s:Src}{L:List Nat},L.length+m≤100→DR c s→c+2*m≤80000→inL (FOf f hf) L →
  ∃r,aZ (jM f) ((m:Int),s,aW L)=some r∧∃L':List Nat,r.2=aW L'∧L'.length≤L.length+m∧inL (FOf f hf) L':=by
 intro m
 induction m with
 |zero=>
  intro c s L _ _ _ hL
  refine ⟨(s,aW L),gQ ?_,L,rfl,by omega,hL⟩
  unfold jM
  dsimp only
  rw [Tre.aC,decide_eq_false (by omega),cond_false,Tre.aM]
 |succ m ih=>
  intro c s L hl hs hc hL
  obtain ⟨r,hr1,⟨hr2,hr3⟩,hr4⟩:=TM (n:=(((FOf f hf).q:Nat):Int)) hs (by omega)
  have hz:=(FOf f hf).zlt
  obtain ⟨a,ha⟩:∃a:Nat,r.1=(a:Int):=⟨r.1.toNat,by omega⟩
  rw [kK (y:=((m:Int),r.2,aW (L++[a]))) (by
   unfold jM
   dsimp only
   rw [Tre.aC,decide_eq_true (by omega),cond_true,ak (ajY hf),ak hr1,Tre.run_ite,if_pos (by rw [bG];unfold fD;omega),Tre.aM,jK (by omega) (by omega),ha,Vi,show ((m+1:Nat):Int)-1=(m:Int) by omega]
   rfl)]
  have hlen:(L++[a]).length=L.length+1:=by rw [List.length_append];rfl
  obtain ⟨q,hq1,L',hq2,hq3,hq4⟩:=ih (L:=L++[a]) (by omega) hr4 (by omega) (TK hL fun x hx=>by rw [List.mem_singleton.1 hx];omega)
  exact ⟨q,hq1,L',hq2,by omega,hq4⟩
theorem Z8{code:List Int}(hl:code.length≤5000)(hc:∀x∈code,0≤x∧x≤255){f:TF3}(hf:aO f=true):∃r,Aj code f 6=some r∧∃L:List Nat,r=aW L∧inL (FOf f hf) L∧AA L∧L.length≤6:=by
 have h0:DR 0 (code,0,0,()):=⟨hl,hc,Int.le_refl _,Int.le_refl _⟩
 unfold Aj Nr
 refine iy.run (iy.mat (P:=fun r=>∃L:List Nat,r.2=aW L∧inL (FOf f hf) L∧AA L∧L.length≤6) ?_ fun r hr=>.ret hr)
 unfold wo zD
 refine iy.run (iy.mat (TM h0 (by omega)) fun a ha=>?_)
 have hw:aI .i64 ((6:Int)+1)=7:=rfl
 rw [hw] at ha
 obtain ⟨m,hm⟩:∃m:Nat,a.1=(m:Int):=⟨a.1.toNat,by omega⟩
 rw [hm]
 refine iy.mat (Zg hf m (L:=[]) (by simp;omega) ha.2 (by omega) (fun x hx=>absurd hx List.not_mem_nil)) fun r hr=>?_
 obtain ⟨L,h1,h2,h3⟩:=hr
 simp at h2
 rw [h1]
 have:=sV L
 exact iy.get (ahh (by omega)) (.ret ⟨dR L,rfl,EY h3,ND L,by omega⟩)
def Pe:Env:=⟨tau,[(86,JR),(97,DK)],[]⟩
def ZB:FnI:=fnI Try.f31 []
def JO (_:Bool) (_:List Int) (_:(Int×(Int×Unit))) (_:Int):(List Int)→au:=fun r=>⟨(.ref (1,0) []),[],[⟨false,.il,.own,r⟩]⟩
theorem Xr:∀(zp0:Bool)(p0:List Int)(p1:(Int×(Int×Unit)))(p2:Int),bU Pe ZB ⟨[(.imm zp0 (.sl (.int .u8)) p0),(.imm true aH p1),(.i p2)],[]⟩=(Nr p0 p1 p2).run fun r=>some (JO zp0 p0 p1 p2 r):=fun _ _ _ _=>by kernel_rfl
def ZA (av:List AV) (rs:List Root):Tre au:=
 aA av fun a0_ av0=>
 aA av0 fun a1_ av1=>
 aA av1 fun a2_ av2=>
 aK av2<|
 aK rs<|
 bX (.sl (.int .u8)) a0_ fun z2 d1=>
 aD true aH a1_ fun d3=>
 aD true .n a2_ fun d4=>
 .mat (Aj d1 d3 d4) fun r=>.ret (JO z2 d1 d3 d4 r)
def Pf:Ctr:=fJ [] ZA
theorem Xt:Contract Try.prog .none 31 Pf:=aB (V:=Pe) aS (ay Pj ai2 (ay Nz akx aG)) Try.func31 bN fun _ _ _=>aJ fun _ _=>aJ fun _ _=>aJ fun _ _=>bD<|bD<|iq fun _ _=>aU fun _=>aU fun _=>fun h=>by intros;subst_vars;exact bC (Xr _ _ _ _) h
def QB (p0:(Int×(Int×Unit))) (p1:List Int) (p2:Int):Tre (Int×Int):=
 .mat (eu p0 ([p1])) fun r1=>
 .cond (decide (r1=0))
  (.mat (p9 p0 ([p2])) fun r2=>
  .cond (!r2)
   (.ret (0,2))
   (.cond (!decide (r1=0))
    (.ret (0,r1))
    (.mat (kH p0 p1 p2) fun r3=>
    .ret (r3,0))))
  (.cond (!decide (r1=0))
   (.ret (0,r1))
   (.mat (kH p0 p1 p2) fun r4=>
   .ret (r4,0)))
def Dj (p0:(Int×(Int×Unit))) (p1:List Int) (p2:Int):Option (Int×Int):=(QB p0 p1 p2).run some
-- more
theorem aeV{f:TF3}(hf:aO f=true){V:List Nat}(hV:Yt hf V){x:Nat}(hx:x<(FOf f hf).q):Dj f (aW V) (x:Int)=some ((((FOf f hf).lp V x:Nat):Int),0):=by
 have hc:eu f [aW V]=some 0:=Ju hf (Ls:=[V]) (by simp) fun L hL=>by rw [List.mem_singleton.1 hL];exact hV
 have hh:aaF f [(x:Int)]=true:=acR hf (L:=[x]) fun y hy=>by rw [List.mem_singleton.1 hy];exact hx
 have hl:=hV.2.2
 unfold Dj QB
 rw [ak hc,Tre.aC,decide_eq_true rfl,cond_true,ak (Bb hf [(x:Int)] (by simp)),hh,Tre.aC,Bool.not_true,cond_false,Tre.aC,cond_false,ak (QJ hf hV.1 (by omega) hx),Tre.aM]
def Rz:Env:=⟨tau,[(89,mH),(98,xQ),(93,uy)],[]⟩
def aaS:FnI:=fnI Try.f32 []
def Lu (_:Bool) (_:(Int×(Int×Unit))) (_:List Int) (_:Int):(Int×Int)→au:=fun r=>⟨(.tcons (.i r.1) (.tcons (.i r.2) .tnil)),[],[]⟩
theorem Y1:∀(zp0:Bool)(p0:(Int×(Int×Unit)))(p1:List Int)(p2:Int),bU Rz aaS ⟨[(.imm true aH p0),(.imm zp0 .il p1),(.i p2)],[]⟩=(QB p0 p1 p2).run fun r=>some (Lu zp0 p0 p1 p2 r):=fun _ _ _ _=>by kernel_rfl
def aaR (av:List AV) (rs:List Root):Tre au:=
 aA av fun a0_ av0=>
 aA av0 fun a1_ av1=>
 aA av1 fun a2_ av2=>
 aK av2<|
 aK rs<|
 aD true aH a0_ fun d1=>
 bX .il a1_ fun z3 d2=>
 aD true .n a2_ fun d4=>
 .mat (Dj d1 d2 d4) fun r=>.ret (Lu z3 d1 d2 d4 r)
def RA:Ctr:=fJ [] aaR
theorem Y2:Contract Try.prog .none 32 RA:=aB (V:=Rz) aS (ay qo agk (ay Bc agm (ay xg agl aG))) Try.func32 bN fun _ _ _=>aJ fun _ _=>aJ fun _ _=>aJ fun _ _=>bD<|bD<|aU fun _=>iq fun _ _=>aU fun _=>fun h=>by intros;subst_vars;exact bC (Y1 _ _ _ _) h
def wZ (aR:(Int×(Int×Unit))):(Int×Int×Int)→Tre ((Int×Int×Int) ⊕ Int):=fun s2=>
 .cond (decide (s2.2.1>0))
  (.cond (decide (KU .i64 s2.2.1 1=1))
   (.mat (bI aR s2.2.2 s2.1) fun r1=>
   .mat (bI aR s2.1 s2.1) fun r2=>
   .ret (.inl (r2,OH .i64 s2.2.1 1,r1)))
   (.mat (bI aR s2.1 s2.1) fun r3=>
   .ret (.inl (r3,OH .i64 s2.2.1 1,s2.2.2))))
  (.ret (.inr s2.2.2))
def Ll (p0:(Int×(Int×Unit))) (p1:Int) (p2:Int):Tre Int:=
 .mat (aZ (wZ p0) (p1,p2,1)) fun l4=>
 .ret l4
def GK (p0:(Int×(Int×Unit))) (p1:Int) (p2:Int):Option Int:=(Ll p0 p1 p2).run some
def uq:Env:=⟨tau,[(145,qb)],[]⟩
def GL:Code:=(Try.f223.body).getD .skip
def zM (aR:(Int×(Int×Unit))):(Int×Int×Int)→St:=fun x=>fA [(1,(.i x.1)),(2,(.i x.2.1)),(3,(.ptr (5,0) [])),(7,(.i x.2.2))] [((5,0),some ⟨true,aH,.own,aR⟩)]
def yD (_:(Int×(Int×Unit))):Int→Ex×St:=fun x=>(.exit 0,fA [(7,(.i x))] [])
def MR (s:St):Tre (Ex×St):=
 aD true .n (s.tmps 1) fun d2=>
 aD true .n (s.tmps 2) fun d4=>
 nu (5,0) [] (s.tmps 3)<|
 aD true .n (s.tmps 7) fun d7=>
 dY true aH (s.roots (5,0)) fun m9 d10=>
 asM .own m9<|
 .mat (aZ (wZ d10) (d2,d4,d7)) fun x=>.ret (yD d10 x)
def oL:bS:=⟨([1,2,3,7],[(5,0)]),([7],[]),MR⟩
def zo:List (Nat×bS):=[(2,oL)]
theorem H6:∀(aR:(Int×(Int×Unit)))(x:(Int×Int×Int))(c:St→Option (Ex×St)),den uq zo (bF GL 0) (zM aR x) (fE oL.kp oL.kx c)=(wZ aR x).run (fF (zM aR) (yD aR) c):=fun _ _ _=>by
 kernel_rfl
theorem KL:dZ uq zo (bF GL 0) oL:=jf fun _ _ _=>aU fun _=>aU fun _=>Ap<|aU fun _=>mP fun _ _=>tM<|fun h _ e8 e6 e5 e3 e1=>gB (H6 _) h (by subst_vars;exact bn rfl rfl ⟨e1,e3,e5,e6,trivial⟩ ⟨e8,trivial⟩)
def SI:FnI:=fnI Try.f223 zo
def C9 (_:(Int×(Int×Unit))) (_:Int) (_:Int):Int→au:=fun r=>⟨(.i r),[],[]⟩
theorem Qq:∀(p0:(Int×(Int×Unit)))(p1 p2:Int),bU uq SI ⟨[(.imm true aH p0),(.i p1),(.i p2)],[]⟩=(Ll p0 p1 p2).run fun r=>some (C9 p0 p1 p2 r):=fun _ _ _=>by kernel_rfl
def SH (av:List AV) (rs:List Root):Tre au:=
 aA av fun a0_ av0=>
 aA av0 fun a1_ av1=>
 aA av1 fun a2_ av2=>
 aK av2<|
 aK rs<|
 aD true aH a0_ fun d1=>
 aD true .n a1_ fun d2=>
 aD true .n a2_ fun d3=>
 .mat (GK d1 d2 d3) fun r=>.ret (C9 d1 d2 d3 r)
def GN:Ctr:=fJ [] SH
theorem Qr:Contract Try.prog .none 223 GN:=aB (V:=uq) aS (ay rD Us aG) Try.func223 (dw (n:=1) fun k hk=>by
 match k,hk with
 |0,_=>exact eH (id:=2) KL) fun _ _ _=>aJ fun _ _=>aJ fun _ _=>aJ fun _ _=>bD<|bD<|aU fun _=>aU fun _=>aU fun _=>fun h=>by intros;subst_vars;exact bC (Qq _ _ _) h
def GI (p0:(Int×(Int×Unit))) (p1:Int):Tre Int:=
 .mat (jl p0) fun r1=>
 .mat (GK p0 p1 (aI .i64 (r1-2))) fun r2=>
 .ret r2
def bJ (p0:(Int×(Int×Unit))) (p1:Int):Option Int:=(GI p0 p1).run some
-- more
set_option maxRecDepth 100000
theorem ajK:Mk bJ Bv 1 2=true:=by kernel_rfl
theorem ajL:Mk bJ Bv 1 3=true:=by kernel_rfl
theorem ajM:Mk bJ Bv 2 7=true:=by kernel_rfl
theorem ahX:Mk bJ Bv 3 11=true:=by kernel_rfl
theorem ahY:Mk bJ Bv 3 13=true:=by kernel_rfl
theorem ahZ:Mk bJ Bv 4 19=true:=by kernel_rfl
theorem ah0:Mk bJ Bv 4 25=true:=by kernel_rfl
theorem ah1:Mk bJ Bv 4 31=true:=by kernel_rfl
theorem ah2:Mk bJ Bv 5 37=true:=by kernel_rfl
theorem ah3:Mk bJ Bv 5 41=true:=by kernel_rfl
theorem ah4:Mk bJ Bv 5 47=true:=by kernel_rfl
theorem ah5:Mk bJ Bv 5 55=true:=by kernel_rfl
theorem ah6:Mk bJ Bv 5 59=true:=by kernel_rfl
theorem ah7:Mk bJ Bv 5 61=true:=by kernel_rfl
theorem ah8{f:TF3}(hf:aO f=true){a:Int}(ha:inF f a):bJ f a=some (KV f a):=by
 refine ajT (fun q hq=>?_) hf ha
 simp only [jW,List.mem_cons,List.not_mem_nil,or_false] at hq
 rcases hq with rfl|rfl|rfl|rfl|rfl|rfl|rfl|rfl|rfl|rfl|rfl|rfl|rfl|rfl
 ·exact ajK
 ·exact ajL
 ·exact ajM
 ·exact ahX
 ·exact ahY
 ·exact ahZ
 ·exact ah0
 ·exact ah1
 ·exact ah2
 ·exact ah3
 ·exact ah4
 ·exact ah5
 ·exact ah6
 ·exact ah7
def CZ:Env:=⟨tau,[(142,uo),(223,GN)],[]⟩
def Oh:FnI:=fnI Try.f198 []
def zL (_:(Int×(Int×Unit))) (_:Int):Int→au:=fun r=>⟨(.i r),[],[]⟩
theorem MN:∀(p0:(Int×(Int×Unit)))(p1:Int),bU CZ Oh ⟨[(.imm true aH p0),(.i p1)],[]⟩=(GI p0 p1).run fun r=>some (zL p0 p1 r):=fun _ _=>by kernel_rfl
def Og (av:List AV) (rs:List Root):Tre au:=
 aA av fun a0_ av0=>
 aA av0 fun a1_ av1=>
 aK av1<|
 aK rs<|
 aD true aH a0_ fun d1=>
 aD true .n a1_ fun d2=>
 .mat (bJ d1 d2) fun r=>.ret (zL d1 d2 r)
def C8:Ctr:=fJ [] Og
theorem MO:Contract Try.prog .none 198 C8:=aB (V:=CZ) aS (ay wW acS (ay Qr ajH aG)) Try.func198 bN fun _ _ _=>aJ fun _ _=>aJ fun _ _=>bD<|bD<|aU fun _=>aU fun _=>fun h=>by intros;subst_vars;exact bC (MN _ _) h
def Av (fB:List Int) (jr:Int):(Int×(List Int))→Tre ((Int×(List Int)) ⊕ (List Int)):=fun s4=>
 .cond (decide (s4.1<jr))
  (.ite (0≤s4.1∧s4.1<(fB.length:Int))<|
  .mat (fB[s4.1.toNat]?) fun x3=>
  .ite (0≤s4.1∧s4.1<(s4.2.length:Int))<|
  .mat (s4.2[s4.1.toNat]?) fun x4=>
  .ite (0≤s4.1∧s4.1<(s4.2.length:Int))<|
  .mat (s4.2[s4.1.toNat]?) fun _=>
  let v6:=s4.2.set s4.1.toNat (yN .i64 x4 x3)
  .ret (.inl (aI .i64 (s4.1+1),v6)))
  (.ret (.inr s4.2))
def ac3 (p0:List Int) (p1:List Int):Tre (List Int):=
 let v1:=if (p0.length:Int)<(p1.length:Int) then (p1.length:Int) else (p0.length:Int)
 .ite ((.n:K)=.n∧0≤v1∧v1=v1∧v1*(8:Nat)≤140737488355328∧1≤8)<|
 let v2:=p0.take (List.replicate v1.toNat (0:Int)).length++(List.replicate v1.toNat (0:Int)).drop p0.length
 .mat (aZ (Av p1 (p1.length:Int)) (0,v2)) fun l7=>
 .mat (tZ l7) fun r8=>
 .alt r8
  (fun a9=>
   .ret a9)
  (fun b10=>
   .ret ((b10.2.2.drop b10.1).take b10.2.1))
def Bt (p0:List Int) (p1:List Int):Option (List Int):=(ac3 p0 p1).run some
-- more
theorem ajc{f:TF3}(hf:aO f=true){A Q:List Nat}(hA:inL (FOf f hf) A)(hQ:inL (FOf f hf) Q)(hl:Q.length≤A.length){i:Nat}(hi:i<Q.length) :
  (aW (lg A (Q.take i)))[i]?=some (cf A i:Int)∧(aW Q)[i]?=some (cf Q i:Int)∧yN .i64 (cf A i:Int) (cf Q i:Int)=((cf A i^^^cf Q i:Nat):Int) ∧
  (aW (lg A (Q.take i))).set i (((cf A i^^^cf Q i:Nat):Int))=aW (lg A (Q.take (i+1))):=by
 have hti:(Q.take i).length=i:=by rw [List.length_take];omega
 obtain ⟨h1,h2⟩:=aad (Q.take i) A (cf Q i) (by omega)
 rw [hti] at h1 h2
 refine ⟨jd h1,jd (oG hi),adG hf (Cy hA i) (Cy hQ i),?_⟩
 rw [←OD,h2,List.take_add_one,oG hi];rfl
theorem aa8{f:TF3}(hf:aO f=true){P Q:List Nat}(hP:inL (FOf f hf) P)(hQ:inL (FOf f hf) Q)(hp:P.length≤1000)(hq:Q.length≤1000):Bt (aW P) (aW Q)=some (aW (dR (lg P Q))):=by
 have hm:(if ((aW P).length:Int)<((aW Q).length:Int) then ((aW Q).length:Int) else ((aW P).length:Int))=((max P.length Q.length:Nat):Int):=by
  rw [bG,bG];split<;>omega
 have hv:(aW P).take (List.replicate (max P.length Q.length) (0:Int)).length++(List.replicate (max P.length Q.length) (0:Int)).drop (aW P).length=aW (Nl (max P.length Q.length) P):=by
  rw [List.length_replicate,List.take_of_length_le (by rw [bG];omega),List.drop_replicate,bG]
  unfold Nl
  rw [Vi,Nc]
 have hpl:(Nl (max P.length Q.length) P).length=max P.length Q.length:=agV (by omega)
 have hpi:inL (FOf f hf) (Nl (max P.length Q.length) P):=TK hP fun x hx=>by rw [(List.mem_replicate.1 hx).2];exact FO.zlt _
 obtain ⟨r,hr1,hr2⟩:=X8 (l:=lg (Nl (max P.length Q.length) P) Q) (by rw [NM];omega)
 unfold Bt ac3
 dsimp only
 rw [hm,Tre.run_ite,if_pos ⟨rfl,by omega,rfl,by omega,by omega⟩,Int.toNat_natCast,hv]
 rw [ak (show aZ (Av (aW Q) ((aW Q).length:Int)) (0,aW (Nl (max P.length Q.length) P))=some (aW (lg (Nl (max P.length Q.length) P) Q)) from ?_),ak hr1]
 ·rw [←afA (max P.length Q.length),←hr2]
  cases r<;>rfl
 have h0:Nl (max P.length Q.length) P=lg (Nl (max P.length Q.length) P) (Q.take 0):=by rw [List.take_zero,aac]
 conv=>lhs;rw [h0]
 refine nZ (fun i=>((i:Int),aW (lg (Nl (max P.length Q.length) P) (Q.take i)))) Q.length _ (fun i hi=>?_) ?_
 ·obtain ⟨h1,h2,h3,h4⟩:=ajc hf hpi hQ (by omega) hi
  unfold Av
  dsimp only
  rw [oW h2,lK h1,lK h1,h3,Int.toNat_natCast,h4,Tre.aM,bQ (by omega)]
 ·unfold Av
  dsimp only
  rw [bG,qN,Tre.aM,List.take_length]
def Ow:Env:=⟨tau,[(207,Ed)],[]⟩
def aaV:Code:=(Try.f210.body).getD .skip
def Ox (Ke:Bool) (fB:List Int) (jr:Int):(Int×(List Int))→St:=fun x=>fA [(5,(.ref (7,0) [])),(17,(.imm Ke .il fB)),(18,(.i jr)),(19,(.i x.1))] [((7,0),some ⟨false,.il,.own,x.2⟩)]
def LB (_:Bool) (_:List Int) (_:Int):(List Int)→Ex×St:=fun x=>(.exit 0,fA [(5,(.ref (7,0) []))] [((7,0),some ⟨false,.il,.own,x⟩)])
def aaX (s:St):Tre (Ex×St):=
 nJ (7,0) [] (s.tmps 5)<|
 bX .il (s.tmps 17) fun z4 d3=>
 aD true .n (s.tmps 18) fun d6=>
 aD true .n (s.tmps 19) fun d8=>
 dY false .il (s.roots (7,0)) fun m10 d11=>
 asM .own m10<|
 .mat (aZ (Av d3 d6) (d8,d11)) fun x=>.ret (LB z4 d3 d6 x)
def Dn:bS:=⟨([5,17,18,19],[(7,0)]),([5],[(7,0)]),aaX⟩
def U5:List (Nat×bS):=[(4,Dn)]
theorem U6:∀(Ke:Bool)(fB:List Int)(jr:Int)(x:(Int×(List Int)))(c:St→Option (Ex×St)),den Ow U5 (bF aaV 0) (Ox Ke fB jr x) (fE Dn.kp Dn.kx c)=(Av fB jr x).run (fF (Ox Ke fB jr) (LB Ke fB jr) c):=fun _ _ _ _ _=>by
 kernel_rfl
theorem Y6:dZ Ow U5 (bF aaV 0) Dn:=jf fun _ _ _=>J9<|iq fun _ _=>aU fun _=>aU fun _=>mP fun _ _=>tM<|fun h _ e9 e7 e5 e2 e1=>gB (U6 _ _ _) h (by subst_vars;exact bn rfl rfl ⟨e1,e2,e5,e7,trivial⟩ ⟨e9,trivial⟩)
def agz:FnI:=fnI Try.f210 U5
def U7 (_:Bool) (_:Bool) (_:List Int) (_:List Int):(List Int)→au:=fun r=>⟨(.ref (1,0) []),[],[⟨false,.il,.own,r⟩]⟩
theorem aeL:∀(zp0 zp1:Bool)(p0 p1:List Int),bU Ow agz ⟨[(.imm zp0 .il p0),(.imm zp1 .il p1)],[]⟩=(ac3 p0 p1).run fun r=>some (U7 zp0 zp1 p0 p1 r):=fun _ _ _ _=>by kernel_rfl
def agy (av:List AV) (rs:List Root):Tre au:=
 aA av fun a0_ av0=>
 aA av0 fun a1_ av1=>
 aK av1<|
 aK rs<|
 bX .il a0_ fun z2 d1=>
 bX .il a1_ fun z4 d3=>
 .mat (Bt d1 d3) fun r=>.ret (U7 z2 z4 d1 d3 r)
def aaW:Ctr:=fJ [] agy
theorem aeM:Contract Try.prog .none 210 aaW:=aB (V:=Ow) aS (ay Jt agj aG) Try.func210 (dw (n:=1) fun k hk=>by
 match k,hk with
 |0,_=>exact eH (id:=4) Y6) fun _ _ _=>aJ fun _ _=>aJ fun _ _=>bD<|bD<|iq fun _ _=>iq fun _ _=>fun h=>by intros;subst_vars;exact bC (aeL _ _ _ _) h
def Oi (p0:(Int×(Int×Unit))) (p1:Int) (p2:Int):Tre Int:=
 .ifn (p0.1=0)<|
 let v1:=aI .i64 (p0.1-(Int.tmod p2 p0.1))
 .ifn (p0.1=0)<|
 .mat (jJ p0 p1 (Int.tmod v1 p0.1)) fun r2=>
 .ret r2
def Jd (p0:(Int×(Int×Unit))) (p1:Int) (p2:Int):Option Int:=(Oi p0 p1 p2).run some
-- more
def Je:Env:=⟨tau,[(143,nM)],[]⟩
def UO:FnI:=fnI Try.f211 []
def EH (_:(Int×(Int×Unit))) (_:Int) (_:Int):Int→au:=fun r=>⟨(.i r),[],[]⟩
theorem SK:∀(p0:(Int×(Int×Unit)))(p1 p2:Int),bU Je UO ⟨[(.imm true aH p0),(.i p1),(.i p2)],[]⟩=(Oi p0 p1 p2).run fun r=>some (EH p0 p1 p2 r):=fun _ _ _=>by kernel_rfl
def UN (av:List AV) (rs:List Root):Tre au:=
 aA av fun a0_ av0=>
 aA av0 fun a1_ av1=>
 aA av1 fun a2_ av2=>
 aK av2<|
 aK rs<|
 aD true aH a0_ fun d1=>
 aD true .n a1_ fun d2=>
 aD true .n a2_ fun d3=>
 .mat (Jd d1 d2 d3) fun r=>.ret (EH d1 d2 d3 r)
def Jf:Ctr:=fJ [] UN
theorem SL:Contract Try.prog .none 211 Jf:=aB (V:=Je) aS (ay qI YP aG) Try.func211 bN fun _ _ _=>aJ fun _ _=>aJ fun _ _=>aJ fun _ _=>bD<|bD<|aU fun _=>aU fun _=>aU fun _=>fun h=>by intros;subst_vars;exact bC (SK _ _ _) h
def iZ (bA:List Int) (bg:Bool) (gq:Int) (aR:(Int×(Int×Unit))):((List Int)×(List Int))→Tre (((List Int)×(List Int)) ⊕ ((List Int)×(List Int))):=fun s2=>
 .cond (decide ((s2.2.length:Int) ≥ (bA.length:Int)))
  (let v3:=aI .i64 ((s2.2.length:Int)-(bA.length:Int))
  .ite ((.n:K)=.n∧0≤aI .i64 (v3+1)∧aI .i64 (v3+1)=aI .i64 (v3+1)∧aI .i64 (v3+1)*(8:Nat)≤140737488355328∧1≤8)<|
  let v4:=aI .i64 ((s2.2.length:Int)-1)
  .ite (0≤v4∧v4<(s2.2.length:Int))<|
  .mat (s2.2[v4.toNat]?) fun x5=>
  .cond bg
   (.ite (0≤gq∧gq<(bA.length:Int))<|
   .mat (bA[gq.toNat]?) fun x6=>
   .mat (jJ aR x6 v3) fun r7=>
   .mat (bJ aR r7) fun r8=>
   .mat (bI aR x5 r8) fun r9=>
   .ite (0≤v3∧v3<((List.replicate (aI .i64 (v3+1)).toNat (0:Int)).length:Int))<|
   .mat ((List.replicate (aI .i64 (v3+1)).toNat (0:Int))[v3.toNat]?) fun _=>
   let v11:=(List.replicate (aI .i64 (v3+1)).toNat (0:Int)).set v3.toNat r9
   .mat (iY aR v11 bA) fun r12=>
   .mat (Bt s2.2 r12) fun r13=>
   .mat (Bt s2.1 v11) fun r14=>
   .ret (.inl (r14,r13)))
   (.ite (0≤gq∧gq<(bA.length:Int))<|
   .mat (bA[gq.toNat]?) fun x15=>
   .mat (bJ aR x15) fun r16=>
   .mat (bI aR x5 r16) fun r17=>
   .mat (Jd aR r17 gq) fun r18=>
   .ite (0≤v3∧v3<((List.replicate (aI .i64 (v3+1)).toNat (0:Int)).length:Int))<|
   .mat ((List.replicate (aI .i64 (v3+1)).toNat (0:Int))[v3.toNat]?) fun _=>
   let v20:=(List.replicate (aI .i64 (v3+1)).toNat (0:Int)).set v3.toNat r18
   .mat (iY aR bA v20) fun r21=>
   .mat (Bt s2.2 r21) fun r22=>
   .mat (Bt s2.1 v20) fun r23=>
   .ret (.inl (r23,r22))))
  (.ret (.inr (s2.1,s2.2)))
def A9 (p0:(Int×(Int×Unit))) (p1:List Int) (p2:List Int) (p3:Bool):Tre ((List Int)×(List Int)):=
 .mat (za p1) fun r1=>
 let v2:=aI .i64 ((p2.length:Int)-1)
 .mat (aZ (iZ p2 p3 v2 p0) ([],r1)) fun l24=>
 .ret (l24.1,l24.2)
def nL (p0:(Int×(Int×Unit))) (p1:List Int) (p2:List Int) (p3:Bool):Option ((List Int)×(List Int)):=(A9 p0 p1 p2 p3).run some
-- more
theorem aiR(k c:Nat):(List.replicate (k+1) (0:Int)).set k (c:Int)=aW (tC k c):=by
 unfold tC
 rw [OD,Nc]
theorem ahC.start{F:FO}{N V:List Nat}(hN:inL F N)(ht:AA N):ahC F N V [] N:=⟨fun x hx=>absurd hx List.not_mem_nil,hN,fun h=>absurd rfl h,ht,fun i=>by rw [show F.kY V (cf []) i=0 from aas AL,Nat.zero_xor]⟩
def su:Env:=⟨tau,[(61,rP),(143,nM),(198,C8),(145,qb),(151,vG),(210,aaW),(211,Jf)],[(1000002,[((14,0),[],false)])]⟩
def EF:Code:=(Try.f160.body).getD .skip
def yw (nk:Bool) (bA:List Int) (bg:Bool) (gq:Int) (aR:(Int×(Int×Unit))):((List Int)×(List Int))→St:=fun x=>fA [(2,(.imm nk .il bA)),(3,(.imm true .bool bg)),(4,(.ptr (6,0) [])),(10,(.ref (12,0) [])),(11,(.ref (13,0) [])),(12,(.i gq))] [((6,0),some ⟨true,aH,.own,aR⟩),((12,0),some ⟨false,.il,.own,x.1⟩),((13,0),some ⟨false,.il,.own,x.2⟩)]
def wJ (_:Bool) (_:List Int) (_:Bool) (_:Int) (_:(Int×(Int×Unit))):((List Int)×(List Int))→Ex×St:=fun x=>(.exit 0,fA [(10,(.ref (12,0) [])),(11,(.ref (13,0) []))] [((12,0),some ⟨false,.il,.own,x.1⟩),((13,0),some ⟨false,.il,.own,x.2⟩)])
def KH (s:St):Tre (Ex×St):=
 bX .il (s.tmps 2) fun z3 d2=>
 aD true .bool (s.tmps 3) fun d5=>
 nu (6,0) [] (s.tmps 4)<|
 nJ (12,0) [] (s.tmps 10)<|
 nJ (13,0) [] (s.tmps 11)<|
 aD true .n (s.tmps 12) fun d10=>
 dY true aH (s.roots (6,0)) fun m12 d13=>
 asM .own m12<|
 dY false .il (s.roots (12,0)) fun m15 d16=>
 asM .own m15<|
 dY false .il (s.roots (13,0)) fun m18 d19=>
 asM .own m18<|
 .mat (aZ (iZ d2 d5 d10 d13) (d16,d19)) fun x=>.ret (wJ z3 d2 d5 d10 d13 x)
def nE:bS:=⟨([2,3,4,10,11,12],[(6,0),(12,0),(13,0)]),([10,11],[(12,0),(13,0)]),KH⟩
def wX:List (Nat×bS):=[(2,nE)]
theorem FW:∀(nk:Bool)(bA:List Int)(bg:Bool)(gq:Int)(aR:(Int×(Int×Unit)))(x:((List Int)×(List Int)))(c:St→Option (Ex×St)),den su wX (bF EF 0) (yw nk bA bg gq aR x) (fE nE.kp nE.kx c)=(iZ bA bg gq aR x).run (fF (yw nk bA bg gq aR) (wJ nk bA bg gq aR) c):=fun _ _ _ _ _ _ _=>by
 kernel_rfl
theorem I7:dZ su wX (bF EF 0) nE:=jf fun _ _ _=>iq fun _ _=>aU fun _=>Ap<|J9<|J9<|aU fun _=>mP fun _ _=>tM<|mP fun _ _=>tM<|mP fun _ _=>tM<|fun h _ e17 _ e14 _ e11 e9 e8 e7 e6 e4 e1=>gB (FW _ _ _ _ _) h (by subst_vars;exact bn rfl rfl ⟨e1,e4,e6,e7,e8,e9,trivial⟩ ⟨e11,e14,e17,trivial⟩)
def Qo:FnI:=fnI Try.f160 wX
def Ba (_:Bool) (_:Bool) (_:(Int×(Int×Unit))) (_:List Int) (_:List Int) (_:Bool):((List Int)×(List Int))→au:=fun r=>⟨(.tcons (.ref (1,0) []) (.tcons (.ref (1,1) []) .tnil)),[],[⟨false,.il,.own,r.1⟩,⟨false,.il,.own,r.2⟩]⟩
theorem Ob:∀(zp0 zp1:Bool)(p0:(Int×(Int×Unit)))(p1 p2:List Int)(p3:Bool),bU su Qo ⟨[(.imm true aH p0),(.imm zp0 .il p1),(.imm zp1 .il p2),(.imm true .bool p3)],[]⟩=(A9 p0 p1 p2 p3).run fun r=>some (Ba zp0 zp1 p0 p1 p2 p3 r):=fun _ _ _ _ _ _=>by kernel_rfl
def Qn (av:List AV) (rs:List Root):Tre au:=
 aA av fun a0_ av0=>
 aA av0 fun a1_ av1=>
 aA av1 fun a2_ av2=>
 aA av2 fun a3_ av3=>
 aK av3<|
 aK rs<|
 aD true aH a0_ fun d1=>
 bX .il a1_ fun z3 d2=>
 bX .il a2_ fun z5 d4=>
 aD true .bool a3_ fun d6=>
 .mat (nL d1 d2 d4 d6) fun r=>.ret (Ba z3 z5 d1 d2 d4 d6 r)
def EG:Ctr:=fJ [] Qn
theorem Oc:Contract Try.prog .none 160 EG:=aB (V:=su) aS (ay wP ai1 (ay qI YP (ay MO ajw (ay rD Us (ay A8 agd (ay aeM ajE (ay SL ajF aG))))))) Try.func160 (dw (n:=1) fun k hk=>by
 match k,hk with
 |0,_=>exact eH (id:=2) I7) fun _ _ _=>aJ fun _ _=>aJ fun _ _=>aJ fun _ _=>aJ fun _ _=>bD<|bD<|aU fun _=>iq fun _ _=>iq fun _ _=>aU fun _=>fun h=>by intros;subst_vars;exact bC (Ob _ _ _ _ _ _) h
def zf (p0:(Int×(Int×Unit))) (p1:List Int) (p2:List Int) (p3:Bool):Tre (Int×(List Int)×(List Int)):=
 .mat (eu p0 ([p1,p2])) fun r1=>
 .cond (decide (r1=0))
  (.cond (decide ((p2.length:Int)=0))
   (.ret (4,[],[]))
   (.cond (!decide (r1=0))
    (.ret (r1,[],[]))
    (.mat (nL p0 p1 p2 p3) fun r2=>
    .ret (0,r2.1,r2.2))))
  (.cond (!decide (r1=0))
   (.ret (r1,[],[]))
   (.mat (nL p0 p1 p2 p3) fun r3=>
   .ret (0,r3.1,r3.2)))
def qF (p0:(Int×(Int×Unit))) (p1:List Int) (p2:List Int) (p3:Bool):Option (Int×(List Int)×(List Int)):=(zf p0 p1 p2 p3).run some
def CX:Env:=⟨tau,[(89,mH),(160,EG)],[]⟩
def Oe:FnI:=fnI Try.f99 []
def zK (_:Bool) (_:Bool) (_:(Int×(Int×Unit))) (_:List Int) (_:List Int) (_:Bool):(Int×(List Int)×(List Int))→au:=fun r=>⟨(.tcons (.ref (1,0) []) (.tcons (.ref (1,1) []) (.tcons (.i r.1) .tnil))),[],[⟨false,.il,.own,r.2.1⟩,⟨false,.il,.own,r.2.2⟩]⟩
theorem MK:∀(zp0 zp1:Bool)(p0:(Int×(Int×Unit)))(p1 p2:List Int)(p3:Bool),bU CX Oe ⟨[(.imm true aH p0),(.imm zp0 .il p1),(.imm zp1 .il p2),(.imm true .bool p3)],[]⟩=(zf p0 p1 p2 p3).run fun r=>some (zK zp0 zp1 p0 p1 p2 p3 r):=fun _ _ _ _ _ _=>by kernel_rfl
def Od (av:List AV) (rs:List Root):Tre au:=
 aA av fun a0_ av0=>
 aA av0 fun a1_ av1=>
 aA av1 fun a2_ av2=>
 aA av2 fun a3_ av3=>
 aK av3<|
 aK rs<|
 aD true aH a0_ fun d1=>
 bX .il a1_ fun z3 d2=>
 bX .il a2_ fun z5 d4=>
 aD true .bool a3_ fun d6=>
 .mat (qF d1 d2 d4 d6) fun r=>.ret (zK z3 z5 d1 d2 d4 d6 r)
def CY:Ctr:=fJ [] Od
theorem ML:Contract Try.prog .none 99 CY:=aB (V:=CX) aS (ay qo agk (ay Oc aju aG)) Try.func99 bN fun _ _ _=>aJ fun _ _=>aJ fun _ _=>aJ fun _ _=>aJ fun _ _=>bD<|bD<|aU fun _=>iq fun _ _=>iq fun _ _=>aU fun _=>fun h=>by intros;subst_vars;exact bC (MK _ _ _ _ _ _) h
def DY (p0:(Int×(Int×Unit))) (p1:List Int) (p2:List Int):Tre (Int×(List Int)×(List Int)):=
 .mat (qF p0 p1 p2 true) fun r1=>
 .ret (r1.1,r1.2.1,r1.2.2)
def um (p0:(Int×(Int×Unit))) (p1:List Int) (p2:List Int):Option (Int×(List Int)×(List Int)):=(DY p0 p1 p2).run some
-- more
structure aeb(F:FO)(N V R:List Nat):Prop where
 ir:inL F R
 tr:AA R
 eq:∃A:List Nat,∀x,F.lp N x=F.lp A (F.lp V x)^^^F.lp R x
theorem aeo{f:TF3}{hf:aO f=true}{N V R:List Nat}(h:aeb (FOf f hf) N V R)(hn:V≠[])(hl:V.length≤R.length){iv:Nat}(hinv:(FOf f hf).mul ((FOf f hf).sqn (R.length-V.length) (cf V (V.length-1))) iv=1) :
  aeb (FOf f hf) N V (dR (lg R (dR ((FOf f hf).lG (tC (R.length-V.length) ((FOf f hf).mul (cf R (R.length-1)) iv)) V)))) ∧
  (dR (lg R (dR ((FOf f hf).lG (tC (R.length-V.length) ((FOf f hf).mul (cf R (R.length-1)) iv)) V)))).length<R.length:=by
 have hvl:=List.length_pos_iff.2 hn
 have hrl:=Cy h.ir (R.length-1)
 generalize hc:(FOf f hf).mul (cf R (R.length-1)) iv=c
 have hcf:∀i,cf (lg R (dR ((FOf f hf).lG (tC (R.length-V.length) c) V))) i=cf R i^^^(FOf f hf).kY (tC (R.length-V.length) c) (cf V) i:=fun i=>by
  rw [Cx,jV,FO.Iw]
 obtain ⟨A,hA⟩:=h.eq
 refine ⟨⟨EY (Ze h.ir (EY (Vh _ _))),ND _,lg A (tC (R.length-V.length) c),fun x=>?_⟩,?_⟩
 ·rw [FO.Zi,(FOf f hf).Zj (p:=dR (lg R (dR ((FOf f hf).lG (tC (R.length-V.length) c) V)))) (fun i=>jV _ i),FO.Zi,(FOf f hf).Zj (p:=dR ((FOf f hf).lG (tC (R.length-V.length) c) V)) (fun i=>jV _ i),FO.Vu,hA x]
  generalize (FOf f hf).lp A ((FOf f hf).lp V x)=a
  generalize (FOf f hf).lp (tC (R.length-V.length) c) ((FOf f hf).lp V x)=t
  generalize (FOf f hf).lp R x=b
  calc a^^^b=(a^^^b)^^^(t^^^t):=by rw [Nat.xor_self,Nat.xor_zero]
   _=(a^^^t)^^^(b^^^t):=by ac_rfl
 ·have hlt:(dR (lg R (dR ((FOf f hf).lG (tC (R.length-V.length) c) V)))).length≤R.length-1:=by
   refine aiT fun i hi=>?_
   rw [hcf]
   have hz:∀i,V.length≤i→cf V i=0:=fun i hi=>NT hi
   by_cases he:i=R.length-1
   ·have htop:=(FOf f hf).Kh (tC (R.length-V.length) c) (R.length-V.length) (cf V) (V.length-1) (by rw [Rc];omega) (fun i hi=>hz i (by omega))
    rw [show R.length-V.length+(V.length-1)=i by omega,ahk,if_pos rfl] at htop
    rw [htop,←hc,FO.assoc,FO.comm _ iv,hinv,FO.one _ _ hrl,he,Nat.xor_self]
   ·rw [NT (by omega),FO.Qb _ _ _ V.length _ hz (by rw [Rc];omega)];rfl
  omega
theorem adb{f:TF3}(hf:aO f=true){N V:List Nat}(hV:inL (FOf f hf) V)(hn:V≠[])(ht:cf V (V.length-1)≠0):∀(m:Nat)(A R:List Nat),R.length≤m→inL (FOf f hf) A→A.length≤100→R.length≤100→V.length≤100→aeb (FOf f hf) N V R →
  ∃A' R',aZ (iZ (aW V) true ((V.length-1:Nat):Int) f) (aW A,aW R)=some (A',aW R')∧aeb (FOf f hf) N V R'∧R'.length<V.length:=by
 have hvl:0<V.length:=List.length_pos_iff.2 hn
 intro m
 induction m with
 |zero=>
  intro A R hm _ hA hR hV2 h
  refine ⟨aW A,R,gQ ?_,h,by omega⟩
  unfold iZ
  dsimp only
  rw [Tre.aC,decide_eq_false (by rw [bG,bG];omega),cond_false,Tre.aM]
 |succ m ih=>
  intro A R hm hAi hA hR hV2 h
  by_cases hl:V.length≤R.length
  ·have hvt:=Cy hV (V.length-1)
   have hst:=(FOf f hf).Ra (R.length-V.length) hvt
   obtain ⟨iv,hi1,hi2,hi3⟩:=ajR hf hst
   have hi3:=hi3 fun h0=>ht ((FOf f hf).ZO _ hvt h0)
   obtain ⟨hD,hlt⟩:=aeo h hn hl hi3
   have hrl:=Cy h.ir (R.length-1)
   have hcl:=(FOf f hf).lt (cf R (R.length-1)) iv
   have htl:=Rc (R.length-V.length) ((FOf f hf).mul (cf R (R.length-1)) iv)
   have hti:=ahl (k:=R.length-V.length) hcl
   have htn:tC (R.length-V.length) ((FOf f hf).mul (cf R (R.length-1)) iv)≠[]:=by intro h0;rw [h0] at htl;simp at htl
   have hcomp:=(FOf f hf).Ew (tC (R.length-V.length) ((FOf f hf).mul (cf R (R.length-1)) iv)) V htn hn
   have hct:=sV ((FOf f hf).lG (tC (R.length-V.length) ((FOf f hf).mul (cf R (R.length-1)) iv)) V)
   have hat:=sV (lg A (tC (R.length-V.length) ((FOf f hf).mul (cf R (R.length-1)) iv)))
   rw [NM,htl] at hat
   obtain ⟨A',R',h1,h2,h3⟩:=ih (dR (lg A (tC (R.length-V.length) ((FOf f hf).mul (cf R (R.length-1)) iv)))) _ (by omega) (EY (Ze hAi hti)) (by omega) (by omega) hV2 hD
   refine ⟨A',R',?_,h2,h3⟩
   rw [←h1]
   refine kK ?_
   have hk:aI .i64 (((aW R).length:Int)-((aW V).length:Int))=((R.length-V.length:Nat):Int):=by rw [bG,bG,jK (by omega) (by omega)];omega
   have hr:aI .i64 (((aW R).length:Int)-1)=((R.length-1:Nat):Int):=by rw [bG];exact mU (by omega) (by omega)
   have hk1:aI .i64 (((R.length-V.length:Nat):Int)+1)=((R.length-V.length+1:Nat):Int):=bQ (by omega)
   unfold iZ
   dsimp only
   rw [Tre.aC,decide_eq_true (by rw [bG,bG];omega),cond_true,hk,hk1,Tre.run_ite,if_pos ⟨rfl,by omega,rfl,by omega,by omega⟩,hr,lK (jd (oG (show R.length-1<R.length by omega))),Tre.aC,cond_true]
   rw [lK (jd (oG (show V.length-1<V.length by omega))),ak (adh hf hvt _),ak (ah8 hf ((aa4 hf).2 ⟨_,rfl,hst⟩)),hi1,ak (Zd hf hrl hi2),Int.toNat_natCast]
   rw [lK (show (List.replicate (R.length-V.length+1) (0:Int))[R.length-V.length]?=some 0 by rw [List.getElem?_replicate,if_pos (by omega)]),Int.toNat_natCast,aiR]
   rw [ak (RL hf hti hV (by omega) (by omega)),ak (aa8 hf h.ir (EY (Vh _ _)) (by omega) (by omega)),ak (aa8 hf hAi hti (by omega) (by omega)),Tre.aM]
  ·refine ⟨aW A,R,gQ ?_,h,by omega⟩
   unfold iZ
   dsimp only
   rw [Tre.aC,decide_eq_false (by rw [bG,bG];omega),cond_false,Tre.aM]
theorem Zc{f:TF3}(hf:aO f=true){N V:List Nat}(hN:Yt hf N)(hV:Yt hf V)(hn:V≠[]):∃A R,um f (aW N) (aW V)=some (0,A,aW R)∧aeb (FOf f hf) N V R∧R.length<V.length:=by
 have hvl:=List.length_pos_iff.2 hn
 have hNl:=hN.2.2
 have hVl:=hV.2.2
 have hc:eu f [aW N,aW V]=some 0:=Ju hf (Ls:=[N,V]) (by simp) fun L hL=>by
  rcases List.mem_cons.1 hL with rfl|hL
  ·exact hN
  ·rw [List.mem_singleton.1 hL];exact hV
 obtain ⟨A,R,h1,h2,h3⟩:=adb hf hV.1 hn (hV.2.1 hn) N.length [] N (Nat.le_refl _) (fun x hx=>absurd hx List.not_mem_nil) (Nat.zero_le _) (by omega) (by omega) ⟨hN.1,hN.2.1,[],fun x=>by show _=0^^^_;rw [Nat.zero_xor]⟩
 refine ⟨A,R,?_,h2,h3⟩
 have hd:aI .i64 (((aW V).length:Int)-1)=((V.length-1:Nat):Int):=by rw [bG];exact mU (by omega) (by omega)
 rw [show aW []=[] from rfl] at h1
 have hdiv:nL f (aW N) (aW V) true=some (A,aW R):=by
  unfold nL A9
  dsimp only
  rw [ak (show za (aW N)=some (aW N) from Zh (by rw [bG];omega)),hd,ak h1,Tre.aM]
 have hdd:qF f (aW N) (aW V) true=some (0,A,aW R):=by
  unfold qF zf
  rw [ak hc,Tre.aC,decide_eq_true rfl,cond_true,Tre.aC,decide_eq_false (by rw [bG];omega),cond_false,Tre.aC,Bool.not_true,cond_false,ak hdiv,Tre.aM]
 unfold um DY
 rw [ak hdd,Tre.aM]
theorem afW{f:TF3}{hf:aO f=true}{N R xs:List Nat}(hx:inL (FOf f hf) xs)(hl:xs.length≤100)(h:aeb (FOf f hf) N (kS (FOf f hf) xs) R)(hR:R.length<(kS (FOf f hf) xs).length):R=[] ↔ ∀x∈xs,(FOf f hf).lp N x=0:=by
 obtain ⟨A,hA⟩:=h.eq
 have hlen:=YA hx hl
 have hE:=BF hf hx (by omega)
 constructor
 ·rintro rfl x hx'
  rw [hA,Aq _ hx',FO.OP,Nat.zero_xor]
  rfl
 ·intro h0
  apply Classical.byContradiction
  intro hne
  have hz:=(FOf f hf).abt (ech xs) R (by unfold rkN at hlen;omega) (YM hx hE) h.ir (aa6 (Ey hE) rfl) fun e he=>by
   have hs:=NU hE he
   have h1:=Yc h0 hs
   rw [hA,Yc (fun x hx'=>Aq _ hx') hs,FO.OP,Nat.zero_xor] at h1
   exact h1
  have hp:=List.length_pos_iff.2 hne
  exact h.tr hne (hz _ (List.mem_of_getElem? (oG (show R.length-1<R.length by omega))))
def Gx:Env:=⟨tau,[(99,CY)],[]⟩
def SB:FnI:=fnI Try.f33 []
def CU (_:Bool) (_:Bool) (_:(Int×(Int×Unit))) (_:List Int) (_:List Int):(Int×(List Int)×(List Int))→au:=fun r=>⟨(.tcons (.ref (1,0) []) (.tcons (.ref (1,1) []) (.tcons (.i r.1) .tnil))),[],[⟨false,.il,.own,r.2.1⟩,⟨false,.il,.own,r.2.2⟩]⟩
theorem Qj:∀(zp0 zp1:Bool)(p0:(Int×(Int×Unit)))(p1 p2:List Int),bU Gx SB ⟨[(.imm true aH p0),(.imm zp0 .il p1),(.imm zp1 .il p2)],[]⟩=(DY p0 p1 p2).run fun r=>some (CU zp0 zp1 p0 p1 p2 r):=fun _ _ _ _ _=>by kernel_rfl
def SA (av:List AV) (rs:List Root):Tre au:=
 aA av fun a0_ av0=>
 aA av0 fun a1_ av1=>
 aA av1 fun a2_ av2=>
 aK av2<|
 aK rs<|
 aD true aH a0_ fun d1=>
 bX .il a1_ fun z3 d2=>
 bX .il a2_ fun z5 d4=>
 .mat (um d1 d2 d4) fun r=>.ret (CU z3 z5 d1 d2 d4 r)
def Gy:Ctr:=fJ [] SA
theorem Qk:Contract Try.prog .none 33 Gy:=aB (V:=Gx) aS (ay ML aky aG) Try.func33 bN fun _ _ _=>aJ fun _ _=>aJ fun _ _=>aJ fun _ _=>bD<|bD<|aU fun _=>iq fun _ _=>iq fun _ _=>fun h=>by intros;subst_vars;exact bC (Qj _ _ _ _ _) h
def Ns (p0:List Int) (p1:List Int):Tre Bool:=
 .mat (Sj p0 p1) fun r1=>
 .ret r1
def Ak (p0:List Int) (p1:List Int):Option Bool:=(Ns p0 p1).run some
def Pg:Env:=⟨tau,[(100,R5)],[]⟩
def ZE:FnI:=fnI Try.f34 []
def JQ (_:Bool) (_:Bool) (_:List Int) (_:List Int):Bool→au:=fun r=>⟨(.imm true .bool r),[],[]⟩
theorem Xu:∀(zp0 zp1:Bool)(p0 p1:List Int),bU Pg ZE ⟨[(.imm zp0 .il p0),(.imm zp1 .il p1)],[]⟩=(Ns p0 p1).run fun r=>some (JQ zp0 zp1 p0 p1 r):=fun _ _ _ _=>by kernel_rfl
def ZC (av:List AV) (rs:List Root):Tre au:=
 aA av fun a0_ av0=>
 aA av0 fun a1_ av1=>
 aK av1<|
 aK rs<|
 bX .il a0_ fun z2 d1=>
 bX .il a1_ fun z4 d3=>
 .mat (Ak d1 d3) fun r=>.ret (JQ z2 z4 d1 d3 r)
def Ph:Ctr:=fJ [] ZC
theorem Xv:Contract Try.prog .none 34 Ph:=aB (V:=Pg) aS (ay ZH aji aG) Try.func34 bN fun _ _ _=>aJ fun _ _=>aJ fun _ _=>bD<|bD<|iq fun _ _=>iq fun _ _=>fun h=>by intros;subst_vars;exact bC (Xu _ _ _ _) h
def gP (FN:List Int) (IU:Int):(Int×(List Int))→Tre ((Int×(List Int)) ⊕ (List Int)):=fun s7=>
 .mat (E5 FN 0 5) fun r3=>
 .cond (decide (s7.1<r3))
  (.mat (E5 FN (aI .i64 (1+s7.1)) IU) fun r4=>
  .ite ((s7.2.length+1)*8≤fD∧1≤8)<|
  .ret (.inl (aI .i64 (s7.1+1),s7.2++([r4]))))
  (.ret (.inr s7.2))
def gy (vD:(Int×(Int×Unit))) (xK:List Int) (vE:List Int):(Bool×Int)→Tre ((Bool×Int) ⊕ ((Bool×Bool) ⊕ Bool)):=fun s19=>
 .cond (decide (s19.2<(xK.length:Int)))
  (.ite (0≤s19.2∧s19.2<(xK.length:Int))<|
  .mat (xK[s19.2.toNat]?) fun x18=>
  .mat (Dj vD vE x18) fun r19=>
  .cond (!decide (r19.2=0))
   (.ret (.inr (.inl (false,s19.1))))
   (.cond s19.1
    (.ret (.inl (decide (r19.1=0),aI .i64 (s19.2+1))))
    (.ret (.inl (false,aI .i64 (s19.2+1))))))
  (.ret (.inr (.inr s19.1)))
def xB (p0:List Int) (p1:List Int):Tre Bool:=
 .cond (Bz p0 p1)
  (.ret true)
  (.mat (Dv p0) fun r1=>
  .ite (0≤aI .u64 r1.1)<|
  let v2:=Ah .i64 1 (aI .u64 r1.1)
  .mat (aZ (gP p1 v2) (0,[])) fun l5=>
  .mat (oJ r1 l5) fun r6=>
  .alt r6
   (fun a7=>
    .mat (yI r1 []) fun r9=>
    .mat (uX (r1.1,(l5,()))) fun r10=>
    .cond (!decide (a7=0))
     (.ret false)
     (.cond (!decide (r9.1=0))
      (.ret false)
      (.cond (!decide (r10.2.1=0))
       (.ret false)
       (.ret false))))
   (fun b8=>
    .mat (yI r1 b8.1) fun r11=>
    .mat (uX (r1.1,(l5,()))) fun r12=>
    .cond (!decide (b8.2=0))
     (.ret false)
     (.cond (!decide (r11.1=0))
      (.ret false)
      (.cond (!decide (r12.2.1=0))
       (.ret false)
       (.cond (decide ((b8.1.length:Int)<1))
        (.ret false)
        (let v13:=aI .i64 ((b8.1.length:Int)-1)
        .ite (0≤v13∧v13<(b8.1.length:Int))<|
        .mat (b8.1[v13.toNat]?) fun x14=>
        .cond (!decide (x14=1))
         (.ret false)
         (let v15:=aI .i64 ((r12.2.2.length:Int)+1)
         .cond (!decide ((b8.1.length:Int)=v15))
          (.ret false)
          (.mat (xR (r12.1,(r12.2.2,()))) fun r16=>
          .mat (Aj p0 r1 6) fun r17=>
          .mat (aZ (gy r1 l5 r17) (true,0)) fun l20=>
          .alt l20
           (fun a21=>
            .ret a21.1)
           (fun b22=>
            .mat (um r1 r17 b8.1) fun r23=>
            .cond (decide (r16.1=0))
             (.cond (decide (r23.1=0))
              (.mat (Ak r11.2 r16.2) fun r24=>
              .cond r24
               (.ret ((decide ((r23.2.2.length:Int)=0)) == b22))
               (.ret false))
              (.ret false))
             (.ret false))))))))))
def uN (p0:List Int) (p1:List Int):Option Bool:=(xB p0 p1).run some
-- law
theorem aao{xs:List Int}(h:(K.sl (.int .u8)).wf xs):∀x∈xs,0≤x∧x≤255:=fun x hx=>by
 have h1:(Lit.int .u8 x).wf=true:=h.2 x hx
 simp [Lit.wf,IntKind.min,IntKind.max,IntKind.signed,IntKind.bits] at h1
 omega
theorem afG{f:TF3}(hf:aO f=true){code:List Int}(hc:∀x∈code,0≤x∧x≤255){n:Int}(hn:E5 code 0 5=some n)(h0:0≤n)(h4:n≤4):∀(m i:Nat){L:List Nat},(i:Int)+(m:Int)=n→L.length=i→inL (FOf f hf) L →
  ∃L':List Nat,aZ (gP code (((FOf f hf).q:Nat):Int)) ((i:Int),aW L)=some (aW L')∧(L'.length:Int)=n∧inL (FOf f hf) L':=by
 intro m
 induction m with
 |zero=>
  intro i L hm hL hi
  refine ⟨L,gQ ?_,by omega,hi⟩
  unfold gP
  dsimp only
  rw [ak hn,Tre.aC,decide_eq_false (by omega),cond_false,Tre.aM]
 |succ m ih=>
  intro i L hm hL hi
  have hz:=(FOf f hf).zlt
  obtain ⟨v,hv1,hv2,hv3⟩:=adM (n:=(((FOf f hf).q:Nat):Int)) hc (show (0:Int)≤((i+1:Nat):Int) by omega)
  have hw:aI .i64 (1+(i:Int))=((i+1:Nat):Int):=by rw [jK (by omega) (by omega)];omega
  obtain ⟨L',h1,h2,h3⟩:=ih (i+1) (L:=L++[v.toNat]) (by omega) (by rw [List.length_append,hL];rfl) (TK hi fun x hx=>by rw [List.mem_singleton.1 hx];omega)
  refine ⟨L',?_,h2,h3⟩
  rw [←h1]
  refine kK ?_
  unfold gP
  dsimp only
  rw [ak hn,Tre.aC,decide_eq_true (by omega),cond_true,hw,ak hv1,Tre.run_ite,if_pos (by rw [bG];unfold fD;omega),Tre.aM,bQ (by omega),Vi,show aW [v.toNat]=[v] by show [((v.toNat:Nat):Int)]=[v];rw [show ((v.toNat:Nat):Int)=v by omega]]
theorem ach{f:TF3}(hf:aO f=true){V xs:List Nat}(hV:Yt hf V)(hx:inL (FOf f hf) xs)(hl:xs.length≤1000):aZ (gy f (aW xs) (aW V)) (true,0)=some (.inr (xs.all fun x=>decide ((FOf f hf).lp V x=0))):=by
 refine nZ (fun i=>((xs.take i).all fun x=>decide ((FOf f hf).lp V x=0),(i:Int))) xs.length _ (fun i hi=>?_) ?_
 ·have hg:xs[i]?=some xs[i]:=List.getElem?_eq_getElem hi
  have hd:decide ((((FOf f hf).lp V xs[i]:Nat):Int)=0)=decide ((FOf f hf).lp V xs[i]=0):=decide_eq_decide.2 (by omega)
  unfold gy
  dsimp only
  rw [oW (jd hg),ak (aeV hf hV (hx _ (List.getElem_mem hi))),Tre.aC,decide_eq_true rfl,Bool.not_true,cond_false,Tre.aC,List.take_add_one,hg,Option.toList_some,List.all_append]
  cases (xs.take i).all fun x=>decide ((FOf f hf).lp V x=0)
  ·rw [cond_false,Tre.aM,bQ (by omega),Bool.false_and]
  ·rw [cond_true,Tre.aM,bQ (by omega),Bool.true_and,hd]
   simp
 ·unfold gy
  dsimp only
  rw [bG,qN,Tre.aM,List.take_length]
theorem Jy(p0 p1:List Int)(hw0:(K.sl (.int .u8)).wf p0)(hw1:(K.sl (.int .u8)).wf p1):uN p0 p1=some true:=by
 unfold uN xB
 rw [Tre.aC]
 by_cases hb:Bz p0 p1=true
 ·rw [hb];rfl
 rw [Bool.not_eq_true] at hb
 rw [hb,cond_false]
 have hls:p0.length≤5000∧p1.length≤5000:=by
  unfold Bz at hb
  by_cases h1:(p0.length:Int)>3000
  ·rw [decide_eq_true h1] at hb;cases hb
  ·rw [decide_eq_false h1,cond_false,decide_eq_false_iff_not] at hb
   omega
 have hc0:∀x∈p0,0≤x∧x≤255:=aao hw0
 have hc1:∀x∈p1,0≤x∧x≤255:=aao hw1
 obtain ⟨f,e1,hf⟩:=acd hls.1 hc0
 have hfd:=jX hf
 have hd5:=FL hf
 have hu:aI .u64 f.1=f.1:=Kr (by omega) (by omega)
 have hq32:(FOf f hf).q≤32:=by rw [yg];exact Nat.pow_le_pow_right (n:=2) (by decide) hd5.2
 have hsh:Ah .i64 1 f.1=(((FOf f hf).q:Nat):Int):=by
  have h:=Vj (k:=f.1.toNat) (by omega)
  rwa [show ((f.1.toNat:Nat):Int)=f.1 by omega] at h
 obtain ⟨n,hn1,hn2,hn3⟩:=adM (n:=5) hc1 (Int.le_refl 0)
 obtain ⟨xs,e5,hxl,hx⟩:=afG hf hc1 hn1 hn2 (by omega) n.toNat 0 (L:=[]) (by omega) rfl (fun x hx=>absurd hx List.not_mem_nil)
 have e5:aZ (gP p1 (((FOf f hf).q:Nat):Int)) (0,[])=some (aW xs):=e5
 have hx4:xs.length≤4:=by omega
 obtain ⟨a1,a2,a3,a4⟩:=Tz (FOf f hf) xs
 have hap:=List.length_pos_iff.2 a4
 have hlin:Yt hf (kS (FOf f hf) xs):=⟨a1,a3,by omega⟩
 have hlen:=YA hx (by omega)
 have htop:=ahH (FOf f hf) xs
 have hE:=BF hf hx (by omega)
 have hEl:=hE.le
 have hEi:=YM hx hE
 obtain ⟨r17,e17,V,rfl,hV1,hV2,hV3⟩:=Z8 hls.1 hc0 hf
 have hVlin:Yt hf V:=⟨hV1,hV2,by omega⟩
 obtain ⟨A,R,e23,hD,hR⟩:=Zc hf hVlin hlin a4
 have hiff:=afW hx (by omega) hD hR
 have hroots:J8 (up (Wq (ech xs)))=aW (keepR hf (kS (FOf f hf) xs) (List.range (FOf f hf).q)):=abX hf hEi (Ey hE) fun y hy=>by
  rw [decide_eq_true_eq,aed hx (by omega) hy]
  exact ⟨fun h=>af8 hE h,fun h=>h.trans fun r hr=>NU hE hr⟩
 have hkl:(keepR hf (kS (FOf f hf) xs) (List.range (FOf f hf).q)).length≤32:=by
  have:=List.length_filter_le (fun x=>decide ((FOf f hf).lp (kS (FOf f hf) xs) x=0)) (List.range (FOf f hf).q)
  rw [List.length_range] at this
  unfold keepR
  omega
 have hpred:aI .i64 (((kS (FOf f hf) xs).length:Int)-1)=(((kS (FOf f hf) xs).length-1:Nat):Int):=mU (by omega) (by omega)
 have hsucc:aI .i64 (((ech xs).length:Int)+1)=(((ech xs).length+1:Nat):Int):=bQ (by omega)
 have hll:((kS (FOf f hf) xs).length:Int)=((aW (kS (FOf f hf) xs)).length:Int):=by rw [bG]
 have hsame:Ak (aW (keepR hf (kS (FOf f hf) xs) (List.range (FOf f hf).q))) (aW (keepR hf (kS (FOf f hf) xs) (List.range (FOf f hf).q)))=some true:=by
  unfold Ak Ns
  rw [ak (show Sj _ _=some (decide (aW (keepR hf (kS (FOf f hf) xs) (List.range (FOf f hf).q))=aW (keepR hf (kS (FOf f hf) xs) (List.range (FOf f hf).q)))) from Au (by simp only [Bool.and_eq_true,decide_eq_true_eq,bG];omega)),Tre.aM,decide_eq_true rfl]
 have hsp:uX (f.1,aW xs,())=some (f.1,0,up (ech xs)):=aeT hf hx (by omega)
 have hvec:=abb hf hEi (by omega) (Ey hE) (ai5 hf hEi (by omega))
 rw [ak e1,hu,Tre.run_ite,if_pos (by omega)]
 dsimp only
 rw [hsh,ak e5,ak (aeP hf hx (by omega)),Tre.Zx]
 dsimp only
 rw [ak (aeS hf hlin),ak hsp]
 dsimp only
 rw [Tre.aC,decide_eq_true rfl,Bool.not_true,cond_false,Tre.aC,cond_false,Tre.aC,cond_false,Tre.aC,bG,decide_eq_false (by omega),cond_false]
 rw [hpred,hll,lK (jd (oG (show (kS (FOf f hf) xs).length-1<(kS (FOf f hf) xs).length by omega))),htop,Tre.aC,decide_eq_true (by rfl),Bool.not_true,cond_false]
 rw [rV,hsucc,Tre.aC,decide_eq_true (by rw [bG,hlen];rfl),Bool.not_true,cond_false,ak hvec,ak e17,ak (ach hf hVlin hx (by omega)),Tre.Zx,ak e23]
 dsimp only
 rw [Tre.aC,decide_eq_true rfl,cond_true,Tre.aC,cond_true,hroots,ak hsame,Tre.aC,cond_true,Tre.aM,bG]
 by_cases h:R=[]
 ·rw [decide_eq_true (by rw [h];rfl),List.all_eq_true.2 fun x hx'=>decide_eq_true (hiff.1 h x hx')]
  rfl
 ·have hp:=List.length_pos_iff.2 h
  have hne:(xs.all fun x=>decide ((FOf f hf).lp V x=0))=false:=Bool.eq_false_iff.2 fun ha=>h (hiff.2 fun x hx'=>of_decide_eq_true (List.all_eq_true.1 ha x hx'))
  rw [decide_eq_false (by omega),hne]
  rfl
def jL:Env:=⟨tau,[(24,Vp),(25,RY),(26,abf),(27,AY),(28,Rw),(29,Ry),(30,Lx),(31,Pf),(32,RA),(33,Gy),(34,Ph)],[]⟩
def oU:Code:=(Try.f5.body).getD .skip
def vU (adH:Bool) (ahA:Bool) (Mx:List Int) (FN:List Int) (IU:Int) (MB:(Int×(Int×Unit))):(Int×(List Int))→St:=fun x=>fA [(0,(.imm adH (.sl (.int .u8)) Mx)),(1,(.imm ahA (.sl (.int .u8)) FN)),(5,(.ptr (7,0) [])),(6,(.i IU)),(7,(.ref (9,0) [])),(8,(.i x.1))] [((7,0),some ⟨true,aH,.own,MB⟩),((9,0),some ⟨false,.il,.own,x.2⟩)]
def uZ (adH:Bool) (_:Bool) (Mx:List Int) (_:List Int) (_:Int) (MB:(Int×(Int×Unit))):(List Int)→Ex×St:=fun x=>(.exit 0,fA [(0,(.imm adH (.sl (.int .u8)) Mx)),(5,(.ptr (7,0) [])),(7,(.ref (9,0) []))] [((7,0),some ⟨true,aH,.own,MB⟩),((9,0),some ⟨false,.il,.own,x⟩)])
def Ib (s:St):Tre (Ex×St):=
 bX (.sl (.int .u8)) (s.tmps 0) fun z3 d2=>
 bX (.sl (.int .u8)) (s.tmps 1) fun z6 d5=>
 nu (7,0) [] (s.tmps 5)<|
 aD true .n (s.tmps 6) fun d9=>
 nJ (9,0) [] (s.tmps 7)<|
 aD true .n (s.tmps 8) fun d12=>
 dY true aH (s.roots (7,0)) fun m14 d15=>
 asM .own m14<|
 dY false .il (s.roots (9,0)) fun m17 d18=>
 asM .own m17<|
 .mat (aZ (gP d5 d9) (d12,d18)) fun x=>.ret (uZ z3 z6 d2 d5 d9 d15 x)
def lS:bS:=⟨([0,1,5,6,7,8],[(7,0),(9,0)]),([0,5,7],[(7,0),(9,0)]),Ib⟩
def nP (CK:List Int) (CO:Int) (vD:(Int×(Int×Unit))) (xK:List Int) (CP:List Int) (CQ:List Int) (vE:List Int):(Bool×Int)→St:=fun x=>fA [(5,(.ptr (7,0) [])),(7,(.ref (9,0) [])),(9,(.imm true .il CK)),(11,(.ref (13,0) [])),(15,(.ref (17,0) [])),(16,(.i CO)),(17,(.ref (19,0) [])),(18,(.imm true .bool x.1)),(19,(.i x.2))] [((7,0),some ⟨true,aH,.own,vD⟩),((9,0),some ⟨false,.il,.own,xK⟩),((13,0),some ⟨false,.il,.own,CP⟩),((17,0),some ⟨false,.il,.own,CQ⟩),((19,0),some ⟨false,.il,.own,vE⟩)]
def jS (CK:List Int) (CO:Int) (vD:(Int×(Int×Unit))) (_:List Int) (CP:List Int) (CQ:List Int) (vE:List Int):((Bool×Bool) ⊕ Bool)→Ex×St
 |.inl x=>(.ret,fA [(4,(.imm true .bool x.1)),(5,(.ptr (7,0) [])),(9,(.imm true .il CK)),(11,(.ref (13,0) [])),(15,(.ref (17,0) [])),(16,(.i CO)),(17,(.ref (19,0) [])),(18,(.imm true .bool x.2))] [((7,0),some ⟨true,aH,.own,vD⟩),((13,0),some ⟨false,.il,.own,CP⟩),((17,0),some ⟨false,.il,.own,CQ⟩),((19,0),some ⟨false,.il,.own,vE⟩)])
 |.inr x=>(.exit 2,fA [(4,.dead),(5,(.ptr (7,0) [])),(9,(.imm true .il CK)),(11,(.ref (13,0) [])),(15,(.ref (17,0) [])),(16,(.i CO)),(17,(.ref (19,0) [])),(18,(.imm true .bool x))] [((7,0),some ⟨true,aH,.own,vD⟩),((13,0),some ⟨false,.il,.own,CP⟩),((17,0),some ⟨false,.il,.own,CQ⟩),((19,0),some ⟨false,.il,.own,vE⟩)])
def vT (s:St):Tre (Ex×St):=
 nu (7,0) [] (s.tmps 5)<|
 nJ (9,0) [] (s.tmps 7)<|
 aD true .il (s.tmps 9) fun d4=>
 nJ (13,0) [] (s.tmps 11)<|
 nJ (17,0) [] (s.tmps 15)<|
 aD true .n (s.tmps 16) fun d8=>
 nJ (19,0) [] (s.tmps 17)<|
 aD true .bool (s.tmps 18) fun d11=>
 aD true .n (s.tmps 19) fun d13=>
 dY true aH (s.roots (7,0)) fun m15 d16=>
 asM .own m15<|
 dY false .il (s.roots (9,0)) fun m18 d19=>
 asM .own m18<|
 dY false .il (s.roots (13,0)) fun m21 d22=>
 asM .own m21<|
 dY false .il (s.roots (17,0)) fun m24 d25=>
 asM .own m24<|
 dY false .il (s.roots (19,0)) fun m27 d28=>
 asM .own m27<|
 .mat (aZ (gy d16 d19 d28) (d11,d13)) fun x=>.alt x (fun a0=>.ret (jS d4 d8 d16 d19 d22 d25 d28 (.inl a0))) (fun b0=>.ret (jS d4 d8 d16 d19 d22 d25 d28 (.inr b0)))
def je:bS:=⟨([5,7,9,11,15,16,17,18,19],[(7,0),(9,0),(13,0),(17,0),(19,0)]),([4,5,9,11,15,16,17,18],[(7,0),(13,0),(17,0),(19,0)]),vT⟩
def lI:List (Nat×bS):=[(7,lS),(19,je)]
theorem Ef:∀(adH ahA:Bool)(Mx FN:List Int)(IU:Int)(MB:(Int×(Int×Unit)))(x:(Int×(List Int)))(c:St→Option (Ex×St)),den jL lI (bF oU 0) (vU adH ahA Mx FN IU MB x) (fE lS.kp lS.kx c)=(gP FN IU x).run (fF (vU adH ahA Mx FN IU MB) (uZ adH ahA Mx FN IU MB) c):=fun _ _ _ _ _ _ _ _=>by
 kernel_rfl
theorem Gf:dZ jL lI (bF oU 0) lS:=jf fun _ _ _=>iq fun _ _=>iq fun _ _=>Ap<|aU fun _=>J9<|aU fun _=>mP fun _ _=>tM<|mP fun _ _=>tM<|fun h _ e16 _ e13 e11 e10 e8 e7 e4 e1=>gB (Ef _ _ _ _ _ _) h (by subst_vars;exact bn rfl rfl ⟨e1,e4,e7,e8,e10,e11,trivial⟩ ⟨e13,e16,trivial⟩)
theorem Ci:∀(CK:List Int)(CO:Int)(vD:(Int×(Int×Unit)))(xK CP CQ vE:List Int)(x:(Bool×Int))(c:St→Option (Ex×St)),den jL lI (bF oU 1) (nP CK CO vD xK CP CQ vE x) (fE je.kp je.kx c)=(gy vD xK vE x).run (fF (nP CK CO vD xK CP CQ vE) (jS CK CO vD xK CP CQ vE) c):=fun _ _ _ _ _ _ _ _ _=>by
 kernel_rfl
theorem EZ:dZ jL lI (bF oU 1) je:=mh fun s e s' h=>by
 generalize hs:restrict je.kp s=s1 at h
 have h:(vT s1).run some=some (e,s'):=h
 obtain ⟨e1,h_0⟩:=Ue h
 obtain ⟨e2,h_1⟩:=uG h_0
 obtain ⟨d4,e3,h_2⟩:=dA h_1
 obtain ⟨e5,h_3⟩:=uG h_2
 obtain ⟨e6,h_4⟩:=uG h_3
 obtain ⟨d8,e7,h_5⟩:=dA h_4
 obtain ⟨e9,h_6⟩:=uG h_5
 obtain ⟨d11,e10,h_7⟩:=dA h_6
 obtain ⟨d13,e12,h_8⟩:=dA h_7
 obtain ⟨m15,d16,e14,h_9⟩:=gY h_8
 obtain ⟨rfl,h_10⟩:=nI h_9
 obtain ⟨m18,d19,e17,h_11⟩:=gY h_10
 obtain ⟨rfl,h_12⟩:=nI h_11
 obtain ⟨m21,d22,e20,h_13⟩:=gY h_12
 obtain ⟨rfl,h_14⟩:=nI h_13
 obtain ⟨m24,d25,e23,h_15⟩:=gY h_14
 obtain ⟨rfl,h_16⟩:=nI h_15
 obtain ⟨m27,d28,e26,h_17⟩:=gY h_16
 obtain ⟨rfl,h_18⟩:=nI h_17
 obtain ⟨y,hy,hz⟩:=nQ h_18
 refine ⟨_,_,nP d4 d8 d16 d19 d22 d25 d28,jS d4 d8 d16 d19 d22 d25 d28,gy d16 d19 d28,(d11,d13),y,?_,hy,?_,Ci d4 d8 d16 d19 d22 d25 d28⟩
 ·subst hs;exact bn (T:=[(5,(.ptr (7,0) [])),(7,(.ref (9,0) [])),(9,(.imm true .il d4)),(11,(.ref (13,0) [])),(15,(.ref (17,0) [])),(16,(.i d8)),(17,(.ref (19,0) [])),(18,(.imm true .bool d11)),(19,(.i d13))]) (U:=[((7,0),some ⟨true,aH,.own,d16⟩),((9,0),some ⟨false,.il,.own,d19⟩),((13,0),some ⟨false,.il,.own,d22⟩),((17,0),some ⟨false,.il,.own,d25⟩),((19,0),some ⟨false,.il,.own,d28⟩)]) rfl rfl ⟨e1,e2,e3,e5,e6,e7,e9,e10,e12,trivial⟩ ⟨e14,e17,e20,e23,e26,trivial⟩
 ·rcases y with x|x<;>exact Option.some.inj hz
def Ng:FnI:=fnI Try.f5 lI
def yP (_:Bool) (_:Bool) (_:List Int) (_:List Int):Bool→au:=fun r=>⟨(.imm true .bool r),[],[]⟩
theorem KW:∀(zp0 zp1:Bool)(p0 p1:List Int),bU jL Ng ⟨[(.imm zp0 (.sl (.int .u8)) p0),(.imm zp1 (.sl (.int .u8)) p1)],[]⟩=(xB p0 p1).run fun r=>some (yP zp0 zp1 p0 p1 r):=fun _ _ _ _=>by kernel_rfl
def Nf (av:List AV) (rs:List Root):Tre au:=
 aA av fun a0_ av0=>
 aA av0 fun a1_ av1=>
 aK av1<|
 aK rs<|
 bX (.sl (.int .u8)) a0_ fun z2 d1=>
 bX (.sl (.int .u8)) a1_ fun z4 d3=>
 .mat (uN d1 d3) fun r=>.ret (yP z2 z4 d1 d3 r)
def Nh:Ctr:=fJ [] Nf
theorem KX:Contract Try.prog .none 5 Nh:=aB (V:=jL) aS (ay abj akc (ay Zz akd (ay aeY ake (ay KF akf (ay YX akg (ay Y0 akh (ay UZ aki (ay Xt akj (ay Y2 akk (ay Qk akl (ay Xv akm aG))))))))))) Try.func5 (dw (n:=2) fun k hk=>by
 match k,hk with
 |0,_=>exact eH (id:=7) Gf
 |1,_=>exact eH (id:=19) EZ) fun _ _ _=>aJ fun _ _=>aJ fun _ _=>bD<|bD<|iq fun _ _=>iq fun _ _=>fun h=>by intros;subst_vars;exact bC (KW _ _ _ _) h
end Go.Proofs.Ytldafhnnnabipaa
