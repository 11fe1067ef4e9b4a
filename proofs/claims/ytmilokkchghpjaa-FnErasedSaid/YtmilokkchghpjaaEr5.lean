/- Part 5 of the proof of FnErased. -/
import Derived.Test.YtmilokkchghpjaaEr4
set_option maxRecDepth 100000
noncomputable section
namespace Go.Proofs.Ytmilokkchghpjaa
open Go Go.Abs Go.Proofs
def aa0 (bC:List Int) (bH:Int) (bI:Int):Int→Tre (Int ⊕ (Int ⊕ Unit)):=fun s2=>
 .cond (decide (s2<bH))
  (.ite (0≤s2∧s2<(bC.length:Int))<|
  .mat (bC[s2.toNat]?) fun x1=>
  .mat (auK x1 bI) fun r2=>
  .cond r2
   (.ret (.inr (.inl s2)))
   (.ret (.inl (aF .i64 (s2+1)))))
  (.ret (.inr (.inr ())))
def nm8 (p0:List Int) (p1:Int):Tre Int:=
 .mat (aO (aa0 p0 (p0.length:Int) p1) 0) fun l3=>
 .alt l3
  (fun a4=>
   .ret a4)
  (fun _=>
   .ret (-1))
def awU (p0:List Int) (p1:Int):Option Int:=(nm8 p0 p1).run some
def auX(xs:List Int)(j:Int):Option Int:=agD (decide (0≤j)&&decide (xs.length≤1048576)) (qA (fun x=>oL x j) 0 xs)
theorem atG(p0:List Int)(p1 y:Int)(h:auX p0 p1=some y):awU p0 p1=some y:=by
 obtain ⟨hl,rfl⟩:=xC h
 rw [Bool.and_eq_true] at hl
 obtain ⟨hm,hl⟩:=hl
 have hl:=of_decide_eq_true hl
 unfold awU nm8
 rw [Tre.oC,E9 (xs:=p0) (fun i x=>cond (oL x p1) (some (.inl (i:Int))) none) (.inr ())]
 ·rw [Option.bind_some,←KL (p:=fun x=>oL x p1)]
  generalize KJ _ _ _ _=r
  cases r<;>rfl
 ·intro i x hx
  have hi:i<p0.length:=(List.getElem?_eq_some_iff.1 hx).1
  unfold aa0
  rw [fU hx,ah (show auK x p1=some _ from kG hm),Tre.aB]
  cases oL x p1
  ·simp only [cond_false,Tre.aI,aU (show i<4611686018427387904 by omega)]
  ·rfl
 ·unfold aa0
  exact eY
def apT:Env:=⟨tau,[(76,Gt)],[]⟩
def awV:Code:=(Try.f75.body).getD .skip
def aa1 (kC:Bool) (bC:List Int) (bH:Int) (bI:Int):Int→St:=fun x=>bX [(0,(.imm kC .il bC)),(1,(.fn 76 [(0,0)])),(7,(.i bH)),(8,(.i x))] [((0,0),some ⟨true,.n,.own,bI⟩)]
def N8 (_:Bool) (_:List Int) (_:Int) (bI:Int):(Int ⊕ Unit)→Ex×St
 |.inl x=>(.ret,bX [(4,(.i x))] [((0,0),some ⟨true,.n,.own,bI⟩)])
 |.inr _=>(.exit 0,bX [(4,.dead)] [((0,0),some ⟨true,.n,.own,bI⟩)])
def ama (s:St):Tre (Ex×St):=
 bG .il (s.tmps 0) fun z3 d2=>
 Pv 76 [(0,0)] (s.tmps 1)<|
 aA true .n (s.tmps 7) fun d6=>
 aA true .n (s.tmps 8) fun d8=>
 aX true .n (s.roots (0,0)) fun m10 d11=>
 asM .own m10<|
 .mat (aO (aa0 d2 d6 d11) d8) fun x=>.alt x (fun a0=>.ret (N8 z3 d2 d6 d11 (.inl a0))) (fun b0=>.ret (N8 z3 d2 d6 d11 (.inr b0)))
def R6:bD:=⟨([0,1,7,8],[(0,0)]),([4],[(0,0)]),ama⟩
def atF:List (Nat×bD):=[(2,R6)]
theorem amb:∀(kC:Bool)(bC:List Int)(bH bI x:Int)(c:St→Option (Ex×St)),den apT atF (aV awV 0) (aa1 kC bC bH bI x) (cu R6.kp R6.kx c)=(aa0 bC bH bI x).run (cB (aa1 kC bC bH bI) (N8 kC bC bH bI) c):=fun _ _ _ _ _ _=>by
 kernel_rfl
theorem arq:bU apT atF (aV awV 0) R6:=kS fun s e s' h=>by
 generalize hs:restrict R6.kp s=s1 at h
 have h:(ama s1).run some=some (e,s'):=h
 obtain ⟨z3,d2,e1,h_0⟩:=iV h
 obtain ⟨e4,h_1⟩:=AA h_0
 obtain ⟨d6,e5,h_2⟩:=dJ h_1
 obtain ⟨d8,e7,h_3⟩:=dJ h_2
 obtain ⟨m10,d11,e9,h_4⟩:=lT h_3
 obtain ⟨rfl,h_5⟩:=Ck h_4
 obtain ⟨y,hy,hz⟩:=mF h_5
 refine ⟨_,_,aa1 z3 d2 d6 d11,N8 z3 d2 d6 d11,aa0 d2 d6 d11,d8,y,?_,hy,?_,amb z3 d2 d6 d11⟩
 ·subst hs;exact aP (T:=[(0,(.imm z3 .il d2)),(1,(.fn 76 [(0,0)])),(7,(.i d6)),(8,(.i d8))]) (U:=[((0,0),some ⟨true,.n,.own,d11⟩)]) rfl rfl ⟨e1,e4,e5,e7,trivial⟩ ⟨e9,trivial⟩
 ·rcases y with x|x<;>exact Option.some.inj hz
def azk:FnI:=fnI Try.f75 atF
def apU (_:Bool) (_:List Int) (p1:Int):Int→ay:=fun r=>⟨(.i r),[⟨true,.n,.own,p1⟩],[]⟩
theorem axC:∀(zp0:Bool)(p0:List Int)(p1:Int),bR apT azk ⟨[(.imm zp0 .il p0),(.fn 76 [(0,0)])],[⟨true,.n,.own,p1⟩]⟩=(nm8 p0 p1).run fun r=>some (apU zp0 p0 p1 r):=fun _ _ _=>by kernel_rfl
def azj (av:List AV) (rs:List Root):Tre ay:=
 aD av fun a0_ av0=>
 aD av0 fun a1_ av1=>
 aM av1<|
 aD rs fun r0_ rs0=>
 aM rs0<|
 bG .il a0_ fun z2 d1=>
 Pv 76 [(0,0)] a1_<|
 yx true .n r0_ fun m3 d4=>
 asM .own m3<|
 .mat (auX d1 d4) fun r=>.ret (apU z2 d1 d4 r)
def awW:Ctr:=dO [] azj
theorem axD:Contract Try.prog .none 75 awW:=aC (V:=apT) aW (ak Us ayI aJ) Try.func75 (bL (n:=1) fun k hk=>by
 match k,hk with
 |0,_=>exact bO (id:=2) arq) fun _ _ _=>aK fun _ _=>aK fun _ _=>bA<|aK fun _ _=>bA<|dM fun _ _=>tFn<|tRt fun _ _=>tM<|fun h=>by intros;subst_vars;exact yC (axC _ _ _) (atG _ _) h
def nU (tN:Int) (IK:Int) (yD:Int):(Int×(List Int))→Tre ((Int×(List Int)) ⊕ (List Int)):=fun s10=>
 .cond (decide (s10.1<IK))
  (.cond (!decide (s10.1=tN))
   (.ite (0≤s10.1∧s10.1<(s10.2.length:Int))<|
   .mat (s10.2[s10.1.toNat]?) fun x9=>
   .ite (0≤yD)<|
   let v10:=Gw .i64 (Kl .i64 x9 yD) 1
   .cond (decide (v10=1))
    (.ite (0≤s10.1∧s10.1<(s10.2.length:Int))<|
    .mat (s10.2[s10.1.toNat]?) fun x11=>
    .ite (0≤tN∧tN<(s10.2.length:Int))<|
    .mat (s10.2[tN.toNat]?) fun x12=>
    .ite (0≤s10.1∧s10.1<(s10.2.length:Int))<|
    .mat (s10.2[s10.1.toNat]?) fun _=>
    let v14:=s10.2.set s10.1.toNat (iF .i64 x11 x12)
    .ret (.inl (aF .i64 (s10.1+1),v14)))
    (.ret (.inl (aF .i64 (s10.1+1),s10.2))))
   (.ret (.inl (aF .i64 (s10.1+1),s10.2))))
  (.ret (.inr s10.2))
def je:(Int×(List Int)×Int)→Tre ((Int×(List Int)×Int) ⊕ (Int×(List Int))):=fun s4=>
 .cond (decide (s4.2.2<62))
  (.cond (decide (s4.1<(s4.2.1.length:Int)))
   (.ite (0≤s4.1∧s4.1≤(s4.2.1.length:Int)∧(s4.2.1.length:Int)≤(s4.2.1.length:Int))<|
   .mat (auX ((s4.2.1.drop s4.1.toNat).take (((s4.2.1.length:Int)-s4.1).toNat)) s4.2.2) fun r2=>
   .cond (decide (r2<0))
    (.ret (.inl (s4.1,s4.2.1,aF .i64 (s4.2.2+1))))
    (.ite (0≤aF .i64 (s4.1+r2)∧aF .i64 (s4.1+r2)<(s4.2.1.length:Int))<|
    .mat (s4.2.1[(aF .i64 (s4.1+r2)).toNat]?) fun x3=>
    .ite (0≤s4.1∧s4.1<(s4.2.1.length:Int))<|
    .mat (s4.2.1[s4.1.toNat]?) fun x4=>
    .ite (0≤s4.1∧s4.1<(s4.2.1.length:Int))<|
    .mat (s4.2.1[s4.1.toNat]?) fun _=>
    let v6:=s4.2.1.set s4.1.toNat x3
    .ite (0≤aF .i64 (s4.1+r2)∧aF .i64 (s4.1+r2)<(v6.length:Int))<|
    .mat (v6[(aF .i64 (s4.1+r2)).toNat]?) fun _=>
    let v8:=v6.set ((aF .i64 (s4.1+r2)).toNat) x4
    .mat (aO (nU s4.1 (v8.length:Int) s4.2.2) (0,v8)) fun l15=>
    .ret (.inl (aF .i64 (s4.1+1),l15,aF .i64 (s4.2.2+1)))))
   (.ret (.inr (s4.1,s4.2.1))))
  (.ret (.inr (s4.1,s4.2.1)))
def aaD (p0:List Int):Tre (List Int):=
 .mat (oM p0) fun r1=>
 .mat (aO je (0,r1,0)) fun l16=>
 .ite (0≤(0:Int)∧(0:Int)≤l16.1∧l16.1≤(l16.2.length:Int))<|
 .ret ((l16.2.drop 0).take ((l16.1-0).toNat))
def abV (p0:List Int):Option (List Int):=(aaD p0).run some
def XE (xs:List Int):Option (List Int):=agD (Bp 62 xs) (JV xs)
theorem aeL(k c r:Nat)(hc:c≤62)(hr:r<2 ^ 62)(A B:List Nat)(hk:A.length=k)(hb:∀n∈A++r::B,n<2 ^ 62)(hl:(A++r::B).length≤1048576) :
  aO (nU (k:Int) ((A++r::B).length:Int) (c:Int)) (0,up (A++r::B))=some (up (A.map (gP c r)++r::B.map (gP c r))):=by
 have hkr:(A++r::B)[k]?=some r:=by rw [List.getElem?_append_right (by omega),hk];simp
 generalize hL:A++r::B=l at *
 have:=aiq (step:=nU (k:Int) (l.length:Int) (c:Int)) (fun i x=>if i=k then x else gP c r x) l id (by
  intro i x hx
  have hi:i<l.length:=(List.getElem?_eq_some_iff.1 hx).1
  have hx2:=VD (adQ (g:=fun i x=>if i=k then x else gP c r x) (i:=i) hx)
  rw [if_neg (Nat.lt_irrefl i)] at hx2
  have hr2:=VD (adQ (g:=fun i x=>if i=k then x else gP c r x) (i:=i) hkr)
  simp only [if_true,ite_self] at hr2
  have hxb:=hb x (List.mem_of_getElem? hx)
  rw [←amf hx]
  generalize hP:xX (fun i x=>if i=k then x else gP c r x) i l=P at *
  have hset:(up P).set i (x:Int)=up P:=List.ext_getElem? fun j=>by
   rw [List.getElem?_set]
   by_cases hj:i=j
   ·subst hj;rw [if_pos rfl,hx2,if_pos (List.getElem?_eq_some_iff.1 hx2).1]
   ·rw [if_neg hj]
  unfold nU
  rw [Tre.aB]
  show cond (decide ((i:Int)<(l.length:Int))) _ _=_
  rw [show decide ((i:Int)<(l.length:Int))=true from by simpa using hi,cond_true,Tre.aB]
  show cond (!decide ((i:Int)=(k:Int))) _ _=_
  by_cases hik:i=k
  ·rw [show decide ((i:Int)=(k:Int))=true from decide_eq_true (by omega),Bool.not_true,cond_false,Tre.aI,aU (by omega),if_pos hik,←Tm,hset]
  ·rw [show decide ((i:Int)=(k:Int))=false from decide_eq_false (by omega),Bool.not_false,cond_true,jg hx2,Tre.run_ite,if_pos (by omega),Tre.aB,if_neg hik]
   show cond (oL (x:Int) (c:Int)) _ _=_
   rw [qE (by omega) (by omega)]
   have he:gP c r x=cond (x.testBit c) (x^^^r) x:=rfl
   rw [he]
   cases x.testBit c
   ·rw [cond_false,Tre.aI,aU (by omega),cond_false,←Tm,hset]
   ·rw [cond_true,jg hx2,jg hr2,jg hx2,Tre.aI,aU (by omega),lH (by omega) (by omega),Int.toNat_natCast,cond_true,←Tm])
  (by
  unfold nU
  exact eY)
 rw [this,←hL,ajF (f:=gP c r) (g:=fun i x=>if i=k then x else gP c r x) (r:=r) (B:=B) hk (fun i x h=>if_neg h) (if_pos rfl)]
 rfl
theorem aeN(orig:List Nat):∀(n c:Nat)(E:List (Nat×Nat))(R:List Nat),c+n=62→Inv orig c E R→E.length+R.length≤1048576→(∀x∈R,x<2 ^ 62)→(∀a∈E,a.2<2 ^ 62) →
  ∃(E' L:List Nat),aO je ((E.length:Int),up (E.map (·.2)++R),(c:Int))=some ((E'.length:Int),up (E'++L))∧iG orig E':=by
 intro n
 induction n with
 |zero=>
  intro c E R hc hI _ hR _
  have:c=62:=hc
  subst this
  refine ⟨E.map (·.2),R,dY ?_,hI.done fun x hx=>E8 (hR x hx) (hI.low x hx)⟩
  unfold je
  simp [Tre.aB,Tre.aI]
 |succ n ih=>
  intro c E R hc hI hl hR hEb
  have hcm:c<62:=by omega
  have hlen:(up (E.map (·.2)++R)).length=E.length+R.length:=by rw [fC];simp
  by_cases hR0:R=[]
  ·subst hR0
   refine ⟨E.map (·.2),[],dY ?_,hI.done fun x hx=>by cases hx⟩
   unfold je
   simp [Tre.aB,Tre.aI]
  have hRl:0<R.length:=List.length_pos_iff.2 hR0
  have hstep:∀E2 R2,Inv orig (c+1) E2 R2→E2.length+R2.length≤1048576→(∀x∈R2,x<2 ^ 62)→(∀a∈E2,a.2<2 ^ 62)→(je ((E.length:Int),up (E.map (·.2)++R),(c:Int))).run some=some (.inl ((E2.length:Int),up (E2.map (·.2)++R2),((c+1:Nat):Int))) →
    ∃(E' L:List Nat),aO je ((E.length:Int),up (E.map (·.2)++R),(c:Int))=some ((E'.length:Int),up (E'++L))∧iG orig E':=by
   intro E2 R2 h1 h2 h3 h4 h5
   rw [gy h5]
   exact ih (c+1) E2 R2 (by omega) h1 h2 h3 h4
  have hsub:((up (E.map (·.2)++R)).drop E.length).take (((E.length+R.length:Nat):Int)-(E.length:Int)).toNat=up R:=by
   rw [show (((E.length+R.length:Nat):Int)-(E.length:Int)).toNat=R.length from by omega]
   unfold up
   rw [List.map_append,List.drop_append_of_le_length (by simp),List.drop_of_length_le (by simp),List.nil_append,List.take_of_length_le (by simp)]
  have hfind:auX (up R) (c:Int)=some _:=kG (by rw [fC];simp;omega)
  have hw:aF .i64 ((c:Int)+1)=((c+1:Nat):Int):=aU (by omega)
  have hdec:decide ((c:Int)<62)=true:=by simp;omega
  have hdec2:decide ((E.length:Int)<((E.length+R.length:Nat):Int))=true:=by simp;omega
  rcases Bl (fun x=>oL x (c:Int)) (up R) 0 with ⟨h1,h2⟩|⟨j,x,h1,h2,h3⟩
  ·refine hstep E R (hI.skip fun x hx=>?_) hl hR hEb ?_
   ·have:=h2 (x:Int) (List.mem_map.2 ⟨x,hx,rfl⟩)
    have hxb:=hR x hx
    rwa [qE (by omega) (by omega)] at this
   ·unfold je
    dsimp only
    rw [hlen,Tre.aB,hdec,cond_true,Tre.aB,hdec2,cond_true,Tre.run_ite,if_pos (by omega),Int.toNat_natCast,hsub,ah (hfind.trans (by rw [h1])),Tre.aB]
    simp only [show decide ((-1:Int)<0)=true from rfl,cond_true,Tre.aI,hw]
  ·obtain ⟨r,hr1,rfl⟩:∃r:Nat,R[j]?=some r∧(r:Int)=x:=by
    simp only [up,List.getElem?_map,Option.map_eq_some_iff] at h1
    exact h1
   have hrm:r∈R:=List.mem_of_getElem? hr1
   have hrb:=hR r hrm
   rw [qE (by omega) (by omega)] at h2
   rw [Nat.zero_add] at h3
   have hj:j<R.length:=(List.getElem?_eq_some_iff.1 hr1).1
   obtain ⟨y,R',rfl⟩:∃y R',R=y::R':=by
    cases R with
    |nil=>exact absurd rfl hR0
    |cons y R'=>exact ⟨y,R',rfl⟩
-- the rows behind the swap
   obtain ⟨B,hB,hB1,hB2,hBl⟩:∃B,((y::R').set 0 r).set j y=r::B∧(∀x∈B,x∈y::R')∧(∀x∈y::R',x=r∨x∈B)∧B.length=R'.length:=by
    cases j with
    |zero=>
     have hyr:y=r:=by simpa using hr1
     subst hyr
     exact ⟨R',by simp,fun x hx=>.tail _ hx,fun x hx=>by
      cases hx with
      |head=>exact .inl rfl
      |tail _ hx=>exact .inr hx,rfl⟩
    |succ j=>
     have hr1:R'[j]?=some r:=by simpa using hr1
     have hj':j<R'.length:=(List.getElem?_eq_some_iff.1 hr1).1
     refine ⟨R'.set j y,by simp,fun x hx=>?_,fun x hx=>?_,by simp⟩
     ·rcases List.mem_or_eq_of_mem_set hx with hx|rfl
      ·exact .tail _ hx
      ·exact .head _
     ·cases hx with
      |head=>exact .inr (List.mem_set hj' _)
      |tail _ hx=>
       obtain ⟨i,hi⟩:=List.getElem?_of_mem hx
       by_cases hij:j=i
       ·subst hij;rw [hr1] at hi;exact .inl (Option.some.inj hi).symm
       ·exact .inr (List.mem_of_getElem? (i:=i) (by rw [List.getElem?_set,if_neg hij,hi]))
   have hE2:((E.map fun a=>(a.1,gP c r a.2))++[(c,r)]).map (·.2)=(E.map (·.2)).map (gP c r)++[r]:=by simp [List.map_map,Function.comp_def]
   have hRB:(E.map (·.2)++r::B).length=E.length+(y::R').length:=by simp [hBl]
   have hall:∀x∈E.map (·.2)++r::B,x<2 ^ 62:=by
    intro x hx
    rcases List.mem_append.1 hx with hx|hx
    ·obtain ⟨a,ha,rfl⟩:=List.mem_map.1 hx;exact hEb a ha
    ·cases hx with
     |head=>exact hrb
     |tail _ hx=>exact hR x (hB1 x hx)
   refine hstep (E.map (fun a=>(a.1,gP c r a.2))++[(c,r)]) (B.map (gP c r)) (hI.step hrm h2 ?_ ?_) (by simp [hBl] at hl ⊢;omega) ?_ ?_ ?_
   ·intro z hz
    obtain ⟨x,hx,rfl⟩:=List.mem_map.1 hz
    exact .inr ⟨x,hB1 x hx,rfl⟩
   ·intro x hx
    rcases hB2 x hx with h|h
    ·exact .inl h
    ·exact .inr (List.mem_map.2 ⟨x,h,rfl⟩)
   ·intro z hz
    obtain ⟨x,hx,rfl⟩:=List.mem_map.1 hz
    exact XG hrb (hR x (hB1 x hx))
   ·intro a ha
    rcases List.mem_append.1 ha with ha|ha
    ·obtain ⟨b,hb,rfl⟩:=List.mem_map.1 ha
     exact XG hrb (hEb b hb)
    ·simp only [List.mem_singleton] at ha;subst ha;exact hrb
   ·have e1:=aeL E.length c r (by omega) hrb (E.map (·.2)) B (by simp) hall (by rw [hRB];exact hl)
    have hkj:aF .i64 ((E.length:Int)+(j:Int))=((E.length+j:Nat):Int):=by rw [dG (by omega) (by omega)];omega
    have hat1:(up (E.map (·.2)++y::R'))[E.length+j]?=some (r:Int):=VD (by rw [List.getElem?_append_right (by simp)];simpa using hr1)
    have hat2:(up (E.map (·.2)++y::R'))[E.length]?=some (y:Int):=VD (by rw [List.getElem?_append_right (by simp)];simp)
    have hs1:(up (E.map (·.2)++y::R')).set E.length (r:Int)=up (E.map (·.2)++(y::R').set 0 r):=by
     rw [Tm,List.set_append_right _ _ (by simp)]
     simp
    have hs2:(up (E.map (·.2)++(y::R').set 0 r)).set (E.length+j) (y:Int)=up (E.map (·.2)++r::B):=by
     rw [Tm,List.set_append_right _ _ (by simp),←hB]
     simp
    have hat3:∃z,(up (E.map (·.2)++(y::R').set 0 r))[E.length+j]?=some z:=⟨_,List.getElem?_eq_getElem (by rw [fC];simp at hj ⊢;omega)⟩
    obtain ⟨z,hat3⟩:=hat3
    have hlen3:((up (E.map (·.2)++r::B)).length:Int)=((E.map (·.2)++r::B).length:Int):=by rw [fC]
    unfold je
    dsimp only
    rw [hlen,Tre.aB,hdec,cond_true,Tre.aB,hdec2,cond_true,Tre.run_ite,if_pos (by omega),Int.toNat_natCast,hsub,ah (hfind.trans (by rw [h3])),Tre.aB]
    rw [show decide ((j:Int)<0)=false from by simp,cond_false,hkj,←hlen,jg hat1,ajQ hat2,ajQ hat2]
    rw [Int.toNat_natCast,hs1,ajQ hat3,hs2,hlen3,ah e1,Tre.aI,aU (by omega),hw,hE2]
    simp [List.append_assoc]
theorem aeO(p0 y:List Int)(h:XE p0=some y):abV p0=some y:=by
 obtain ⟨hl,rfl⟩:=xC h
 obtain ⟨ns,rfl,hlen,hb,hn⟩:=aa4 hl
 obtain ⟨E,L,h1,h2⟩:=aeN ns 62 0 [] ns (by omega) (Inv.start ns) (by simpa using hlen) hb (fun a ha=>by cases ha)
 unfold abV aaD
 have e1:oM (up ns)=some (up ns):=NP (by rw [fC];exact hlen)
 have h1:aO je (0,up ns,0)=some ((E.length:Int),up (E++L)):=h1
 rw [ah e1,ah h1,Tre.run_ite,if_pos (by rw [fC];simp;omega),Tre.aI]
 unfold JV
 rw [hn,Z6 h2]
 simp [up]
def xQ:Env:=⟨tau,[(59,kr),(75,awW)],[]⟩
def Jl:Code:=(Try.f48.body).getD .skip
def Lr (tN:Int) (IK:Int) (yD:Int):(Int×(List Int))→St:=fun x=>bX [(0,(.ref (2,0) [])),(3,(.i tN)),(4,(.ptr (6,0) [])),(45,(.i IK)),(46,(.i x.1))] [((2,0),some ⟨false,.il,.own,x.2⟩),((6,0),some ⟨true,.n,.own,yD⟩)]
def Jm (tN:Int) (_:Int) (yD:Int):(List Int)→Ex×St:=fun x=>(.exit 2,bX [(0,(.ref (2,0) [])),(3,(.i tN)),(4,(.ptr (6,0) []))] [((2,0),some ⟨false,.il,.own,x⟩),((6,0),some ⟨true,.n,.own,yD⟩)])
def ac7 (s:St):Tre (Ex×St):=
 dW (2,0) [] (s.tmps 0)<|
 aA true .n (s.tmps 3) fun d3=>
 dH (6,0) [] (s.tmps 4)<|
 aA true .n (s.tmps 45) fun d6=>
 aA true .n (s.tmps 46) fun d8=>
 aX false .il (s.roots (2,0)) fun m10 d11=>
 asM .own m10<|
 aX true .n (s.roots (6,0)) fun m13 d14=>
 asM .own m13<|
 .mat (aO (nU d3 d6 d14) (d8,d11)) fun x=>.ret (Jm d3 d6 d14 x)
def wm:bD:=⟨([0,3,4,45,46],[(2,0),(6,0)]),([0,3,4],[(2,0),(6,0)]),ac7⟩
def O5:(Int×(List Int)×Int)→St:=fun x=>bX [(0,(.ref (2,0) [])),(3,(.i x.1)),(4,(.ptr (6,0) []))] [((2,0),some ⟨false,.il,.own,x.2.1⟩),((6,0),some ⟨true,.n,.own,x.2.2⟩)]
def Ls:(Int×(List Int))→Ex×St:=fun x=>(.exit 0,bX [(0,(.ref (2,0) [])),(3,(.i x.1))] [((2,0),some ⟨false,.il,.own,x.2⟩)])
def aeM (s:St):Tre (Ex×St):=
 dW (2,0) [] (s.tmps 0)<|
 aA true .n (s.tmps 3) fun d3=>
 dH (6,0) [] (s.tmps 4)<|
 aX false .il (s.roots (2,0)) fun m6 d7=>
 asM .own m6<|
 aX true .n (s.roots (6,0)) fun m9 d10=>
 asM .own m9<|
 .mat (aO je (d3,d7,d10)) fun x=>.ret (Ls x)
def zk:bD:=⟨([0,3,4],[(2,0),(6,0)]),([0,3],[(2,0)]),aeM⟩
def C8:List (Nat×bD):=[(10,wm),(4,zk)]
theorem WG:∀(tN IK yD:Int)(x:(Int×(List Int)))(c:St→Option (Ex×St)),den xQ C8 (aV Jl 1) (Lr tN IK yD x) (cu wm.kp wm.kx c)=(nU tN IK yD x).run (cB (Lr tN IK yD) (Jm tN IK yD) c):=fun _ _ _ _ _=>by
 kernel_rfl
theorem aaE:bU xQ C8 (aV Jl 1) wm:=dh fun _ _ _=>jk<|aH fun _=>fJ<|aH fun _=>aH fun _=>bN fun _ _=>tM<|bN fun _ _=>tM<|fun h _ e12 _ e9 e7 e5 e4 e2 e1=>bS (WG _ _ _) h (by subst_vars;exact aP rfl rfl ⟨e1,e2,e4,e5,e7,trivial⟩ ⟨e9,e12,trivial⟩)
theorem Yg:∀(x:(Int×(List Int)×Int))(c:St→Option (Ex×St)),den xQ C8 (aV Jl 0) (O5 x) (cu zk.kp zk.kx c)=(je x).run (cB (O5) (Ls) c):=fun _ _=>by
 kernel_rfl
theorem ac8:bU xQ C8 (aV Jl 0) zk:=dh fun _ _ _=>jk<|aH fun _=>fJ<|bN fun _ _=>tM<|bN fun _ _=>tM<|fun h _ e8 _ e5 e4 e2 e1=>bS Yg h (by subst_vars;exact aP rfl rfl ⟨e1,e2,e4,trivial⟩ ⟨e5,e8,trivial⟩)
def alc:FnI:=fnI Try.f48 C8
def U7 (_:Bool) (_:List Int):(List Int)→ay:=fun r=>⟨(.ref (1,0) []),[],[⟨false,.il,.own,r⟩]⟩
theorem ajg:∀(zp0:Bool)(p0:List Int),bR xQ alc ⟨[(.imm zp0 .il p0)],[]⟩=(aaD p0).run fun r=>some (U7 zp0 p0 r):=fun _ _=>by kernel_rfl
def alb (av:List AV) (rs:List Root):Tre ay:=
 aD av fun a0_ av0=>
 aM av0<|
 aM rs<|
 bG .il a0_ fun z2 d1=>
 .mat (XE d1) fun r=>.ret (U7 z2 d1 r)
def xR:Ctr:=dO [] alb
theorem zo:Contract Try.prog .none 48 xR:=aC (V:=xQ) aW (ak mW apd (ak axD ape aJ)) Try.func48 (bL (n:=2) fun k hk=>by
 match k,hk with
 |0,_=>exact bO (id:=4) ac8
 |1,_=>exact bO (id:=10) aaE) fun _ _ _=>aK fun _ _=>bA<|bA<|dM fun _ _=>fun h=>by intros;subst_vars;exact yC (ajg _ _) (aeO _) h
def Bg (p0:List Int):Tre Bool:=
 .mat (XE p0) fun r1=>
 .ret (decide ((r1.length:Int)=(p0.length:Int)))
def Gn (p0:List Int):Option Bool:=(Bg p0).run some
def avn (xs:List Int):Option Bool:=agD (Bp 62 xs) (decide (((JV xs).length:Int)=(xs.length:Int)))
theorem Qd(p0:List Int)(y:Bool)(h:avn p0=some y):Gn p0=some y:=by
 obtain ⟨hok,rfl⟩:=xC h
 unfold Gn Bg
 rw [ah (show XE p0=some _ from kG hok)]
 rfl
def Gp:Env:=⟨tau,[(48,xR)],[]⟩
def WC:FnI:=fnI Try.f70 []
def CZ (_:Bool) (_:List Int):Bool→ay:=fun r=>⟨(.imm true .bool r),[],[]⟩
theorem Uo:∀(zp0:Bool)(p0:List Int),bR Gp WC ⟨[(.imm zp0 .il p0)],[]⟩=(Bg p0).run fun r=>some (CZ zp0 p0 r):=fun _ _=>by kernel_rfl
def WB (av:List AV) (rs:List Root):Tre ay:=
 aD av fun a0_ av0=>
 aM av0<|
 aM rs<|
 bG .il a0_ fun z2 d1=>
 .mat (avn d1) fun r=>.ret (CZ z2 d1 r)
def Gq:Ctr:=dO [] WB
theorem Uq:Contract Try.prog .none 70 Gq:=aC (V:=Gp) aW (ak zo ak0 aJ) Try.func70 bP fun _ _ _=>aK fun _ _=>bA<|bA<|dM fun _ _=>fun h=>by intros;subst_vars;exact yC (Uo _ _) (Qd _) h
def Bd (p0:aS):Tre Bool:=
 .mat (jL p0.1 ([p0.2.1])) fun r1=>
 .cond (decide (r1=0))
  (.mat (avn p0.2.1) fun r2=>
  .cond r2
   (let v3:=inR p0.2.2.1 1 (p0.2.1.length:Int)
   .ret v3)
   (.ret false))
  (.ret false)
def mE (p0:aS):Option Bool:=(Bd p0).run some
def Gm:Env:=⟨tau,[(69,Ga),(70,Gq),(25,jf),(71,wR)],[]⟩
def WA:FnI:=fnI Try.f45 []
def CY (_:Bool) (_:aS):Bool→ay:=fun r=>⟨(.imm true .bool r),[],[]⟩
theorem Un:∀(zp0:Bool)(p0:aS),bR Gm WA ⟨[(.imm zp0 bJ p0)],[]⟩=(Bd p0).run fun r=>some (CY zp0 p0 r):=fun _ _=>by kernel_rfl
def Wz (av:List AV) (rs:List Root):Tre ay:=
 aD av fun a0_ av0=>
 aM av0<|
 aM rs<|
 bG bJ a0_ fun z2 d1=>
 .mat (mE d1) fun r=>.ret (CY z2 d1 r)
def wQ:Ctr:=dO [] Wz
theorem En:Contract Try.prog .none 45 wQ:=aC (V:=Gm) aW (ak Ui ayE (ak Uq ayF (ak jw abN (ak xS ahT aJ)))) Try.func45 bP fun _ _ _=>aK fun _ _=>bA<|bA<|dM fun _ _=>fun h=>by intros;subst_vars;exact bB (Un _ _) h
def Nu (p0:aZ) (p1:Int):Tre Bool:=
 .ite (0≤p0.1)<|
 let v1:=aF .i64 ((yu .i64 1 p0.1)-1)
 .ret (inR p1 0 v1)
def yY (p0:aZ) (p1:Int):Option Bool:=(Nu p0 p1).run some
def Rs:Env:=⟨tau,[(71,wR)],[]⟩
def aeH:FnI:=fnI Try.f92 []
def Le (_:Bool) (_:aZ) (_:Int):Bool→ay:=fun r=>⟨(.imm true .bool r),[],[]⟩
theorem acY:∀(zp0:Bool)(p0:aZ)(p1:Int),bR Rs aeH ⟨[(.imm zp0 bQ p0),(.i p1)],[]⟩=(Nu p0 p1).run fun r=>some (Le zp0 p0 p1 r):=fun _ _ _=>by kernel_rfl
def aeG (av:List AV) (rs:List Root):Tre ay:=
 aD av fun a0_ av0=>
 aD av0 fun a1_ av1=>
 aM av1<|
 aM rs<|
 bG bQ a0_ fun z2 d1=>
 aA true .n a1_ fun d3=>
 .mat (yY d1 d3) fun r=>.ret (Le z2 d1 d3 r)
def Rt:Ctr:=dO [] aeG
theorem ac0:Contract Try.prog .none 92 Rt:=aC (V:=Rs) aW (ak xS ahT aJ) Try.func92 bP fun _ _ _=>aK fun _ _=>aK fun _ _=>bA<|bA<|dM fun _ _=>aH fun _=>fun h=>by intros;subst_vars;exact bB (acY _ _ _) h
def sI (p0:Int) (p1:aZ):Tre Bool:=
 .mat (yY p1 p0) fun r1=>
 .ret (!r1)
def lN (p0:Int) (p1:aZ):Option Bool:=(sI p0 p1).run some
def zf:Env:=⟨tau,[(92,Rt)],[]⟩
def NC:FnI:=fnI Try.f91 []
def vO (zp0:Bool) (_:Int) (p1:aZ):Bool→ay:=fun r=>⟨(.imm true .bool r),[⟨true,bQ,(.imm zp0),p1⟩],[]⟩
theorem Lj:∀(zp0:Bool)(p0:Int)(p1:aZ),bR zf NC ⟨[(.i p0),(.ptr (0,0) [])],[⟨true,bQ,(.imm zp0),p1⟩]⟩=(sI p0 p1).run fun r=>some (vO zp0 p0 p1 r):=fun _ _ _=>by kernel_rfl
def NA (av:List AV) (rs:List Root):Tre ay:=
 aD av fun a0_ av0=>
 aD av0 fun a1_ av1=>
 aM av1<|
 aD rs fun r0_ rs0=>
 aM rs0<|
 aA true .n a0_ fun d1=>
 dH (0,0) [] a1_<|
 yx true bQ r0_ fun m2 d3=>
 fB m2 fun z4=>
 .mat (lN d1 d3) fun r=>.ret (vO z4 d1 d3 r)
def zi:Ctr:=dO [] NA
theorem Lm:Contract Try.prog .none 91 zi:=aC (V:=zf) aW (ak ac0 ayS aJ) Try.func91 bP fun _ _ _=>aK fun _ _=>aK fun _ _=>bA<|aK fun _ _=>bA<|aH fun _=>fJ<|tRt fun _ _=>ku fun _=>fun h=>by intros;subst_vars;exact bB (Lj _ _ _) h
def aaW (bC:List Int) (bH:Int) (bI:aZ):Int→Tre (Int ⊕ (Int ⊕ Unit)):=fun s2=>
 .cond (decide (s2<bH))
  (.ite (0≤s2∧s2<(bC.length:Int))<|
  .mat (bC[s2.toNat]?) fun x1=>
  .mat (lN x1 bI) fun r2=>
  .cond r2
   (.ret (.inr (.inl s2)))
   (.ret (.inl (aF .i64 (s2+1)))))
  (.ret (.inr (.inr ())))
def nm6 (p0:List Int) (p1:aZ):Tre Int:=
 .mat (aO (aaW p0 (p0.length:Int) p1) 0) fun l3=>
 .alt l3
  (fun a4=>
   .ret a4)
  (fun _=>
   .ret (-1))
def apN (p0:List Int) (p1:aZ):Option Int:=(nm6 p0 p1).run some
def apO:Env:=⟨tau,[(91,zi)],[]⟩
def awQ:Code:=(Try.f75.body).getD .skip
def aaX (kC:Bool) (Tn:Bool) (bC:List Int) (bH:Int) (bI:aZ):Int→St:=fun x=>bX [(0,(.imm kC .il bC)),(1,(.fn 91 [(0,0)])),(7,(.i bH)),(8,(.i x))] [((0,0),some ⟨true,bQ,(.imm Tn),bI⟩)]
def NZ (_:Bool) (Tn:Bool) (_:List Int) (_:Int) (bI:aZ):(Int ⊕ Unit)→Ex×St
 |.inl x=>(.ret,bX [(4,(.i x))] [((0,0),some ⟨true,bQ,(.imm Tn),bI⟩)])
 |.inr _=>(.exit 0,bX [(4,.dead)] [((0,0),some ⟨true,bQ,(.imm Tn),bI⟩)])
def al6 (s:St):Tre (Ex×St):=
 bG .il (s.tmps 0) fun z3 d2=>
 Pv 91 [(0,0)] (s.tmps 1)<|
 aA true .n (s.tmps 7) fun d6=>
 aA true .n (s.tmps 8) fun d8=>
 aX true bQ (s.roots (0,0)) fun m10 d11=>
 fB m10 fun z12=>
 .mat (aO (aaW d2 d6 d11) d8) fun x=>.alt x (fun a0=>.ret (NZ z3 z12 d2 d6 d11 (.inl a0))) (fun b0=>.ret (NZ z3 z12 d2 d6 d11 (.inr b0)))
def R4:bD:=⟨([0,1,7,8],[(0,0)]),([4],[(0,0)]),al6⟩
def atD:List (Nat×bD):=[(2,R4)]
theorem al7:∀(kC Tn:Bool)(bC:List Int)(bH:Int)(bI:aZ)(x:Int)(c:St→Option (Ex×St)),den apO atD (aV awQ 0) (aaX kC Tn bC bH bI x) (cu R4.kp R4.kx c)=(aaW bC bH bI x).run (cB (aaX kC Tn bC bH bI) (NZ kC Tn bC bH bI) c):=fun _ _ _ _ _ _ _=>by
 kernel_rfl
theorem aro:bU apO atD (aV awQ 0) R4:=kS fun s e s' h=>by
 generalize hs:restrict R4.kp s=s1 at h
 have h:(al6 s1).run some=some (e,s'):=h
 obtain ⟨z3,d2,e1,h_0⟩:=iV h
 obtain ⟨e4,h_1⟩:=AA h_0
 obtain ⟨d6,e5,h_2⟩:=dJ h_1
 obtain ⟨d8,e7,h_3⟩:=dJ h_2
 obtain ⟨m10,d11,e9,h_4⟩:=lT h_3
 obtain ⟨z12,rfl,h_5⟩:=QB h_4
 obtain ⟨y,hy,hz⟩:=mF h_5
 refine ⟨_,_,aaX z3 z12 d2 d6 d11,NZ z3 z12 d2 d6 d11,aaW d2 d6 d11,d8,y,?_,hy,?_,al7 z3 z12 d2 d6 d11⟩
 ·subst hs;exact aP (T:=[(0,(.imm z3 .il d2)),(1,(.fn 91 [(0,0)])),(7,(.i d6)),(8,(.i d8))]) (U:=[((0,0),some ⟨true,bQ,(.imm z12),d11⟩)]) rfl rfl ⟨e1,e4,e5,e7,trivial⟩ ⟨e9,trivial⟩
 ·rcases y with x|x<;>exact Option.some.inj hz
def azg:FnI:=fnI Try.f75 atD
def apP (_:Bool) (zp1:Bool) (_:List Int) (p1:aZ):Int→ay:=fun r=>⟨(.i r),[⟨true,bQ,(.imm zp1),p1⟩],[]⟩
theorem axy:∀(zp0 zp1:Bool)(p0:List Int)(p1:aZ),bR apO azg ⟨[(.imm zp0 .il p0),(.fn 91 [(0,0)])],[⟨true,bQ,(.imm zp1),p1⟩]⟩=(nm6 p0 p1).run fun r=>some (apP zp0 zp1 p0 p1 r):=fun _ _ _ _=>by kernel_rfl
def azf (av:List AV) (rs:List Root):Tre ay:=
 aD av fun a0_ av0=>
 aD av0 fun a1_ av1=>
 aM av1<|
 aD rs fun r0_ rs0=>
 aM rs0<|
 bG .il a0_ fun z2 d1=>
 Pv 91 [(0,0)] a1_<|
 yx true bQ r0_ fun m3 d4=>
 fB m3 fun z5=>
 .mat (apN d1 d4) fun r=>.ret (apP z2 z5 d1 d4 r)
def awR:Ctr:=dO [] azf
theorem axz:Contract Try.prog .none 75 awR:=aC (V:=apO) aW (ak Lm ayR aJ) Try.func75 (bL (n:=1) fun k hk=>by
 match k,hk with
 |0,_=>exact bO (id:=2) aro) fun _ _ _=>aK fun _ _=>aK fun _ _=>bA<|aK fun _ _=>bA<|dM fun _ _=>tFn<|tRt fun _ _=>ku fun _=>fun h=>by intros;subst_vars;exact bB (axy _ _ _ _) h
def nm2 (p0:List Int) (p1:aZ):Tre Bool:=
 .mat (apN p0 p1) fun r1=>
 .ret (decide (r1 ≥ 0))
def apD (p0:List Int) (p1:aZ):Option Bool:=(nm2 p0 p1).run some
def awI:Env:=⟨tau,[(75,awR)],[]⟩
def ay8:FnI:=fnI Try.f90 []
def apE (_:Bool) (zp1:Bool) (_:List Int) (p1:aZ):Bool→ay:=fun r=>⟨(.imm true .bool r),[⟨true,bQ,(.imm zp1),p1⟩],[]⟩
theorem axp:∀(zp0 zp1:Bool)(p0:List Int)(p1:aZ),bR awI ay8 ⟨[(.imm zp0 .il p0),(.fn 91 [(0,0)])],[⟨true,bQ,(.imm zp1),p1⟩]⟩=(nm2 p0 p1).run fun r=>some (apE zp0 zp1 p0 p1 r):=fun _ _ _ _=>by kernel_rfl
def ay7 (av:List AV) (rs:List Root):Tre ay:=
 aD av fun a0_ av0=>
 aD av0 fun a1_ av1=>
 aM av1<|
 aD rs fun r0_ rs0=>
 aM rs0<|
 bG .il a0_ fun z2 d1=>
 Pv 91 [(0,0)] a1_<|
 yx true bQ r0_ fun m3 d4=>
 fB m3 fun z5=>
 .mat (apD d1 d4) fun r=>.ret (apE z2 z5 d1 d4 r)
def awJ:Ctr:=dO [] ay7
theorem axq:Contract Try.prog .none 90 awJ:=aC (V:=awI) aW (ak axz ape aJ) Try.func90 bP fun _ _ _=>aK fun _ _=>aK fun _ _=>bA<|aK fun _ _=>bA<|dM fun _ _=>tFn<|tRt fun _ _=>ku fun _=>fun h=>by intros;subst_vars;exact bB (axp _ _ _ _) h
def Kh (p0:aZ):Tre Bool:=
 .cond (inR p0.1 1 10)
  (.cond (decide ((p0.2.1.length:Int)≤10))
   (.mat (apD p0.2.1 p0) fun r1=>
   .ret (!r1))
   (.ret false))
  (.ret false)
def vZ (p0:aZ):Option Bool:=(Kh p0).run some
-- more
theorem acZ(m:Int×List Int×Unit)(x:Int)(h:0≤m.1):yY m x=some (inP m.1 x):=by
 unfold yY Nu
 rw [Tre.run_ite,if_pos h]
 rfl
theorem Ll(m:Int×List Int×Unit)(x:Int)(h:0≤m.1):lN x m=some (!inP m.1 x):=by
 unfold lN sI
 rw [ah (acZ m x h)]
 rfl
theorem Ye(xs:List Int)(m:Int×List Int×Unit)(h:0≤m.1)(hl:xs.length≤1048576):apN xs m=some (qA (fun x=>!inP m.1 x) 0 xs):=by
 unfold apN nm6
 rw [Tre.oC,E9 (xs:=xs) (fun i x=>cond (!inP m.1 x) (some (.inl (i:Int))) none) (.inr ())]
 ·rw [Option.bind_some,←KL (p:=fun x=>!inP m.1 x)]
  generalize KJ _ _ _ _=r
  cases r<;>rfl
 ·intro i x hx
  have hi:i<xs.length:=(List.getElem?_eq_some_iff.1 hx).1
  unfold aaW
  rw [fU hx,ah (Ll m x h),Tre.aB]
  cases inP m.1 x
  ·rfl
  ·simp only [Bool.not_true,cond_false,Tre.aI,aU (show i<4611686018427387904 by omega)]
 ·unfold aaW
  exact eY
theorem Yd(xs:List Int)(m:Int×List Int×Unit)(h:0≤m.1)(hl:xs.length≤1048576):apD xs m=some (xs.any fun x=>!inP m.1 x):=by
 unfold apD nm2
 rw [ah (Ye xs m h hl),Tre.aI,alx]
theorem aaz(m:Int×List Int×Unit)(hl:m.2.1.length≤1048576):vZ m=some (aov m):=by
 unfold vZ Kh aov
 rw [Tre.aB]
 cases h1:inR m.1 1 10
 ·rfl
 rw [cond_true,Tre.aB,Bool.true_and]
 rw [iR] at h1
 by_cases h2:(m.2.1.length:Int)≤10
 ·rw [decide_eq_true h2,cond_true,ah (Yd m.2.1 m (by omega) hl),Tre.aI,decide_eq_true (show m.2.1.length≤10 by omega),Bool.true_and,List.not_any_eq_all_not]
  simp only [Bool.not_not]
 ·rw [decide_eq_false h2,decide_eq_false (show ¬m.2.1.length≤10 by omega)];rfl
def O1:Env:=⟨tau,[(71,wR),(90,awJ)],[]⟩
def ac4:FnI:=fnI Try.f72 []
def Jj (_:Bool) (_:aZ):Bool→ay:=fun r=>⟨(.imm true .bool r),[],[]⟩
theorem aay:∀(zp0:Bool)(p0:aZ),bR O1 ac4 ⟨[(.imm zp0 bQ p0)],[]⟩=(Kh p0).run fun r=>some (Jj zp0 p0 r):=fun _ _=>by kernel_rfl
def ac3 (av:List AV) (rs:List Root):Tre ay:=
 aD av fun a0_ av0=>
 aM av0<|
 aM rs<|
 bG bQ a0_ fun z2 d1=>
 .mat (vZ d1) fun r=>.ret (Jj z2 d1 r)
def O4:Ctr:=dO [] ac3
theorem aaA:Contract Try.prog .none 72 O4:=aC (V:=O1) aW (ak xS ahT (ak axq awy aJ)) Try.func72 bP fun _ _ _=>aK fun _ _=>bA<|bA<|dM fun _ _=>fun h=>by intros;subst_vars;exact bB (aay _ _) h
def ap3(a b:List Int):Option Bool:=agD (decide (a.length≤1048576)&&decide (b.length≤1048576)) (decide (a=b))
def sameAt(b:List Int)(i:Nat)(x:Int):Option (Bool ⊕ Unit):=match b[i]? with
 |some y=>cond (decide (x=y)) none (some (.inl false))
 |none=>none
theorem anO(b:List Int):∀(l:List Int)(i:Nat),l.length=(b.drop i).length→KJ (β:=Bool ⊕ Unit) (sameAt b) (.inr ()) i l=cond (decide (l=b.drop i)) (.inr ()) (.inl false):=by
 intro l
 induction l with
 |nil=>
  intro i h
  have:b.drop i=[]:=List.eq_nil_of_length_eq_zero h.symm
  rw [this];rfl
 |cons x l ih=>
  intro i h
  have hi:i<b.length:=by rw [List.length_drop,List.length_cons] at h;omega
  have hd:b.drop i=b[i]::b.drop (i+1):=List.drop_eq_getElem_cons hi
  have hlen:l.length=(b.drop (i+1)).length:=by rw [hd,List.length_cons,List.length_cons] at h;omega
  have hih:=ih (i+1) hlen
  simp only [KJ,sameAt]
  rw [List.getElem?_eq_getElem hi]
  simp only
  by_cases hx:x=b[i]
  ·rw [decide_eq_true hx,cond_true,hih]
   by_cases hl:l=b.drop (i+1)
   ·rw [decide_eq_true hl,decide_eq_true (show x::l=b.drop i by rw [hd,hx,hl])]
   ·rw [decide_eq_false hl,decide_eq_false (fun h2=>hl (by rw [hd] at h2;exact (List.cons.inj h2).2))]
  ·rw [decide_eq_false hx,cond_false,decide_eq_false (fun h2=>hx (by rw [hd] at h2;exact (List.cons.inj h2).1))]
   rfl
def gY (bT:List Int) (fK:List Int) (eP:Int):Int→Tre (Int ⊕ (Bool ⊕ Unit)):=fun s4=>
 .cond (decide (s4<eP))
  (.ite (0≤s4∧s4<(bT.length:Int))<|
  .mat (bT[s4.toNat]?) fun x1=>
  .ite (0≤s4∧s4<(fK.length:Int))<|
  .mat (fK[s4.toNat]?) fun x2=>
  .cond (!decide (x1=x2))
   (.ret (.inr (.inl false)))
   (.ret (.inl (aF .i64 (s4+1)))))
  (.ret (.inr (.inr ())))
def xu (p0:List Int) (p1:List Int):Tre Bool:=
 .cond (!decide ((p0.length:Int)=(p1.length:Int)))
  (.ret false)
  (.mat (aO (gY p0 p1 (p0.length:Int)) 0) fun l3=>
  .alt l3
   (fun a4=>
    .ret a4)
   (fun _=>
    .ret true))
def DC (p0:List Int) (p1:List Int):Option Bool:=(xu p0 p1).run some
theorem Mh(p0 p1:List Int)(y:Bool)(h:ap3 p0 p1=some y):DC p0 p1=some y:=by
 obtain ⟨hok,rfl⟩:=xC h
 simp only [Bool.and_eq_true,decide_eq_true_eq] at hok
 unfold DC xu
 rw [Tre.aB]
 by_cases hl:p0.length=p1.length
 ·rw [decide_eq_true (show (p0.length:Int)=(p1.length:Int) by omega),Bool.not_true,cond_false,Tre.oC,E9 (xs:=p0) (sameAt p1) (.inr ()),anO p1 p0 0 (by simpa using hl)]
  ·rw [List.drop_zero]
   cases decide (p0=p1)<;>rfl
  ·intro i x hx
   have hi:i<p0.length:=(List.getElem?_eq_some_iff.1 hx).1
   have hy:p1[i]?=some p1[i]:=List.getElem?_eq_getElem (by omega)
   unfold gY
   unfold sameAt
   rw [fU hx,jg hy,Tre.aB,hy]
   dsimp only
   cases decide (x=p1[i])
   ·rfl
   ·simp only [Bool.not_true,cond_true,cond_false,Tre.aI,aU (show i<4611686018427387904 by omega)]
  ·unfold gY
   exact eY
 ·rw [decide_eq_false (show ¬(p0.length:Int)=(p1.length:Int) by omega),Bool.not_false,cond_true,Tre.aI,decide_eq_false (fun h=>hl (by rw [h]))]
def nR:Env:=⟨tau,[],[]⟩
def DF:Code:=(Try.f73.body).getD .skip
def nX (nY:Bool) (HZ:Bool) (bT:List Int) (fK:List Int) (eP:Int):Int→St:=fun x=>bX [(0,(.imm nY .il bT)),(1,(.imm HZ .il fK)),(12,(.i eP)),(13,(.i x))] []
def jA (_:Bool) (_:Bool) (_:List Int) (_:List Int) (_:Int):(Bool ⊕ Unit)→Ex×St
 |.inl x=>(.ret,bX [(4,(.imm true .bool x))] [])
 |.inr _=>(.exit 0,bX [(4,.dead)] [])
def yt (s:St):Tre (Ex×St):=
 bG .il (s.tmps 0) fun z3 d2=>
 bG .il (s.tmps 1) fun z6 d5=>
 aA true .n (s.tmps 12) fun d8=>
 aA true .n (s.tmps 13) fun d10=>
 .mat (aO (gY d2 d5 d8) d10) fun x=>.alt x (fun a0=>.ret (jA z3 z6 d2 d5 d8 (.inl a0))) (fun b0=>.ret (jA z3 z6 d2 d5 d8 (.inr b0)))
def iQ:bD:=⟨([0,1,12,13],[]),([4],[]),yt⟩
def tu:List (Nat×bD):=[(4,iQ)]
theorem Hu:∀(nY HZ:Bool)(bT fK:List Int)(eP x:Int)(c:St→Option (Ex×St)),den nR tu (aV DF 0) (nX nY HZ bT fK eP x) (cu iQ.kp iQ.kx c)=(gY bT fK eP x).run (cB (nX nY HZ bT fK eP) (jA nY HZ bT fK eP) c):=fun _ _ _ _ _ _ _=>by
 kernel_rfl
theorem KC:bU nR tu (aV DF 0) iQ:=kS fun s e s' h=>by
 generalize hs:restrict iQ.kp s=s1 at h
 have h:(yt s1).run some=some (e,s'):=h
 obtain ⟨z3,d2,e1,h_0⟩:=iV h
 obtain ⟨z6,d5,e4,h_1⟩:=iV h_0
 obtain ⟨d8,e7,h_2⟩:=dJ h_1
 obtain ⟨d10,e9,h_3⟩:=dJ h_2
 obtain ⟨y,hy,hz⟩:=mF h_3
 refine ⟨_,_,nX z3 z6 d2 d5 d8,jA z3 z6 d2 d5 d8,gY d2 d5 d8,d10,y,?_,hy,?_,Hu z3 z6 d2 d5 d8⟩
 ·subst hs;exact aP (T:=[(0,(.imm z3 .il d2)),(1,(.imm z6 .il d5)),(12,(.i d8)),(13,(.i d10))]) (U:=[]) rfl rfl ⟨e1,e4,e7,e9,trivial⟩ trivial
 ·rcases y with x|x<;>exact Option.some.inj hz
def Tj:FnI:=fnI Try.f73 tu
def zQ (_:Bool) (_:Bool) (_:List Int) (_:List Int):Bool→ay:=fun r=>⟨(.imm true .bool r),[],[]⟩
theorem Qu:∀(zp0 zp1:Bool)(p0 p1:List Int),bR nR Tj ⟨[(.imm zp0 .il p0),(.imm zp1 .il p1)],[]⟩=(xu p0 p1).run fun r=>some (zQ zp0 zp1 p0 p1 r):=fun _ _ _ _=>by kernel_rfl
def Ti (av:List AV) (rs:List Root):Tre ay:=
 aD av fun a0_ av0=>
 aD av0 fun a1_ av1=>
 aM av1<|
 aM rs<|
 bG .il a0_ fun z2 d1=>
 bG .il a1_ fun z4 d3=>
 .mat (ap3 d1 d3) fun r=>.ret (zQ z2 z4 d1 d3 r)
def DI:Ctr:=dO [] Ti
theorem Qv:Contract Try.prog .none 73 DI:=aC (V:=nR) aW aJ Try.func73 (bL (n:=1) fun k hk=>by
 match k,hk with
 |0,_=>exact bO (id:=4) KC) fun _ _ _=>aK fun _ _=>aK fun _ _=>bA<|bA<|dM fun _ _=>dM fun _ _=>fun h=>by intros;subst_vars;exact yC (Qu _ _ _ _) (Mh _ _) h
def aav (p0:aZ):Tre Bool:=
 .mat (vZ p0) fun r1=>
 .cond r1
  (.mat (XE p0.2.1) fun r2=>
  .mat (ap3 r2 p0.2.1) fun r3=>
  .ret r3)
  (.ret false)
def Jg (p0:aZ):Option Bool:=(aav p0).run some
-- more
theorem anI{c:Nat}{ns:List Nat}(hc:c≤10)(hl:ns.length≤10)(hn:∀n∈ns,n<2 ^ c):(JV (up ns)).length≤ns.length:=by
 have hi:=ai0 (b:=62) (by omega) (aa3 (c:=c) (b:=62) (ns:=ns) (by omega) (by omega) hn)
 rw [up_toNat] at hi
 rw [akW,up_toNat]
 exact hi.le
theorem aja(m:Int×List Int×Unit)(hl:m.2.1.length≤1048576):Jg m=some (abC m):=by
 unfold Jg aav
 rw [ah (aaz m hl),Tre.aB]
 unfold abC
 cases h:aov m
 ·rfl
 obtain ⟨c,ns,rfl,h1,h2,h3,h4⟩:=apW h
 dsimp only at hl ⊢
 rw [cond_true,ah (show XE (up ns)=some _ from kG (aa3 (c:=c) (by omega) (by omega) h4))]
 rw [ah (show ap3 (JV (up ns)) (up ns)=some _ from kG (by
  have:=anI h2 h3 h4
  simp only [Bool.and_eq_true,decide_eq_true_eq,fC];omega))]
 rfl
def abS:Env:=⟨tau,[(72,O4),(48,xR),(73,DI)],[]⟩
def ala:FnI:=fnI Try.f46 []
def U5 (_:Bool) (_:aZ):Bool→ay:=fun r=>⟨(.imm true .bool r),[],[]⟩
theorem ai9:∀(zp0:Bool)(p0:aZ),bR abS ala ⟨[(.imm zp0 bQ p0)],[]⟩=(aav p0).run fun r=>some (U5 zp0 p0 r):=fun _ _=>by kernel_rfl
def ak9 (av:List AV) (rs:List Root):Tre ay:=
 aD av fun a0_ av0=>
 aM av0<|
 aM rs<|
 bG bQ a0_ fun z2 d1=>
 .mat (Jg d1) fun r=>.ret (U5 z2 d1 r)
def abT:Ctr:=dO [] ak9
theorem ajb:Contract Try.prog .none 46 abT:=aC (V:=abS) aW (ak aaA ayG (ak zo ak0 (ak Qv ayH aJ))) Try.func46 bP fun _ _ _=>aK fun _ _=>bA<|bA<|dM fun _ _=>fun h=>by intros;subst_vars;exact bB (ai9 _ _) h
def wO (p0:aS) (p1:List Int):Tre Int:=
 .mat (mE p0) fun r1=>
 .cond (!r1)
  (.ret 1)
  (.cond (!decide ((p1.length:Int)=(p0.2.1.length:Int)))
   (.ret 2)
   (.mat (vK p0.1 p1) fun r2=>
   .cond (!r2)
    (.ret 2)
    (.ret 0)))
def nH (p0:aS) (p1:List Int):Option Int:=(wO p0 p1).run some
-- more
theorem aoa{f:TF3}(hf:aG f=true)(c:List Int):tT f c=some (inR (c.length:Int) 1 5&&nZ f c):=by
 unfold tT FW
 dsimp only
 rw [Tre.aB]
 cases hi:inR (c.length:Int) 1 5
 ·rfl
 ·have:=iR.1 hi
  rw [cond_true,ah (QY hf c (by omega)),Tre.aI,Bool.true_and]
theorem ajw{f:TF3}(hf:aG f=true)(c:List Int):jL f [c]=some (if inR (c.length:Int) 1 5=true∧nZ f c=true then 0 else 2):=by
 have h1:gL c f [c]=some (!(inR (c.length:Int) 1 5&&nZ f c)):=by
  unfold gL oQ
  rw [ah (aoa hf c),Tre.aB]
  cases inR (c.length:Int) 1 5&&nZ f c
  ·rfl
  ·rw [Bool.not_true,cond_false,Tre.run_ite,if_pos ⟨by omega,by simp⟩,ah (show [c][0]?=some c from rfl),Tre.aI,decide_eq_true rfl]
   rfl
 have h2:apA [c] f [c]=some (if inR (c.length:Int) 1 5=true∧nZ f c=true then -1 else 0):=by
  unfold apA nm1
  by_cases hc:inR (c.length:Int) 1 5=true∧nZ f c=true
  ·rw [hc.1,hc.2] at h1
   rw [ah (show aO (RX [c] (([c]:List (List Int)).length:Int) f [c]) 0=some (.inr ()) from ?_),if_pos hc]
   ·rfl
   refine dZ (fun i=>(i:Int)) 1 _ (fun i hi=>?_) ?_
   ·obtain rfl:i=0:=by omega
    unfold RX
    rw [fU (i:=0) (show [c][0]?=some c from rfl),ah h1]
    rfl
   ·rfl
  ·have h3:(inR (c.length:Int) 1 5&&nZ f c)=false:=by
    cases h:(inR (c.length:Int) 1 5&&nZ f c)
    ·rfl
    ·rw [Bool.and_eq_true] at h;exact absurd h hc
   rw [h3] at h1
   rw [ah (show aO (RX [c] (([c]:List (List Int)).length:Int) f [c]) 0=some (.inl 0) from ?_),if_neg hc]
   ·rfl
   refine dY ?_
   unfold RX
   have:=fU (i:=0) (xs:=[c]) (x:=c) (show [c][0]?=some c from rfl) (k:=fun x1=>Tre.mat (gL x1 f [c]) fun r2=>Tre.cond r2 (Tre.ret (Sum.inr (Sum.inl (0:Int)))) (Tre.ret (Sum.inl (aF .i64 ((0:Int)+1))))) (e:=Tre.ret (Sum.inr (Sum.inr ()))) (c:=some)
   refine Eq.trans this ?_
   rw [ah h1]
   rfl
 have h4:apy [c] f [c]=some (!decide (inR (c.length:Int) 1 5=true∧nZ f c=true)):=by
  unfold apy nm0
  rw [ah h2,Tre.aI]
  by_cases hc:inR (c.length:Int) 1 5=true∧nZ f c=true
  ·rw [if_pos hc,decide_eq_true hc];rfl
  ·rw [if_neg hc,decide_eq_false hc];rfl
 unfold jL tY
 rw [ah (OZ f),hf,Tre.aB,Bool.not_true,cond_false,ah h4,Tre.aB]
 by_cases hc:inR (c.length:Int) 1 5=true∧nZ f c=true
 ·rw [decide_eq_true hc,if_pos hc];rfl
 ·rw [decide_eq_false hc,if_neg hc];rfl
theorem YB(g:TF3×List Int×Int×Unit):mE g=some (Ib g):=by
 unfold mE Bd Ib
 cases hf:aG g.1
 ·have:jL g.1 [g.2.1]=some 1:=by
   unfold jL tY
   rw [ah (OZ g.1),hf]
   rfl
  rw [ah this]
  rfl
 rw [ah (ajw hf g.2.1),Tre.aB,Bool.true_and]
 by_cases hc:inR (g.2.1.length:Int) 1 5=true∧nZ g.1 g.2.1=true
 ·have hl:=iR.1 hc.1
  have h5:=(rA hf).2
  rw [if_pos hc,decide_eq_true rfl,cond_true,ah (show avn g.2.1=some _ from kG (akY hf hc.2 (by omega) (by omega))),Tre.aB,hc.1,hc.2,Bool.true_and,Bool.true_and]
  cases decide (((JV g.2.1).length:Int)=(g.2.1.length:Int))
  ·rfl
  ·rfl
 ·have h3:(inR (g.2.1.length:Int) 1 5&&(nZ g.1 g.2.1&&(decide (((JV g.2.1).length:Int)=(g.2.1.length:Int))&&inR g.2.2.1 1 (g.2.1.length:Int))))=false:=by
   cases h:inR (g.2.1.length:Int) 1 5
   ·rfl
   ·cases h2:nZ g.1 g.2.1
    ·rfl
    ·exact absurd ⟨h,h2⟩ hc
  rw [if_neg hc,decide_eq_false (by decide),cond_false,h3]
  rfl
theorem aoh(g:TF3×List Int×Int×Unit)(w:List Int)(hw:w.length≤1048576):nH g w=some (XL g w):=by
 unfold nH wO XL
 rw [ah (YB g),Tre.aB]
 cases hg:Ib g
 ·rfl
 ·have hf:aG g.1=true:=by unfold Ib at hg;simp only [Bool.and_eq_true] at hg;exact hg.1
  rw [Bool.not_true,cond_false,if_pos rfl,Tre.aB]
  by_cases h1:w.length=g.2.1.length
  ·rw [decide_eq_true (by omega),Bool.not_true,cond_false,ah (QY hf w (by omega)),Tre.aB]
   cases he:nZ g.1 w
   ·rw [if_neg (by simp)];rfl
   ·rw [if_pos ⟨h1,rfl⟩];rfl
  ·rw [decide_eq_false (by omega),Bool.not_false,cond_true,if_neg fun h=>h1 h.1];rfl
def CP:Env:=⟨tau,[(45,wQ),(74,JZ)],[]⟩
def Rq:FnI:=fnI Try.f47 []
def yV (_:Bool) (_:Bool) (_:aS) (_:List Int):Int→ay:=fun r=>⟨(.i r),[],[]⟩
theorem PX:∀(zp0 zp1:Bool)(p0:aS)(p1:List Int),bR CP Rq ⟨[(.imm zp0 bJ p0),(.imm zp1 .il p1)],[]⟩=(wO p0 p1).run fun r=>some (yV zp0 zp1 p0 p1 r):=fun _ _ _ _=>by kernel_rfl
def Rp (av:List AV) (rs:List Root):Tre ay:=
 aD av fun a0_ av0=>
 aD av0 fun a1_ av1=>
 aM av1<|
 aM rs<|
 bG bJ a0_ fun z2 d1=>
 bG .il a1_ fun z4 d3=>
 .mat (nH d1 d3) fun r=>.ret (yV z2 z4 d1 d3 r)
def CQ:Ctr:=dO [] Rp
theorem PY:Contract Try.prog .none 47 CQ:=aC (V:=CP) aW (ak En awm (ak QZ awr aJ)) Try.func47 bP fun _ _ _=>aK fun _ _=>aK fun _ _=>bA<|bA<|dM fun _ _=>dM fun _ _=>fun h=>by intros;subst_vars;exact bB (PX _ _ _ _) h
-- shared
def abQ (g:TF3×List Int×Int×Unit) (w:List Int) (u:Int×List Int×Unit) (c:Int):Int:=if Ib g=true then (if abC u=true then (if XL g w=0 then (if u.1=c then (if (g.2.1.length:Int)<g.2.2.1+(u.2.1.length:Int) then 4 else 0) else 2) else 2) else 1) else 1
theorem aqN{g:TF3×List Int×Int×Unit}{w:List Int}(hg:Ib g=true)(h:XL g w≠0):XL g w=2:=by
 unfold XL at h ⊢
 rw [if_pos hg] at h ⊢
 split
 ·rename_i h1;rw [if_pos h1] at h;exact absurd rfl h
 ·rfl
theorem as4{g:TF3×List Int×Int×Unit}{u:Int×List Int×Unit}(hg:Ib g=true)(hu:abC u=true):aF .i64 (g.2.2.1+(u.2.1.length:Int))=g.2.2.1+(u.2.1.length:Int):=by
 obtain ⟨_,P,k,h1,_,_,h2,h3,h4⟩:=aey hg
 obtain ⟨c,ns,rfl,h5,h6,h7,_⟩:=adT hu
 rw [h1]
 dsimp only
 rw [fC,dG (by omega) (by omega)]
def qZ (p0:aS) (p1:List Int) (p2:aZ) (p3:Int):Tre Int:=
 .mat (mE p0) fun r1=>
 .cond (!r1)
  (.ret 1)
  (.mat (Jg p2) fun r2=>
  .cond (!r2)
   (.ret 1)
   (.mat (nH p0 p1) fun r3=>
   .cond (!decide (r3=0))
    (.ret r3)
    (.cond (!decide (p2.1=p3))
     (.ret 2)
     (let v4:=aF .i64 ((p2.2.1.length:Int)+p0.2.2.1)
     .cond (decide ((p0.2.1.length:Int)<v4))
      (.ret 4)
      (.ret 0)))))
def iK (p0:aS) (p1:List Int) (p2:aZ) (p3:Int):Option Int:=(qZ p0 p1 p2 p3).run some
-- more
theorem TH(g:TF3×List Int×Int×Unit)(w:List Int)(u:Int×List Int×Unit)(c:Int)(hw:w.length≤1048576)(hu:u.2.1.length≤1048576):iK g w u c=some (abQ g w u c):=by
 unfold iK qZ abQ
 rw [ah (YB g),Tre.aB]
 cases hg:Ib g
 ·rfl
 rw [Bool.not_true,cond_false,if_pos rfl,ah (aja u hu),Tre.aB]
 cases hs:abC u
 ·rfl
 have hl:=as4 hg hs
 rw [Int.add_comm] at hl
 rw [Bool.not_true,cond_false,if_pos rfl,ah (aoh g w hw),Tre.aB]
 by_cases h1:XL g w=0
 case neg=>rw [if_neg h1,decide_eq_false h1,Bool.not_false,cond_true,Tre.aI,aqN hg h1]
 rw [if_pos h1,decide_eq_true h1,Bool.not_true,cond_false,Tre.aB]
 by_cases h2:u.1=c
 case neg=>rw [decide_eq_false h2,if_neg h2];rfl
 rw [decide_eq_true h2,if_pos h2,Bool.not_true,cond_false]
 dsimp only
 rw [hl,Tre.aB]
 by_cases h3:(g.2.1.length:Int)<g.2.2.1+(u.2.1.length:Int)
 ·rw [decide_eq_true (by omega),if_pos h3];rfl
 ·rw [decide_eq_false (by omega),if_neg h3];rfl
def xK:Env:=⟨tau,[(45,wQ),(46,abT),(47,CQ),(25,jf)],[]⟩
def Lc:FnI:=fnI Try.f24 []
def uR (_:Bool) (_:Bool) (_:Bool) (_:aS) (_:List Int) (_:aZ) (_:Int):Int→ay:=fun r=>⟨(.i r),[],[]⟩
theorem J8:∀(zp0 zp1 zp2:Bool)(p0:aS)(p1:List Int)(p2:aZ)(p3:Int),bR xK Lc ⟨[(.imm zp0 bJ p0),(.imm zp1 .il p1),(.imm zp2 bQ p2),(.i p3)],[]⟩=(qZ p0 p1 p2 p3).run fun r=>some (uR zp0 zp1 zp2 p0 p1 p2 p3 r):=fun _ _ _ _ _ _ _=>by kernel_rfl
def Lb (av:List AV) (rs:List Root):Tre ay:=
 aD av fun a0_ av0=>
 aD av0 fun a1_ av1=>
 aD av1 fun a2_ av2=>
 aD av2 fun a3_ av3=>
 aM av3<|
 aM rs<|
 bG bJ a0_ fun z2 d1=>
 bG .il a1_ fun z4 d3=>
 bG bQ a2_ fun z6 d5=>
 aA true .n a3_ fun d7=>
 .mat (iK d1 d3 d5 d7) fun r=>.ret (uR z2 z4 z6 d1 d3 d5 d7 r)
def oU:Ctr:=dO [] Lb
theorem vN:Contract Try.prog .none 24 oU:=aC (V:=xK) aW (ak En awm (ak ajb ayq (ak PY ayr (ak jw abN aJ)))) Try.func24 bP fun _ _ _=>aK fun _ _=>aK fun _ _=>aK fun _ _=>aK fun _ _=>bA<|bA<|dM fun _ _=>dM fun _ _=>dM fun _ _=>aH fun _=>fun h=>by intros;subst_vars;exact bB (J8 _ _ _ _ _ _ _) h
-- shared
def Uu:Nat→Nat→Bool
 |0,_=>false
 |k+1,x=>(x.testBit k) ^^ Uu k x
def alL:Nat→Nat→Nat→Nat
 |0,p,_=>p
 |k+1,p,r=>cond (r.testBit p) p (alL k (p+1) r)
def pI(r:Nat):Nat:=alL 5 0 r
def axZ(n:Nat)(ns:List Nat):List Nat:=(List.range (2 ^ n)).filter fun x=>ns.all fun r=>!Uu 5 (r&&&x)
def oZ(ns:List Nat):Nat:=ns.foldl (fun a r=>a|||2 ^ pI r) 0
def at5(ns:List Nat)(c:Nat):Nat:=ns.foldl (fun v r=>cond (r.testBit c) (v|||2 ^ pI r) v) (2 ^ c)
def aa5(L:Nat)(ns:List Nat)(n:Nat):List Nat:=(List.range n).filterMap fun c=>cond (L.testBit c) none (some (at5 ns c))
def gjS(s:List Nat×List Nat)(c:Nat):List Nat×List Nat:=match s.2.find? (·.testBit c) with
 |none=>s
 |some r=>(s.1.map (gP c r)++[r],(s.2.erase r).map (gP c r))
def gjN(l:List Nat):List Nat:=((List.range 5).foldl gjS ([],l)).1
def Uw:List Nat→Bool
 |[]=>true
 |x::l=>(x != 0)&&(decide (x<32)&&(l.all (fun y=>decide (pI x<pI y)&&!x.testBit (pI y))&&Uw l))
def anm(n:Nat)(ns:List Nat):Bool:=
 let o:=aa5 (oZ ns) ns n
 let D:=gjN o
 let so:=lQ o
 let sd:=lQ D
 let a:=axZ n ns
 Uw D&&(D.all (fun d=>decide (d<2 ^ n))&&((D.length+ns.length == n)&&(o.all (fun x=>sd.contains x)&&(D.all (fun x=>so.contains x)&&(a.all (fun x=>sd.contains x)&&D.all (fun x=>a.contains x))))))
def UZ(n:Nat):Nat→List (List Nat)
 |0=>[[]]
 |k+1=>UZ n k++(UZ n k).flatMap fun t=>((List.range (2 ^ n)).filter fun r=>pI r == n-(k+1)&&r != 0).map (·::t)
theorem ax2:((UZ 1 1).all fun ns=>!Uw ns||anm 1 ns)=true:=by kernel_rfl
theorem ax3:((UZ 2 2).all fun ns=>!Uw ns||anm 2 ns)=true:=by kernel_rfl
theorem ax4:((UZ 3 3).all fun ns=>!Uw ns||anm 3 ns)=true:=by kernel_rfl
theorem ax5:((UZ 4 4).all fun ns=>!Uw ns||anm 4 ns)=true:=by kernel_rfl
theorem ax6:((UZ 5 5).all fun ns=>!Uw ns||anm 5 ns)=true:=by kernel_rfl
theorem aoo:∀(k p:Nat){r:Nat},r<2 ^ (p+k)→(∀q,q<p→r.testBit q=false)→r≠0→Lo r (alL k p r)∧alL k p r<p+k:=by
 intro k
 induction k with
 |zero=>
  intro p r h h0 hn
  exact absurd (E8 h h0) hn
 |succ k ih=>
  intro p r h h0 hn
  unfold alL
  cases hb:r.testBit p
  ·obtain ⟨h1,h2⟩:=ih (p+1) (r:=r) (by rw [show p+1+k=p+(k+1) by omega];exact h) (fun q hq=>by
    rcases Nat.lt_succ_iff_lt_or_eq.1 hq with h1|h1
    ·exact h0 q h1
    ·rw [h1];exact hb) hn
   exact ⟨h1,by rw [cond_false];omega⟩
  ·exact ⟨⟨hb,h0⟩,by rw [cond_true];omega⟩
theorem GA{r:Nat}(h:r<32)(hn:r≠0):Lo r (pI r)∧pI r<5:=by
 have:=aoo 5 0 (r:=r) h (fun q hq=>absurd hq (Nat.not_lt_zero q)) hn
 exact ⟨this.1,by have:=this.2;unfold pI;omega⟩
theorem att{r p:Nat}(h:Lo r p):r≠0:=fun h0=>by
 have:=h.1
 rw [h0,Nat.zero_testBit] at this
 cases this
theorem atU:∀{l:List Nat},Uw l=true→Red 5 (l.map fun x=>(pI x,x)):=by
 intro l
 induction l with
 |nil=>intro _;exact ⟨fun a ha=>(by cases ha),.nil⟩
 |cons x l ih=>
  intro h
  unfold Uw at h
  simp only [Bool.and_eq_true,bne_iff_ne,decide_eq_true_eq,List.all_eq_true,Bool.not_eq_true'] at h
  obtain ⟨h1,h2,h3,h4⟩:=h
  have hl:=GA h2 h1
  have hr:=ih h4
  refine ⟨fun a ha=>?_,List.pairwise_cons.2 ⟨fun a ha=>?_,hr.2⟩⟩
  ·rcases List.mem_cons.1 ha with rfl|ha
   ·exact ⟨hl.2,hl.1⟩
   ·exact hr.1 a ha
  ·obtain ⟨y,hy,rfl⟩:=List.mem_map.1 ha
   exact h3 y hy
theorem atX:∀{P:List (Nat×Nat)}{c:Nat},Red c P→(∀a∈P,a.2<32)→Uw (P.map (·.2))=true∧∀a∈P,pI a.2=a.1:=by
 intro P
 induction P with
 |nil=>intro c _ _;exact ⟨rfl,fun a ha=>(by cases ha)⟩
 |cons x l ih=>
  intro c h hb
  have hx:=h.1 x (List.mem_cons_self ..)
  obtain ⟨h1,h2⟩:=ih h.tail fun a ha=>hb a (.tail _ ha)
  have hx0:=att hx.2
  have hxl:=(GA (hb x (List.mem_cons_self ..)) hx0).1.uniq hx.2
  refine ⟨?_,fun a ha=>?_⟩
  ·show Uw (x.2::l.map (·.2))=true
   unfold Uw
   simp only [Bool.and_eq_true,bne_iff_ne,decide_eq_true_eq,List.all_eq_true,Bool.not_eq_true']
   refine ⟨hx0,hb x (List.mem_cons_self ..),fun y hy=>?_,h1⟩
   obtain ⟨a,ha,rfl⟩:=List.mem_map.1 hy
   have:=(List.pairwise_cons.1 h.2).1 a ha
   rw [hxl,h2 a ha]
   exact this
  ·rcases List.mem_cons.1 ha with rfl|ha
   ·exact hxl
   ·exact h2 a ha
theorem asT{n:Nat}:∀(k:Nat){l:List Nat},k≤n→Uw l=true→(∀r∈l,r<2 ^ n∧n-k≤pI r∧pI r<n)→l∈UZ n k:=by
 intro k
 induction k with
 |zero=>
  intro l _ _ h
  cases l with
  |nil=>exact List.mem_singleton.2 rfl
  |cons x l=>have:=h x (List.mem_cons_self ..);omega
 |succ k ih=>
  intro l hk hr h
  unfold UZ
  rw [List.mem_append]
  cases l with
  |nil=>exact .inl (ih (by omega) hr fun r hr=>by cases hr)
  |cons x l=>
   have hx:=h x (List.mem_cons_self ..)
   unfold Uw at hr
   simp only [Bool.and_eq_true,bne_iff_ne,decide_eq_true_eq,List.all_eq_true,Bool.not_eq_true'] at hr
   obtain ⟨h1,h2,h3,h4⟩:=hr
   by_cases he:pI x=n-(k+1)
   ·right
    refine List.mem_flatMap.2 ⟨l,ih (by omega) h4 fun r hr=>?_,List.mem_map.2 ⟨x,List.mem_filter.2 ⟨List.mem_range.2 hx.1,?_⟩,rfl⟩⟩
    ·have:=h r (.tail _ hr)
     have:=(h3 r hr).1
     refine ⟨(h r (.tail _ hr)).1,by omega,by omega⟩
    ·simp [he,h1]
   ·left
    refine ih (by omega) ?_ fun r hr=>?_
    ·unfold Uw
     simp only [Bool.and_eq_true,bne_iff_ne,decide_eq_true_eq,List.all_eq_true,Bool.not_eq_true']
     exact ⟨h1,h2,h3,h4⟩
    ·rcases List.mem_cons.1 hr with rfl|hr
     ·exact ⟨hx.1,by omega,hx.2.2⟩
     ·have:=h r (.tail _ hr)
      have:=(h3 r hr).1
      exact ⟨(h r (.tail _ hr)).1,by omega,by omega⟩
theorem auN{n:Nat}(h1:1≤n)(h5:n≤5):((UZ n n).all fun ns=>!Uw ns||anm n ns)=true:=by
 match n,h1,h5 with
 |1,_,_=>exact ax2
 |2,_,_=>exact ax3
 |3,_,_=>exact ax4
 |4,_,_=>exact ax5
 |5,_,_=>exact ax6
theorem avr{r n:Nat}(h:r<2 ^ n)(h5:n≤5)(hn:r≠0):pI r<n:=by
 have h32:r<32:=Nat.lt_of_lt_of_le h (Nat.pow_le_pow_right (n:=2) (by decide) h5)
 have hl:=GA h32 hn
 apply Classical.byContradiction
 intro hc
 have h2:2 ^ pI r≤r:=Nat.ge_two_pow_of_testBit hl.1.1
 have h3:2 ^ n≤2 ^ pI r:=Nat.pow_le_pow_right (n:=2) (by decide) (by omega)
 omega
theorem auS{n:Nat}(h1:1≤n)(h5:n≤5){ns:List Nat}(h:iG ns ns)(hb:∀r∈ns,r<2 ^ n):∃D,iG (aa5 (oZ ns) ns n) D∧iG (axZ n ns) D∧D.length+ns.length=n∧(∀d∈D,d<2 ^ n)∧iG D D∧∀d∈D,∀r∈ns,Uu 5 (r&&&d)=false:=by
 obtain ⟨P,c,hR,rfl,_⟩:=h
 have h32:∀a∈P,a.2<32:=fun a ha=>Nat.lt_of_lt_of_le (hb _ (List.mem_map_of_mem ha)) (Nat.pow_le_pow_right (n:=2) (by decide) h5)
 obtain ⟨hr,_⟩:=atX hR h32
 have hm:=asT (n:=n) n (Nat.le_refl _) hr fun r hr=>⟨hb r hr,by omega,by
  obtain ⟨a,ha,rfl⟩:=List.mem_map.1 hr
  exact avr (hb _ (List.mem_map_of_mem ha)) h5 (att (hR.1 a ha).2)⟩
 have hk:=List.all_eq_true.1 (auN h1 h5) _ hm
 rw [hr,Bool.not_true,Bool.false_or] at hk
 unfold anm at hk
 simp only [Bool.and_eq_true,List.all_eq_true,decide_eq_true_eq,beq_iff_eq,List.contains_iff_mem] at hk
 obtain ⟨k1,k2,k3,k4,k5,k6,k7⟩:=hk
 have hRD:=atU k1
 have hmap:∀l:List Nat,(l.map fun x=>(pI x,x)).map (·.2)=l:=fun l=>by
  rw [List.map_map];exact List.map_id l
 refine ⟨_,⟨_,5,hRD,hmap _,fun v=>⟨fun hv=>hv.trans fun r hr=>OD (k4 r hr),fun hv=>hv.trans fun r hr=>OD (k5 r hr)⟩⟩,⟨_,5,hRD,hmap _,fun v=>⟨fun hv=>hv.trans fun r hr=>OD (k6 r hr),fun hv=>hv.trans fun r hr=>Sp.mem (k7 r hr)⟩⟩,k3,k2,⟨_,5,hRD,hmap _,fun v=>Iff.rfl⟩,fun d hd r hr=>?_⟩
 have:=List.all_eq_true.1 (List.mem_filter.1 (k7 d hd)).2 r hr
 simpa using this
theorem apX{a b:Nat}(ha:a<2 ^ 63)(hb:b<2 ^ 63):ior .i64 (a:Int) (b:Int)=((a|||b:Nat):Int):=by
 have hx:a|||b<2 ^ 63:=Nat.or_lt_two_pow ha hb
 have:(BitVec.ofInt 64 (a:Int)|||BitVec.ofInt 64 (b:Int)).toNat=a|||b:=by
  rw [BitVec.toNat_or,Fj (by omega),Fj (by omega)]
 unfold ior
 show aF .i64 (((BitVec.ofInt 64 (a:Int)|||BitVec.ofInt 64 (b:Int)).toNat:Nat):Int)=_
 rw [this,xU (by omega)]
theorem av6(l:List Nat)(x:Nat):up (l++[x])=up l++[(x:Int)]:=by simp [up]
theorem apa{l D:List Nat}(h:iG l D):JV (up l)=up D:=by unfold JV;rw [up_toNat,Z6 h]
def aaF (bC:Int):Int→Tre (Int ⊕ Int):=fun s2=>
 .ite (0≤s2)<|
 let v1:=Gw .i64 (Kl .i64 bC s2) 1
 .cond (decide (v1=0))
  (.ret (.inl (aF .i64 (s2+1))))
  (.ret (.inr s2))
def as8 (p0:Int):Tre Int:=
 .mat (aO (aaF p0) 0) fun l2=>
 .ret l2
def Yh (p0:Int):Option Int:=(as8 p0).run some
-- more
theorem alA:∀x:Nat,x<32→x≠0→Yh (x:Int)=some ((pI x:Nat):Int)
 |0,_,h=>absurd rfl h
 |1,_,_=>by kernel_rfl
 |2,_,_=>by kernel_rfl
 |3,_,_=>by kernel_rfl
 |4,_,_=>by kernel_rfl
 |5,_,_=>by kernel_rfl
 |6,_,_=>by kernel_rfl
 |7,_,_=>by kernel_rfl
 |8,_,_=>by kernel_rfl
 |9,_,_=>by kernel_rfl
 |10,_,_=>by kernel_rfl
 |11,_,_=>by kernel_rfl
 |12,_,_=>by kernel_rfl
 |13,_,_=>by kernel_rfl
 |14,_,_=>by kernel_rfl
 |15,_,_=>by kernel_rfl
 |16,_,_=>by kernel_rfl
 |17,_,_=>by kernel_rfl
 |18,_,_=>by kernel_rfl
 |19,_,_=>by kernel_rfl
 |20,_,_=>by kernel_rfl
 |21,_,_=>by kernel_rfl
 |22,_,_=>by kernel_rfl
 |23,_,_=>by kernel_rfl
 |24,_,_=>by kernel_rfl
 |25,_,_=>by kernel_rfl
 |26,_,_=>by kernel_rfl
 |27,_,_=>by kernel_rfl
 |28,_,_=>by kernel_rfl
 |29,_,_=>by kernel_rfl
 |30,_,_=>by kernel_rfl
 |31,_,_=>by kernel_rfl
 |n+32,h,_=>absurd h (by omega)
def Yi:Env:=⟨tau,[],[]⟩
def ald:Code:=(Try.f49.body).getD .skip
def Yj (bC:Int):Int→St:=fun x=>bX [(0,(.i bC)),(3,(.i x))] []
def U8 (_:Int):Int→Ex×St:=fun x=>(.exit 0,bX [(3,(.i x))] [])
def alf (s:St):Tre (Ex×St):=
 aA true .n (s.tmps 0) fun d2=>
 aA true .n (s.tmps 3) fun d4=>
 .mat (aO (aaF d2) d4) fun x=>.ret (U8 d2 x)
def Jo:bD:=⟨([0,3],[]),([3],[]),alf⟩
def aeP:List (Nat×bD):=[(2,Jo)]
theorem aeQ:∀(bC x:Int)(c:St→Option (Ex×St)),den Yi aeP (aV ald 0) (Yj bC x) (cu Jo.kp Jo.kx c)=(aaF bC x).run (cB (Yj bC) (U8 bC) c):=fun _ _ _=>by
 kernel_rfl
theorem ajh:bU Yi aeP (aV ald 0) Jo:=dh fun _ _ _=>aH fun _=>aH fun _=>fun h e3 e1=>bS (aeQ _) h (by subst_vars;exact aP rfl rfl ⟨e1,e3,trivial⟩ trivial)
def ata:FnI:=fnI Try.f49 aeP
def aeR (_:Int):Int→ay:=fun r=>⟨(.i r),[],[]⟩
theorem aqR:∀(p0:Int),bR Yi ata ⟨[(.i p0)],[]⟩=(as8 p0).run fun r=>some (aeR p0 r):=fun _=>by kernel_rfl
def as9 (av:List AV) (rs:List Root):Tre ay:=
 aD av fun a0_ av0=>
 aM av0<|
 aM rs<|
 aA true .n a0_ fun d1=>
 .mat (Yh d1) fun r=>.ret (aeR d1 r)
def ale:Ctr:=dO [] as9
theorem aqS:Contract Try.prog .none 49 ale:=aC (V:=Yi) aW aJ Try.func49 (bL (n:=1) fun k hk=>by
 match k,hk with
 |0,_=>exact bO (id:=2) ajh) fun _ _ _=>aK fun _ _=>bA<|bA<|aH fun _=>fun h=>by intros;subst_vars;exact bB (aqR _) h
def J9 (p0:aZ):Tre (Int×(List Int)):=
 .mat (XE p0.2.1) fun r1=>
 .ret (p0.1,r1)
def DW (p0:aZ):Option (Int×(List Int)):=(J9 p0).run some
def OX:Env:=⟨tau,[(48,xR)],[]⟩
def acX:FnI:=fnI Try.f50 []
def Jh (_:Bool) (_:aZ):(Int×(List Int))→ay:=fun r=>⟨(.pair (.i r.1) (.pair (.ref (1,0) []) (.imm true .unit ()))),[],[⟨false,.il,.own,r.2⟩]⟩
theorem aaw:∀(zp0:Bool)(p0:aZ),bR OX acX ⟨[(.imm zp0 bQ p0)],[]⟩=(J9 p0).run fun r=>some (Jh zp0 p0 r):=fun _ _=>by kernel_rfl
def acW (av:List AV) (rs:List Root):Tre ay:=
 aD av fun a0_ av0=>
 aM av0<|
 aM rs<|
 bG bQ a0_ fun z2 d1=>
 .mat (DW d1) fun r=>.ret (Jh z2 d1 r)
def OY:Ctr:=dO [] acW
theorem aax:Contract Try.prog .none 50 OY:=aC (V:=OX) aW (ak zo ak0 aJ) Try.func50 bP fun _ _ _=>aK fun _ _=>bA<|bA<|dM fun _ _=>fun h=>by intros;subst_vars;exact bB (aaw _ _) h
def jM (bq:Int) (eZ:List Int):(Int×Int)→Tre ((Int×Int) ⊕ Int):=fun s3=>
 .cond (decide (s3.2<bq))
  (.ite (0≤s3.2∧s3.2<(eZ.length:Int))<|
  .mat (eZ[s3.2.toNat]?) fun x2=>
  .mat (Yh x2) fun r3=>
  .ite (0≤r3)<|
  let v4:=ior .i64 s3.1 (yu .i64 1 r3)
  .ret (.inl (v4,aF .i64 (s3.2+1))))
  (.ret (.inr s3.1))
def jl (EG:Int) (IQ:Int) (yF:List Int):(Int×Int)→Tre ((Int×Int) ⊕ Int):=fun s14=>
 .cond (decide (s14.2<IQ))
  (.ite (0≤s14.2∧s14.2<(yF.length:Int))<|
  .mat (yF[s14.2.toNat]?) fun x7=>
  .ite (0≤EG)<|
  let v8:=Gw .i64 (Kl .i64 x7 EG) 1
  .cond (decide (v8=1))
   (.mat (Yh x7) fun r9=>
   .ite (0≤r9)<|
   let v10:=ior .i64 s14.1 (yu .i64 1 r9)
   .ret (.inl (v10,aF .i64 (s14.2+1))))
   (.ret (.inl (s14.1,aF .i64 (s14.2+1)))))
  (.ret (.inr s14.1))
def jN (pR:Int) (u7:Int) (Ni:List Int):(Int×aZ)→Tre ((Int×aZ) ⊕ aZ):=fun s9=>
 .cond (decide (s9.1<u7))
  (.ite (0≤s9.1)<|
  let v6:=Gw .i64 (Kl .i64 pR s9.1) 1
  .cond (decide (v6=1))
   (.ret (.inl (aF .i64 (s9.1+1),s9.2)))
   (.ite (0≤s9.1)<|
   .mat (aO (jl s9.1 (Ni.length:Int) Ni) (yu .i64 1 s9.1,0)) fun l11=>
   .ite ((s9.2.2.1.length+1)*8≤bE∧1≤8)<|
   .ret (.inl (aF .i64 (s9.1+1),(s9.2.1,(s9.2.2.1++([l11]),s9.2.2.2))))))
  (.ret (.inr s9.2))
def DX (p0:aZ):Tre (Int×(List Int)):=
 .mat (XE p0.2.1) fun r1=>
 .mat (aO (jM (r1.length:Int) r1) (0,0)) fun l5=>
 .mat (aO (jN l5 p0.1 r1) (0,(p0.1,([],())))) fun l12=>
 .mat (DW l12) fun r13=>
 .ret (r13.1,r13.2)
def rH (p0:aZ):Option (Int×(List Int)):=(DX p0).run some
-- more
theorem awX{a p:Nat}(ha:a<32)(hp:p<5):a|||2 ^ p<32:=Nat.or_lt_two_pow (n:=5) ha (Nat.pow_lt_pow_right (by decide) hp)
theorem alM{ns:List Nat}(hb:∀r∈ns,r<32∧r≠0):∀(l:List Nat)(a:Nat),a<32→(∀r∈l,r∈ns)→l.foldl (fun a r=>a|||2 ^ pI r) a<32:=by
 intro l
 induction l with
 |nil=>intro a h _;exact h
 |cons x l ih=>
  intro a h hs
  have hx:=hb x (hs x (List.mem_cons_self ..))
  exact ih _ (awX h (GA hx.1 hx.2).2) fun r hr=>hs r (.tail _ hr)
theorem at6{ns:List Nat}{c:Nat}(hb:∀r∈ns,r<32∧r≠0):∀(l:List Nat)(a:Nat),a<32→(∀r∈l,r∈ns)→l.foldl (fun v r=>cond (r.testBit c) (v|||2 ^ pI r) v) a<32:=by
 intro l
 induction l with
 |nil=>intro a h _;exact h
 |cons x l ih=>
  intro a h hs
  have hx:=hb x (hs x (List.mem_cons_self ..))
  refine ih _ ?_ fun r hr=>hs r (.tail _ hr)
  show cond (x.testBit c) (a|||2 ^ pI x) a<32
  cases x.testBit c
  ·exact h
  ·exact awX h (GA hx.1 hx.2).2
theorem aq2{ns:List Nat}{c:Nat}(hc:c<5)(hb:∀r∈ns,r<32∧r≠0)(hl:ns.length≤1000):aO (jl (c:Int) ((up ns).length:Int) (up ns)) (yu .i64 1 (c:Int),0)=some ((at5 ns c:Nat):Int):=by
 rw [YA (by omega)]
 refine dZ (fun i=>((((ns.take i).foldl (fun v r=>cond (r.testBit c) (v|||2 ^ pI r) v) (2 ^ c):Nat):Int),(i:Int))) ns.length _ (fun i hi=>?_) ?_
 ·have hg:ns[i]?=some ns[i]:=List.getElem?_eq_getElem hi
  have hx:=hb _ (List.getElem_mem hi)
  have hlo:=GA hx.1 hx.2
  have hv:=at6 (c:=c) hb (ns.take i) (2 ^ c) (Nat.pow_lt_pow_right (by decide) hc) fun r hr=>List.mem_of_mem_take hr
  have h2:2 ^ pI ns[i]<32:=Nat.pow_lt_pow_right (a:=2) (n:=5) (by decide) hlo.2
  have hbit:=qE (a:=ns[i]) (j:=c) (by omega) (by omega)
  unfold oL at hbit
  unfold jl
  dsimp only
  rw [fU (VD hg),Tre.run_ite,if_pos (by omega),hbit,Tre.aB,List.take_add_one,hg,Option.toList_some,List.foldl_append,List.foldl_cons,List.foldl_nil]
  cases ns[i].testBit c
  ·rw [cond_false,cond_false,Tre.aI,aU (by omega)]
  ·rw [cond_true,cond_true,ah (alA _ hx.1 hx.2),Tre.run_ite,if_pos (by omega),YA (by omega),apX (by omega) (by omega),Tre.aI,aU (by omega)]
 ·unfold jl
  dsimp only
  rw [fC,eY,Tre.aI,List.take_length]
  rfl
theorem alz{ns:List Nat}(hb:∀r∈ns,r<32∧r≠0)(hl:ns.length≤1000):aO (jM ((up ns).length:Int) (up ns)) (0,0)=some ((oZ ns:Nat):Int):=by
 refine dZ (fun i=>((((ns.take i).foldl (fun a r=>a|||2 ^ pI r) 0:Nat):Int),(i:Int))) ns.length _ (fun i hi=>?_) ?_
 ·have hg:ns[i]?=some ns[i]:=List.getElem?_eq_getElem hi
  have hx:=hb _ (List.getElem_mem hi)
  have hlo:=GA hx.1 hx.2
  have hv:=alM hb (ns.take i) 0 (by decide) fun r hr=>List.mem_of_mem_take hr
  have h2:2 ^ pI ns[i]<32:=Nat.pow_lt_pow_right (a:=2) (n:=5) (by decide) hlo.2
  unfold jM
  dsimp only
  rw [fU (VD hg),ah (alA _ hx.1 hx.2),Tre.run_ite,if_pos (by omega),YA (by omega),apX (by omega) (by omega),Tre.aI,aU (by omega),List.take_add_one,hg,Option.toList_some,List.foldl_append]
  rfl
 ·unfold jM
  dsimp only
  rw [fC,eY,Tre.aI,List.take_length]
  rfl
theorem ati{n:Nat}{ns D:List Nat}(h1:1≤n)(h5:n≤5)(he:iG ns ns)(hb:∀r∈ns,r<2 ^ n)(hl:ns.length≤1000)(hD:iG (aa5 (oZ ns) ns n) D):rH ((n:Int),up ns,())=some ((n:Int),up D):=by
 have hp:2 ^ n≤32:=Nat.pow_le_pow_right (n:=2) (by decide) h5
 have hb2:∀r∈ns,r<32∧r≠0:=fun r hr=>by
  obtain ⟨P,c,hR,rfl,_⟩:=he
  obtain ⟨a,ha,rfl⟩:=List.mem_map.1 hr
  exact ⟨Nat.lt_of_lt_of_le (hb _ hr) hp,att (hR.1 a ha).2⟩
 have hL:=alM hb2 ns 0 (by decide) fun r hr=>hr
 have hro:∀c,c<5→at5 ns c<32:=fun c hc=>at6 hb2 ns (2 ^ c) (Nat.pow_lt_pow_right (by decide) hc) fun r hr=>hr
 have hle:∀i,(aa5 (oZ ns) ns i).length≤i:=fun i=>by
  unfold aa5
  have:=List.length_filterMap_le (fun c=>cond ((oZ ns).testBit c) none (some (at5 ns c))) (List.range i)
  rw [List.length_range] at this
  exact this
 have hout:∀x∈aa5 (oZ ns) ns n,x<2 ^ 62:=fun x hx=>by
  obtain ⟨c,hc,hx⟩:=List.mem_filterMap.1 hx
  cases hq:(oZ ns).testBit c
  ·rw [hq,cond_false] at hx
   have:=hro c (by have:=List.mem_range.1 hc;omega)
   rw [←Option.some.inj hx]
   omega
  ·rw [hq,cond_true] at hx;cases hx
 have hn:=hle n
 unfold rH DX
 dsimp only
 rw [ah (show XE (up ns)=some (up ns) from by
  unfold XE
  rw [kG (LD (by omega) fun r hr=>by have:=(hb2 r hr).1;omega),apa he])]
 rw [ah (alz hb2 hl)]
 rw [ah (show aO (jN ((oZ ns:Nat):Int) (n:Int) (up ns)) (0,((n:Int),[],()))=some ((n:Int),up (aa5 (oZ ns) ns n),()) from ?_)]
 ·unfold DW J9
  rw [ah (show (Tre.mat (XE (up (aa5 (oZ ns) ns n))) fun r1=>Tre.ret ((n:Int),r1)).run some=some ((n:Int),up D) from by
   unfold XE
   rw [ah (kG (LD (by omega) hout)),Tre.aI,apa hD]),Tre.aI]
 ·refine dZ (fun c=>((c:Int),((n:Int),up (aa5 (oZ ns) ns c),()))) n _ (fun c hc=>?_) ?_
  ·have hbit:=qE (a:=oZ ns) (j:=c) (by have:oZ ns<32:=hL;omega) (by omega)
   unfold oL at hbit
   have hlc:=hle c
   have hsn:aa5 (oZ ns) ns (c+1)=aa5 (oZ ns) ns c++(cond ((oZ ns).testBit c) none (some (at5 ns c))).toList:=by
    unfold aa5
    rw [List.range_succ,List.filterMap_append,List.filterMap_cons,List.filterMap_nil]
    cases (oZ ns).testBit c<;>rfl
   unfold jN
   dsimp only
   rw [Tre.aB,decide_eq_true (by omega),cond_true,Tre.run_ite,if_pos (by omega),hbit,Tre.aB,hsn]
   cases (oZ ns).testBit c
   ·rw [cond_false,cond_false,Tre.run_ite,if_pos (by omega),ah (aq2 (by omega) hb2 hl),Tre.run_ite,if_pos (by rw [fC];unfold bE;omega),Tre.aI,aU (by omega),Option.toList_some,av6]
   ·rw [cond_true,cond_true,Tre.aI,aU (by omega),Option.toList_none,List.append_nil]
  ·unfold jN
   dsimp only
   rw [Tre.aB,decide_eq_false (by omega),cond_false,Tre.aI]
def gT:Env:=⟨tau,[(48,xR),(49,ale),(50,OY)],[]⟩
def kR:Code:=(Try.f26.body).getD .skip
def Ah (dQ:Bool) (bq:Int) (cZ:aZ) (dK:aZ) (eZ:List Int):(Int×Int)→St:=fun x=>bX [(1,(.ptr (3,0) [])),(2,(.ptr (4,0) [])),(3,(.ref (5,0) [])),(4,(.i x.1)),(15,(.ref (5,0) [])),(16,(.i bq)),(17,(.i x.2))] [((3,0),some ⟨true,bQ,(.imm dQ),cZ⟩),((4,0),some ⟨true,bQ,.own,dK⟩),((5,0),some ⟨false,.il,.own,eZ⟩)]
def y5 (dQ:Bool) (_:Int) (cZ:aZ) (dK:aZ) (eZ:List Int):Int→Ex×St:=fun x=>(.exit 0,bX [(1,(.ptr (3,0) [])),(2,(.ptr (4,0) [])),(3,(.ref (5,0) [])),(4,(.i x))] [((3,0),some ⟨true,bQ,(.imm dQ),cZ⟩),((4,0),some ⟨true,bQ,.own,dK⟩),((5,0),some ⟨false,.il,.own,eZ⟩)])
def Ru (s:St):Tre (Ex×St):=
 dH (3,0) [] (s.tmps 1)<|
 dH (4,0) [] (s.tmps 2)<|
 dW (5,0) [] (s.tmps 3)<|
 aA true .n (s.tmps 4) fun d5=>
 dW (5,0) [] (s.tmps 15)<|
 aA true .n (s.tmps 16) fun d8=>
 aA true .n (s.tmps 17) fun d10=>
 aX true bQ (s.roots (3,0)) fun m12 d13=>
 fB m12 fun z14=>
 aX true bQ (s.roots (4,0)) fun m16 d17=>
 asM .own m16<|
 aX false .il (s.roots (5,0)) fun m19 d20=>
 asM .own m19<|
 .mat (aO (jM d8 d20) (d5,d10)) fun x=>.ret (y5 z14 d8 d13 d17 d20 x)
def nI:bD:=⟨([1,2,3,4,15,16,17],[(3,0),(4,0),(5,0)]),([1,2,3,4],[(3,0),(4,0),(5,0)]),Ru⟩
def yZ (MO:Int) (EG:Int) (MP:Int) (MQ:Int) (IQ:Int) (MR:aZ) (yF:List Int) (MS:aZ):(Int×Int)→St:=fun x=>bX [(2,(.ptr (4,0) [])),(3,(.ref (5,0) [])),(4,(.i MO)),(7,(.ptr (9,0) [])),(8,(.i EG)),(9,(.i x.1)),(31,(.i MP)),(32,(.i MQ)),(42,(.ref (5,0) [])),(43,(.i IQ)),(44,(.i x.2))] [((4,0),some ⟨true,bQ,.own,MR⟩),((5,0),some ⟨false,.il,.own,yF⟩),((9,0),some ⟨true,bQ,.own,MS⟩)]
def xL (MO:Int) (_:Int) (MP:Int) (MQ:Int) (_:Int) (MR:aZ) (yF:List Int) (MS:aZ):Int→Ex×St:=fun x=>(.exit 4,bX [(2,(.ptr (4,0) [])),(3,(.ref (5,0) [])),(4,(.i MO)),(7,(.ptr (9,0) [])),(9,(.i x)),(31,(.i MP)),(32,(.i MQ))] [((4,0),some ⟨true,bQ,.own,MR⟩),((5,0),some ⟨false,.il,.own,yF⟩),((9,0),some ⟨true,bQ,.own,MS⟩)])
def P5 (s:St):Tre (Ex×St):=
 dH (4,0) [] (s.tmps 2)<|
 dW (5,0) [] (s.tmps 3)<|
 aA true .n (s.tmps 4) fun d4=>
 dH (9,0) [] (s.tmps 7)<|
 aA true .n (s.tmps 8) fun d7=>
 aA true .n (s.tmps 9) fun d9=>
 aA true .n (s.tmps 31) fun d11=>
 aA true .n (s.tmps 32) fun d13=>
 dW (5,0) [] (s.tmps 42)<|
 aA true .n (s.tmps 43) fun d16=>
 aA true .n (s.tmps 44) fun d18=>
 aX true bQ (s.roots (4,0)) fun m20 d21=>
 asM .own m20<|
 aX false .il (s.roots (5,0)) fun m23 d24=>
 asM .own m23<|
 aX true bQ (s.roots (9,0)) fun m26 d27=>
 asM .own m26<|
 .mat (aO (jl d7 d16 d24) (d9,d18)) fun x=>.ret (xL d4 d7 d11 d13 d16 d21 d24 d27 x)
def mM:bD:=⟨([2,3,4,7,8,9,31,32,42,43,44],[(4,0),(5,0),(9,0)]),([2,3,4,7,9,31,32],[(4,0),(5,0),(9,0)]),P5⟩
def Ai (pR:Int) (u7:Int) (vg:aZ) (Ni:List Int):(Int×aZ)→St:=fun x=>bX [(2,(.ptr (4,0) [])),(3,(.ref (5,0) [])),(4,(.i pR)),(7,(.ptr (9,0) [])),(31,(.i u7)),(32,(.i x.1))] [((4,0),some ⟨true,bQ,.own,vg⟩),((5,0),some ⟨false,.il,.own,Ni⟩),((9,0),some ⟨true,bQ,.own,x.2⟩)]
def y7 (_:Int) (_:Int) (vg:aZ) (_:List Int):aZ→Ex×St:=fun x=>(.exit 2,bX [(2,(.ptr (4,0) [])),(7,(.ptr (9,0) []))] [((4,0),some ⟨true,bQ,.own,vg⟩),((9,0),some ⟨true,bQ,.own,x⟩)])
def Rv (s:St):Tre (Ex×St):=
 dH (4,0) [] (s.tmps 2)<|
 dW (5,0) [] (s.tmps 3)<|
 aA true .n (s.tmps 4) fun d4=>
 dH (9,0) [] (s.tmps 7)<|
 aA true .n (s.tmps 31) fun d7=>
 aA true .n (s.tmps 32) fun d9=>
 aX true bQ (s.roots (4,0)) fun m11 d12=>
 asM .own m11<|
 aX false .il (s.roots (5,0)) fun m14 d15=>
 asM .own m14<|
 aX true bQ (s.roots (9,0)) fun m17 d18=>
 asM .own m17<|
 .mat (aO (jN d4 d7 d15) (d9,d18)) fun x=>.ret (y7 d4 d7 d12 d15 x)
def nJ:bD:=⟨([2,3,4,7,31,32],[(4,0),(5,0),(9,0)]),([2,7],[(4,0),(9,0)]),Rv⟩
def jd:List (Nat×bD):=[(3,nI),(14,mM),(9,nJ)]
theorem Lf:∀(dQ:Bool)(bq:Int)(cZ dK:aZ)(eZ:List Int)(x:(Int×Int))(c:St→Option (Ex×St)),den gT jd (aV kR 0) (Ah dQ bq cZ dK eZ x) (cu nI.kp nI.kx c)=(jM bq eZ x).run (cB (Ah dQ bq cZ dK eZ) (y5 dQ bq cZ dK eZ) c):=fun _ _ _ _ _ _ _=>by
 kernel_rfl
theorem P6:bU gT jd (aV kR 0) nI:=dh fun _ _ _=>fJ<|fJ<|jk<|aH fun _=>jk<|aH fun _=>aH fun _=>bN fun _ _=>ku fun _=>bN fun _ _=>tM<|bN fun _ _=>tM<|fun h _ e18 _ e15 _ e11 e9 e7 e6 e4 e3 e2 e1=>bS (Lf _ _ _ _ _) h (by subst_vars;exact aP rfl rfl ⟨e1,e2,e3,e4,e6,e7,e9,trivial⟩ ⟨e11,e15,e18,trivial⟩)
theorem Ka:∀(MO EG MP MQ IQ:Int)(MR:aZ)(yF:List Int)(MS:aZ)(x:(Int×Int))(c:St→Option (Ex×St)),den gT jd (aV kR 2) (yZ MO EG MP MQ IQ MR yF MS x) (cu mM.kp mM.kx c)=(jl EG IQ yF x).run (cB (yZ MO EG MP MQ IQ MR yF MS) (xL MO EG MP MQ IQ MR yF MS) c):=fun _ _ _ _ _ _ _ _ _ _=>by
 kernel_rfl
theorem Nv:bU gT jd (aV kR 2) mM:=dh fun _ _ _=>fJ<|jk<|aH fun _=>fJ<|aH fun _=>aH fun _=>aH fun _=>aH fun _=>jk<|aH fun _=>aH fun _=>bN fun _ _=>tM<|bN fun _ _=>tM<|bN fun _ _=>tM<|fun h _ e25 _ e22 _ e19 e17 e15 e14 e12 e10 e8 e6 e5 e3 e2 e1=>bS (Ka _ _ _ _ _ _ _ _) h (by subst_vars;exact aP rfl rfl ⟨e1,e2,e3,e5,e6,e8,e10,e12,e14,e15,e17,trivial⟩ ⟨e19,e22,e25,trivial⟩)
theorem Lg:∀(pR u7:Int)(vg:aZ)(Ni:List Int)(x:(Int×aZ))(c:St→Option (Ex×St)),den gT jd (aV kR 1) (Ai pR u7 vg Ni x) (cu nJ.kp nJ.kx c)=(jN pR u7 Ni x).run (cB (Ai pR u7 vg Ni) (y7 pR u7 vg Ni) c):=fun _ _ _ _ _ _=>by
 kernel_rfl
theorem P7:bU gT jd (aV kR 1) nJ:=dh fun _ _ _=>fJ<|jk<|aH fun _=>fJ<|aH fun _=>aH fun _=>bN fun _ _=>tM<|bN fun _ _=>tM<|bN fun _ _=>tM<|fun h _ e16 _ e13 _ e10 e8 e6 e5 e3 e2 e1=>bS (Lg _ _ _ _) h (by subst_vars;exact aP rfl rfl ⟨e1,e2,e3,e5,e6,e8,trivial⟩ ⟨e10,e13,e16,trivial⟩)
def Yc:FnI:=fnI Try.f26 jd
def Em (_:Bool) (_:aZ):(Int×(List Int))→ay:=fun r=>⟨(.pair (.i r.1) (.pair (.ref (1,0) []) (.imm true .unit ()))),[],[⟨false,.il,.own,r.2⟩]⟩
theorem Wt:∀(zp0:Bool)(p0:aZ),bR gT Yc ⟨[(.imm zp0 bQ p0)],[]⟩=(DX p0).run fun r=>some (Em zp0 p0 r):=fun _ _=>by kernel_rfl
def Yb (av:List AV) (rs:List Root):Tre ay:=
 aD av fun a0_ av0=>
 aM av0<|
 aM rs<|
 bG bQ a0_ fun z2 d1=>
 .mat (rH d1) fun r=>.ret (Em z2 d1 r)
def Ji:Ctr:=dO [] Yb
theorem Wu:Contract Try.prog .none 26 Ji:=aC (V:=gT) aW (ak zo ak0 (ak aqS ays (ak aax ayt aJ))) Try.func26 (bL (n:=3) fun k hk=>by
 match k,hk with
 |0,_=>exact bO (id:=3) P6
 |1,_=>exact bO (id:=9) P7
 |2,_=>exact bO (id:=14) Nv) fun _ _ _=>aK fun _ _=>bA<|bA<|dM fun _ _=>fun h=>by intros;subst_vars;exact bB (Wt _ _) h
def Bj (aQ:Int) (dx:List Int) (cZ:Int):(Int×Int)→Tre ((Int×Int) ⊕ Int):=fun s3=>
 .cond (decide (s3.2<cZ))
  (.ite (0≤s3.2∧s3.2<(dx.length:Int))<|
  .mat (dx[s3.2.toNat]?) fun x1=>
  .ite (0≤s3.2)<|
  let v2:=Gw .i64 (Kl .i64 aQ s3.2) 1
  .cond (decide (v2=1))
   (.ret (.inl (iF .i64 s3.1 x1,aF .i64 (s3.2+1))))
   (.ret (.inl (s3.1,aF .i64 (s3.2+1)))))
  (.ret (.inr s3.1))
def ajl (p0:List Int) (p1:Int):Tre Int:=
 .mat (aO (Bj p1 p0 (p0.length:Int)) (0,0)) fun l3=>
 .ret l3
def ah3 (p0:List Int) (p1:Int):Option Int:=(ajl p0 p1).run some
def arY(xs:List Int)(a:Int):Option Int:=lim xs.length (auo a xs)
theorem ajn(p0:List Int)(p1 y:Int)(h:arY p0 p1=some y):ah3 p0 p1=some y:=by
 obtain ⟨hl,rfl⟩:=YF h
 unfold ah3 ajl
 rw [Tre.oC]
 have:=anR (xs:=p0) (step:=Bj p1 p0 (p0.length:Int)) (fun i acc=>(acc,(i:Int))) (fun i acc x=>.inl (cond (oL p1 (i:Int)) (iF .i64 acc x) acc)) id (by
  intro i acc x hx
  have hi:i<p0.length:=(List.getElem?_eq_some_iff.1 hx).1
  unfold Bj
  rw [fU hx,Tre.run_ite,if_pos (by dsimp only;omega),Tre.aB]
  show cond (oL p1 (i:Int)) _ _=_
  cases oL p1 (i:Int)
  ·rw [cond_false,Tre.aI,aU (by omega)];rfl
  ·rw [cond_true,Tre.aI,aU (by omega)];rfl)
  (by
  intro acc
  unfold Bj
  exact eY) 0
 rw [show ((0:Int),(0:Int))=(0,((0:Nat):Int)) from rfl,this]
 rfl
def TB:Env:=⟨tau,[],[]⟩
def ah4:Code:=(Try.f27.body).getD .skip
def Vd (dQ:Bool) (aQ:Int) (dx:List Int) (cZ:Int):(Int×Int)→St:=fun x=>bX [(1,(.i aQ)),(5,(.i x.1)),(8,(.imm dQ .il dx)),(9,(.i cZ)),(10,(.i x.2))] []
def RL (_:Bool) (_:Int) (_:List Int) (_:Int):Int→Ex×St:=fun x=>(.exit 0,bX [(5,(.i x))] [])
def ajm (s:St):Tre (Ex×St):=
 aA true .n (s.tmps 1) fun d2=>
 aA true .n (s.tmps 5) fun d4=>
 bG .il (s.tmps 8) fun z7 d6=>
 aA true .n (s.tmps 9) fun d9=>
 aA true .n (s.tmps 10) fun d11=>
 .mat (aO (Bj d2 d6 d9) (d4,d11)) fun x=>.ret (RL z7 d2 d6 d9 x)
def EO:bD:=⟨([1,5,8,9,10],[]),([5],[]),ajm⟩
def aaJ:List (Nat×bD):=[(3,EO)]
theorem adg:∀(dQ:Bool)(aQ:Int)(dx:List Int)(cZ:Int)(x:(Int×Int))(c:St→Option (Ex×St)),den TB aaJ (aV ah4 0) (Vd dQ aQ dx cZ x) (cu EO.kp EO.kx c)=(Bj aQ dx cZ x).run (cB (Vd dQ aQ dx cZ) (RL dQ aQ dx cZ) c):=fun _ _ _ _ _ _=>by
 kernel_rfl
theorem ag0:bU TB aaJ (aV ah4 0) EO:=dh fun _ _ _=>aH fun _=>aH fun _=>dM fun _ _=>aH fun _=>aH fun _=>fun h e10 e8 e5 e3 e1=>bS (adg _ _ _ _) h (by subst_vars;exact aP rfl rfl ⟨e1,e3,e5,e8,e10,trivial⟩ trivial)
def aqW:FnI:=fnI Try.f27 aaJ
def ab0 (_:Bool) (_:List Int) (_:Int):Int→ay:=fun r=>⟨(.i r),[],[]⟩
theorem an3:∀(zp0:Bool)(p0:List Int)(p1:Int),bR TB aqW ⟨[(.imm zp0 .il p0),(.i p1)],[]⟩=(ajl p0 p1).run fun r=>some (ab0 zp0 p0 p1 r):=fun _ _ _=>by kernel_rfl
def aqV (av:List AV) (rs:List Root):Tre ay:=
 aD av fun a0_ av0=>
 aD av0 fun a1_ av1=>
 aM av1<|
 aM rs<|
 bG .il a0_ fun z2 d1=>
 aA true .n a1_ fun d3=>
 .mat (arY d1 d3) fun r=>.ret (ab0 z2 d1 d3 r)
def ah5:Ctr:=dO [] aqV
theorem an4:Contract Try.prog .none 27 ah5:=aC (V:=TB) aW aJ Try.func27 (bL (n:=1) fun k hk=>by
 match k,hk with
 |0,_=>exact bO (id:=3) ag0) fun _ _ _=>aK fun _ _=>aK fun _ _=>bA<|bA<|dM fun _ _=>aH fun _=>fun h=>by intros;subst_vars;exact yC (an3 _ _ _) (ajn _ _) h
def Gg (p0:aS):Tre Int:=
 let v1:=aF .i64 ((p0.2.1.length:Int)-p0.2.2.1)
 let v2:=aF .i64 (Int.tdiv v1 2)
 .ret v2
def Rm (p0:aS):Option Int:=(Gg p0).run some
def eH(p0:aS):Int:=
 let v1:=aF .i64 ((p0.2.1.length:Int)-p0.2.2.1)
 let v2:=aF .i64 (Int.tdiv v1 2)
 v2
theorem La(p0:aS):Rm p0=some (eH p0):=rfl
def CK:Env:=⟨tau,[(25,jf)],[]⟩
def Ro:FnI:=fnI Try.f51 []
def yU (_:Bool) (_:aS):Int→ay:=fun r=>⟨(.i r),[],[]⟩
theorem PV:∀(zp0:Bool)(p0:aS),bR CK Ro ⟨[(.imm zp0 bJ p0)],[]⟩=(Gg p0).run fun r=>some (yU zp0 p0 r):=fun _ _=>by kernel_rfl
def Rn (av:List AV) (rs:List Root):Tre ay:=
 aD av fun a0_ av0=>
 aM av0<|
 aM rs<|
 bG bJ a0_ fun z2 d1=>
 .ret (yU z2 d1 (eH d1))
def CO:Ctr:=dO [] Rn
theorem PW:Contract Try.prog .none 51 CO:=aC (V:=CK) aW (ak jw abN aJ) Try.func51 bP fun _ _ _=>aK fun _ _=>bA<|bA<|dM fun _ _=>fun h=>by intros;subst_vars;exact Bw (PV _ _) (La _) h
def qY (p0:List Int) (p1:Int):Tre Bool:=
 .ite (0≤p1∧p1<(p0.length:Int))<|
 .mat (p0[p1.toNat]?) fun x1=>
 .ret (!decide (x1=0))
def kL (p0:List Int) (p1:Int):Option Bool:=(qY p0 p1).run some
-- more
theorem axH{r:List Int}{c:Nat}(h:c<r.length):kL r (c:Int)=some (Oa c r):=by
 unfold kL qY
 have hx:=List.getElem?_eq_getElem h
 rw [Tre.run_ite,if_pos ⟨by omega,by omega⟩,Int.toNat_natCast,ah hx,Tre.aI]
 unfold Oa
 rw [hx]
def xI:Env:=⟨tau,[],[]⟩
def K3:FnI:=fnI Try.f95 []
def uL (_:Bool) (_:List Int) (p1:Int):Bool→ay:=fun r=>⟨(.imm true .bool r),[⟨true,.n,.own,p1⟩],[]⟩
theorem J2:∀(zp0:Bool)(p0:List Int)(p1:Int),bR xI K3 ⟨[(.imm zp0 .il p0),(.ptr (0,0) [])],[⟨true,.n,.own,p1⟩]⟩=(qY p0 p1).run fun r=>some (uL zp0 p0 p1 r):=fun _ _ _=>by kernel_rfl
def KZ (av:List AV) (rs:List Root):Tre ay:=
 aD av fun a0_ av0=>
 aD av0 fun a1_ av1=>
 aM av1<|
 aD rs fun r0_ rs0=>
 aM rs0<|
 bG .il a0_ fun z2 d1=>
 dH (0,0) [] a1_<|
 yx true .n r0_ fun m3 d4=>
 asM .own m3<|
 .mat (kL d1 d4) fun r=>.ret (uL z2 d1 d4 r)
def xJ:Ctr:=dO [] KZ
theorem J3:Contract Try.prog .none 95 xJ:=aC (V:=xI) aW aJ Try.func95 bP fun _ _ _=>aK fun _ _=>aK fun _ _=>bA<|aK fun _ _=>bA<|dM fun _ _=>fJ<|tRt fun _ _=>tM<|fun h=>by intros;subst_vars;exact bB (J2 _ _ _) h
def aaU (bC:(List (List Int))) (bH:Int) (bI:Int):Int→Tre (Int ⊕ (Int ⊕ Unit)):=fun s2=>
 .cond (decide (s2<bH))
  (.ite (0≤s2∧s2<(bC.length:Int))<|
  .mat (bC[s2.toNat]?) fun x1=>
  .mat (kL x1 bI) fun r2=>
  .cond r2
   (.ret (.inr (.inl s2)))
   (.ret (.inl (aF .i64 (s2+1)))))
  (.ret (.inr (.inr ())))
def nm5 (p0:(List (List Int))) (p1:Int):Tre Int:=
 .mat (aO (aaU p0 (p0.length:Int) p1) 0) fun l3=>
 .alt l3
  (fun a4=>
   .ret a4)
  (fun _=>
   .ret (-1))
def apK (p0:(List (List Int))) (p1:Int):Option Int:=(nm5 p0 p1).run some
-- more
theorem avx{xs:List (List Int)}{c:Nat}(hc:∀r∈xs,c<r.length)(hl:xs.length≤1048576):apK xs (c:Int)=some (qA (Oa c) 0 xs):=by
 unfold apK nm5
 rw [Tre.oC,E9 (xs:=xs) (fun i x=>cond (Oa c x) (some (.inl (i:Int))) none) (.inr ())]
 ·rw [Option.bind_some,←KL (p:=fun x=>Oa c x)]
  generalize KJ _ _ _ _=r
  cases r<;>rfl
 ·intro i x hx
  have hi:i<xs.length:=(List.getElem?_eq_some_iff.1 hx).1
  unfold aaU
  rw [fU hx,ah (axH (hc x (List.mem_of_getElem? hx))),Tre.aB]
  cases Oa c x
  ·simp only [cond_false,Tre.aI,aU (show i<4611686018427387904 by omega)]
  ·rfl
 ·unfold aaU
  exact eY
def apL:Env:=⟨tau,[(95,xJ)],[]⟩
def awO:Code:=(Try.f94.body).getD .skip
def aaV (kC:Bool) (bC:(List (List Int))) (bH:Int) (bI:Int):Int→St:=fun x=>bX [(0,(.imm kC (.sl .il) bC)),(1,(.fn 95 [(0,0)])),(7,(.i bH)),(8,(.i x))] [((0,0),some ⟨true,.n,.own,bI⟩)]
def NY (_:Bool) (_:(List (List Int))) (_:Int) (bI:Int):(Int ⊕ Unit)→Ex×St
 |.inl x=>(.ret,bX [(4,(.i x))] [((0,0),some ⟨true,.n,.own,bI⟩)])
 |.inr _=>(.exit 0,bX [(4,.dead)] [((0,0),some ⟨true,.n,.own,bI⟩)])
def al4 (s:St):Tre (Ex×St):=
 bG (.sl .il) (s.tmps 0) fun z3 d2=>
 Pv 95 [(0,0)] (s.tmps 1)<|
 aA true .n (s.tmps 7) fun d6=>
 aA true .n (s.tmps 8) fun d8=>
 aX true .n (s.roots (0,0)) fun m10 d11=>
 asM .own m10<|
 .mat (aO (aaU d2 d6 d11) d8) fun x=>.alt x (fun a0=>.ret (NY z3 d2 d6 d11 (.inl a0))) (fun b0=>.ret (NY z3 d2 d6 d11 (.inr b0)))
def R3:bD:=⟨([0,1,7,8],[(0,0)]),([4],[(0,0)]),al4⟩
def atC:List (Nat×bD):=[(2,R3)]
theorem al5:∀(kC:Bool)(bC:(List (List Int)))(bH bI x:Int)(c:St→Option (Ex×St)),den apL atC (aV awO 0) (aaV kC bC bH bI x) (cu R3.kp R3.kx c)=(aaU bC bH bI x).run (cB (aaV kC bC bH bI) (NY kC bC bH bI) c):=fun _ _ _ _ _ _=>by
 kernel_rfl
theorem arn:bU apL atC (aV awO 0) R3:=kS fun s e s' h=>by
 generalize hs:restrict R3.kp s=s1 at h
 have h:(al4 s1).run some=some (e,s'):=h
 obtain ⟨z3,d2,e1,h_0⟩:=iV h
 obtain ⟨e4,h_1⟩:=AA h_0
 obtain ⟨d6,e5,h_2⟩:=dJ h_1
 obtain ⟨d8,e7,h_3⟩:=dJ h_2
 obtain ⟨m10,d11,e9,h_4⟩:=lT h_3
 obtain ⟨rfl,h_5⟩:=Ck h_4
 obtain ⟨y,hy,hz⟩:=mF h_5
 refine ⟨_,_,aaV z3 d2 d6 d11,NY z3 d2 d6 d11,aaU d2 d6 d11,d8,y,?_,hy,?_,al5 z3 d2 d6 d11⟩
 ·subst hs;exact aP (T:=[(0,(.imm z3 (.sl .il) d2)),(1,(.fn 95 [(0,0)])),(7,(.i d6)),(8,(.i d8))]) (U:=[((0,0),some ⟨true,.n,.own,d11⟩)]) rfl rfl ⟨e1,e4,e5,e7,trivial⟩ ⟨e9,trivial⟩
 ·rcases y with x|x<;>exact Option.some.inj hz
def aze:FnI:=fnI Try.f94 atC
def apM (_:Bool) (_:(List (List Int))) (p1:Int):Int→ay:=fun r=>⟨(.i r),[⟨true,.n,.own,p1⟩],[]⟩
theorem axw:∀(zp0:Bool)(p0:(List (List Int)))(p1:Int),bR apL aze ⟨[(.imm zp0 (.sl .il) p0),(.fn 95 [(0,0)])],[⟨true,.n,.own,p1⟩]⟩=(nm5 p0 p1).run fun r=>some (apM zp0 p0 p1 r):=fun _ _ _=>by kernel_rfl
def azd (av:List AV) (rs:List Root):Tre ay:=
 aD av fun a0_ av0=>
 aD av0 fun a1_ av1=>
 aM av1<|
 aD rs fun r0_ rs0=>
 aM rs0<|
 bG (.sl .il) a0_ fun z2 d1=>
 Pv 95 [(0,0)] a1_<|
 yx true .n r0_ fun m3 d4=>
 asM .own m3<|
 .mat (apK d1 d4) fun r=>.ret (apM z2 d1 d4 r)
def awP:Ctr:=dO [] azd
theorem axx:Contract Try.prog .none 94 awP:=aC (V:=apL) aW (ak J3 ayU aJ) Try.func94 (bL (n:=1) fun k hk=>by
 match k,hk with
 |0,_=>exact bO (id:=2) arn) fun _ _ _=>aK fun _ _=>aK fun _ _=>bA<|aK fun _ _=>bA<|dM fun _ _=>tFn<|tRt fun _ _=>tM<|fun h=>by intros;subst_vars;exact bB (axw _ _ _) h
def AY (bI:(Int×(Int×Unit))):(Int×Int×Int)→Tre ((Int×Int×Int) ⊕ Int):=fun s2=>
 .cond (decide (s2.2.1>0))
  (.cond (decide (Gw .i64 s2.2.1 1=1))
   (.mat (bW bI s2.2.2 s2.1) fun r1=>
   .mat (bW bI s2.1 s2.1) fun r2=>
   .ret (.inl (r2,Kl .i64 s2.2.1 1,r1)))
   (.mat (bW bI s2.1 s2.1) fun r3=>
   .ret (.inl (r3,Kl .i64 s2.2.1 1,s2.2.2))))
  (.ret (.inr s2.2.2))
def U4 (p0:(Int×(Int×Unit))) (p1:Int) (p2:Int):Tre Int:=
 .mat (aO (AY p0) (p1,p2,1)) fun l4=>
 .ret l4
def OT (p0:(Int×(Int×Unit))) (p1:Int) (p2:Int):Option Int:=(U4 p0 p1 p2).run some
def vX:Env:=⟨tau,[(60,nT)],[]⟩
def OU:Code:=(Try.f82.body).getD .skip
def Ei (bI:(Int×(Int×Unit))):(Int×Int×Int)→St:=fun x=>bX [(1,(.i x.1)),(2,(.i x.2.1)),(3,(.ptr (5,0) [])),(7,(.i x.2.2))] [((5,0),some ⟨true,aL,.own,bI⟩)]
def Cv (_:(Int×(Int×Unit))):Int→Ex×St:=fun x=>(.exit 0,bX [(7,(.i x))] [])
def Wm (s:St):Tre (Ex×St):=
 aA true .n (s.tmps 1) fun d2=>
 aA true .n (s.tmps 2) fun d4=>
 dH (5,0) [] (s.tmps 3)<|
 aA true .n (s.tmps 7) fun d7=>
 aX true aL (s.roots (5,0)) fun m9 d10=>
 asM .own m9<|
 .mat (aO (AY d10) (d2,d4,d7)) fun x=>.ret (Cv d10 x)
def pU:bD:=⟨([1,2,3,7],[(5,0)]),([7],[]),Wm⟩
def DR:List (Nat×bD):=[(2,pU)]
theorem PG:∀(bI:(Int×(Int×Unit)))(x:(Int×Int×Int))(c:St→Option (Ex×St)),den vX DR (aV OU 0) (Ei bI x) (cu pU.kp pU.kx c)=(AY bI x).run (cB (Ei bI) (Cv bI) c):=fun _ _ _=>by
 kernel_rfl
theorem Ub:bU vX DR (aV OU 0) pU:=dh fun _ _ _=>aH fun _=>aH fun _=>fJ<|aH fun _=>bN fun _ _=>tM<|fun h _ e8 e6 e5 e3 e1=>bS (PG _) h (by subst_vars;exact aP rfl rfl ⟨e1,e3,e5,e6,trivial⟩ ⟨e8,trivial⟩)
def acR:FnI:=fnI Try.f82 DR
def Ja (_:(Int×(Int×Unit))) (_:Int) (_:Int):Int→ay:=fun r=>⟨(.i r),[],[]⟩
theorem aam:∀(p0:(Int×(Int×Unit)))(p1 p2:Int),bR vX acR ⟨[(.imm true aL p0),(.i p1),(.i p2)],[]⟩=(U4 p0 p1 p2).run fun r=>some (Ja p0 p1 p2 r):=fun _ _ _=>by kernel_rfl
def acQ (av:List AV) (rs:List Root):Tre ay:=
 aD av fun a0_ av0=>
 aD av0 fun a1_ av1=>
 aD av1 fun a2_ av2=>
 aM av2<|
 aM rs<|
 aA true aL a0_ fun d1=>
 aA true .n a1_ fun d2=>
 aA true .n a2_ fun d3=>
 .mat (OT d1 d2 d3) fun r=>.ret (Ja d1 d2 d3 r)
def OV:Ctr:=dO [] acQ
theorem aan:Contract Try.prog .none 82 OV:=aC (V:=vX) aW (ak oN ahS aJ) Try.func82 (bL (n:=1) fun k hk=>by
 match k,hk with
 |0,_=>exact bO (id:=2) Ub) fun _ _ _=>aK fun _ _=>aK fun _ _=>aK fun _ _=>bA<|bA<|aH fun _=>aH fun _=>aH fun _=>fun h=>by intros;subst_vars;exact bB (aam _ _ _) h
def OP (p0:(Int×(Int×Unit))) (p1:Int):Tre Int:=
 .mat (qy p0) fun r1=>
 .mat (OT p0 p1 (aF .i64 (r1-2))) fun r2=>
 .ret r2
def bY (p0:(Int×(Int×Unit))) (p1:Int):Option Int:=(OP p0 p1).run some
-- more
set_option maxRecDepth 100000
theorem axd:VO bY Gx 1 2=true:=by kernel_rfl
theorem axe:VO bY Gx 1 3=true:=by kernel_rfl
theorem axf:VO bY Gx 2 7=true:=by kernel_rfl
theorem auY:VO bY Gx 3 11=true:=by kernel_rfl
theorem auZ:VO bY Gx 3 13=true:=by kernel_rfl
theorem au0:VO bY Gx 4 19=true:=by kernel_rfl
theorem au1:VO bY Gx 4 25=true:=by kernel_rfl
theorem au2:VO bY Gx 4 31=true:=by kernel_rfl
theorem au3:VO bY Gx 5 37=true:=by kernel_rfl
theorem au4:VO bY Gx 5 41=true:=by kernel_rfl
theorem au5:VO bY Gx 5 47=true:=by kernel_rfl
theorem au6:VO bY Gx 5 55=true:=by kernel_rfl
theorem au7:VO bY Gx 5 59=true:=by kernel_rfl
theorem au8:VO bY Gx 5 61=true:=by kernel_rfl
theorem apl{f:TF3}(hf:aG f=true){a:Int}(ha:inF f a):bY f a=some (DZ f a):=by
 refine axF (fun q hq=>?_) hf ha
 simp only [iW,List.mem_cons,List.not_mem_nil,or_false] at hq
 rcases hq with rfl|rfl|rfl|rfl|rfl|rfl|rfl|rfl|rfl|rfl|rfl|rfl|rfl|rfl
 ·exact axd
 ·exact axe
 ·exact axf
 ·exact auY
 ·exact auZ
 ·exact au0
 ·exact au1
 ·exact au2
 ·exact au3
 ·exact au4
 ·exact au5
 ·exact au6
 ·exact au7
 ·exact au8
def I7:Env:=⟨tau,[(83,DN),(82,OV)],[]⟩
def XZ:FnI:=fnI Try.f61 []
def Eh (_:(Int×(Int×Unit))) (_:Int):Int→ay:=fun r=>⟨(.i r),[],[]⟩
theorem Wh:∀(p0:(Int×(Int×Unit)))(p1:Int),bR I7 XZ ⟨[(.imm true aL p0),(.i p1)],[]⟩=(OP p0 p1).run fun r=>some (Eh p0 p1 r):=fun _ _=>by kernel_rfl
def XY (av:List AV) (rs:List Root):Tre ay:=
 aD av fun a0_ av0=>
 aD av0 fun a1_ av1=>
 aM av1<|
 aM rs<|
 aA true aL a0_ fun d1=>
 aA true .n a1_ fun d2=>
 .mat (bY d1 d2) fun r=>.ret (Eh d1 d2 r)
def yN:Ctr:=dO [] XY
theorem FV:Contract Try.prog .none 61 yN:=aC (V:=I7) aW (ak KS awv (ak aan ayM aJ)) Try.func61 bP fun _ _ _=>aK fun _ _=>aK fun _ _=>bA<|bA<|aH fun _=>aH fun _=>fun h=>by intros;subst_vars;exact bB (Wh _ _) h
def jc (dx:(List (List Int))) (cZ:Int):(Int×(List (List Int)))→Tre ((Int×(List (List Int))) ⊕ (List (List Int))):=fun s3=>
 .cond (decide (s3.1<cZ))
  (.ite (0≤s3.1∧s3.1<(dx.length:Int))<|
  .mat (dx[s3.1.toNat]?) fun x1=>
  .mat (oM x1) fun r2=>
  .ite ((s3.2.length+1)*24≤bE∧1≤24)<|
  .ret (.inl (aF .i64 (s3.1+1),s3.2++([r2]))))
  (.ret (.inr s3.2))
def iC (rC:Nat) (IU:Int) (IV:Int) (BD:(Int×(Int×Unit))):(Int×(List (List Int)))→Tre ((Int×(List (List Int))) ⊕ (List (List Int))):=fun s15=>
 .cond (decide (s15.1<IV))
  (.mat (s15.2[rC]?) fun x15=>
  .ite (0≤s15.1∧s15.1<(x15.length:Int))<|
  .mat (s15.2[rC]?) fun x16=>
  .mat (x16[s15.1.toNat]?) fun x17=>
  .mat (bW BD x17 IU) fun r18=>
  .mat (s15.2[rC]?) fun x19=>
  .ite (0≤s15.1∧s15.1<(x19.length:Int))<|
  .mat (s15.2[rC]?) fun x20=>
  .mat (x20[s15.1.toNat]?) fun _=>
  let v22:=x20.set s15.1.toNat r18
  .ret (.inl (aF .i64 (s15.1+1),s15.2.set rC v22)))
  (.ret (.inr s15.2))
def iD (yG:Nat) (vV:Nat) (IY:Int) (IZ:Int) (vJ:(Int×(Int×Unit))):(Int×(List (List Int)))→Tre ((Int×(List (List Int))) ⊕ (List (List Int))):=fun s25=>
 .cond (decide (s25.1<IZ))
  (.mat (s25.2[vV]?) fun x29=>
  .ite (0≤s25.1∧s25.1<(x29.length:Int))<|
  .mat (s25.2[vV]?) fun x30=>
  .mat (x30[s25.1.toNat]?) fun x31=>
  .mat (s25.2[yG]?) fun x32=>
  .ite (0≤s25.1∧s25.1<(x32.length:Int))<|
  .mat (s25.2[yG]?) fun x33=>
  .mat (x33[s25.1.toNat]?) fun x34=>
  .mat (bW vJ IY x34) fun r35=>
  .mat (s25.2[vV]?) fun x36=>
  .ite (0≤s25.1∧s25.1<(x36.length:Int))<|
  .mat (s25.2[vV]?) fun x37=>
  .mat (x37[s25.1.toNat]?) fun _=>
  let v39:=x37.set s25.1.toNat (iF .i64 x31 r35)
  .ret (.inl (aF .i64 (s25.1+1),s25.2.set vV v39)))
  (.ret (.inr s25.2))
def fZ (BH:Int) (IW:Nat) (IX:Int) (BI:(Int×(Int×Unit))) (BJ:Int):(Int×(List (List Int)))→Tre ((Int×(List (List Int))) ⊕ (List (List Int))):=fun s20=>
 .cond (decide (s20.1<IX))
  (.ite (0≤s20.1∧s20.1<(s20.2.length:Int))<|
  .mat (s20.2[s20.1.toNat]?) fun _=>
  .mat (s20.2[s20.1.toNat]?) fun x25=>
  .ite (0≤BJ∧BJ<(x25.length:Int))<|
  .mat (s20.2[s20.1.toNat]?) fun x26=>
  .mat (x26[BJ.toNat]?) fun x27=>
  .cond (!decide (s20.1=BH))
   (.cond (!decide (x27=0))
    (.mat (s20.2[s20.1.toNat]?) fun x28=>
    .mat (aO (iD IW s20.1.toNat x27 (x28.length:Int) BI) (0,s20.2)) fun l40=>
    .ret (.inl (aF .i64 (s20.1+1),l40)))
    (.ret (.inl (aF .i64 (s20.1+1),s20.2))))
   (.ret (.inl (aF .i64 (s20.1+1),s20.2))))
  (.ret (.inr s20.2))
def gQ (eu:Int) (j4:(Int×(Int×Unit))):(Int×Int×(List (List Int)))→Tre ((Int×Int×(List (List Int))) ⊕ (Int×(List (List Int)))):=fun s8=>
 .cond (decide (s8.2.1<eu))
  (.ite (0≤s8.1∧s8.1≤(s8.2.2.length:Int)∧(s8.2.2.length:Int)≤(s8.2.2.length:Int))<|
  .mat (apK ((s8.2.2.drop s8.1.toNat).take (((s8.2.2.length:Int)-s8.1).toNat)) s8.2.1) fun r4=>
  .cond (decide (r4<0))
   (.ret (.inl (s8.1,aF .i64 (s8.2.1+1),s8.2.2)))
   (.ite (0≤aF .i64 (s8.1+r4)∧aF .i64 (s8.1+r4)<(s8.2.2.length:Int))<|
   .mat (s8.2.2[(aF .i64 (s8.1+r4)).toNat]?) fun _=>
   .ite (0≤s8.1∧s8.1<(s8.2.2.length:Int))<|
   .mat (s8.2.2[s8.1.toNat]?) fun _=>
   .ite (0≤s8.1∧s8.1<(s8.2.2.length:Int))<|
   .ite (0≤aF .i64 (s8.1+r4)∧aF .i64 (s8.1+r4)<(s8.2.2.length:Int))<|
   .ite (Int.ofNat s8.1.toNat=Int.ofNat s8.1.toNat∧Int.ofNat ((aF .i64 (s8.1+r4)).toNat)=Int.ofNat ((aF .i64 (s8.1+r4)).toNat))<|
   let v7:=DK ((aF .i64 (s8.1+r4)).toNat) s8.1.toNat s8.2.2
   .ite (0≤s8.1∧s8.1<(v7.length:Int))<|
   .mat (v7[s8.1.toNat]?) fun _=>
   .ite (0≤s8.1∧s8.1<(v7.length:Int))<|
   .mat (v7[s8.1.toNat]?) fun _=>
   .mat (v7[s8.1.toNat]?) fun x10=>
   .ite (0≤s8.2.1∧s8.2.1<(x10.length:Int))<|
   .mat (v7[s8.1.toNat]?) fun x11=>
   .mat (x11[s8.2.1.toNat]?) fun x12=>
   .mat (bY j4 x12) fun r13=>
   .mat (v7[s8.1.toNat]?) fun x14=>
   .mat (aO (iC s8.1.toNat r13 (x14.length:Int) j4) (0,v7)) fun l23=>
   .mat (aO (fZ s8.1 s8.1.toNat (l23.length:Int) j4 s8.2.1) (0,l23)) fun l41=>
   .ret (.inl (aF .i64 (s8.1+1),aF .i64 (s8.2.1+1),l41))))
  (.ret (.inr (s8.1,s8.2.2)))
def FY (p0:(Int×(Int×Unit))) (p1:Int) (p2:(List (List Int))):Tre (List (List Int)):=
 .mat (aO (jc p2 (p2.length:Int)) (0,[])) fun l3=>
 .mat (aO (gQ p1 p0) (0,0,l3)) fun l42=>
 .ite (0≤(0:Int)∧(0:Int)≤l42.1∧l42.1≤(l42.2.length:Int))<|
 .ret ((l42.2.drop 0).take ((l42.1-0).toNat))
def oO (p0:(Int×(Int×Unit))) (p1:Int) (p2:(List (List Int))):Option (List (List Int)):=(FY p0 p1 p2).run some
-- more
theorem aev{α β γ:Type}(g:α→γ)(fin:List γ→β):∀(l:List α)(i:Nat)(acc:List γ),acc.length=i+l.length→uJ (fun i acc x=>(.inl (acc.set i (g x)):List γ ⊕ β)) fin i acc l=fin (acc.take i++l.map g):=by
 intro l
 induction l with
 |nil=>intro i acc h;simp only [uJ,List.map_nil,List.append_nil];rw [List.take_of_length_le (by simp at h;omega)]
 |cons x l ih=>
  intro i acc h
  simp only [List.length_cons] at h
  simp only [uJ]
  rw [ih (i+1) _ (by simp;omega),List.take_add_one]
  simp [show i<acc.length by omega,List.take_set_of_le (Nat.le_refl i)]
theorem arG{f:TF3}(hf:aG f=true){L:List (List Int)}{k:Nat}{row:List Int}(hk:L[k]?=some row)(hn:row.length≤1000000)(hr:∀y∈row,inF f y){x:Int}(hx:inF f x) :
  aO (iC k x (row.length:Int) f) (0,L)=some (L.set k (row.map fun y=>iL f y x)):=by
 have hkl:=(List.getElem?_eq_some_iff.1 hk).1
 have key:=xE (xs:=row) (step:=iC k x (row.length:Int) f) (fun (i:Nat) (acc:List Int)=>((i:Int),L.set k acc)) (fun i acc y=>.inl (acc.set i (iL f y x))) (fun acc=>L.set k acc) (fun i acc=>acc.length=row.length∧acc.drop i=row.drop i) (by
  intro i acc y hy hi
  have hlt:=(List.getElem?_eq_some_iff.1 hy).1
  have hg:(L.set k acc)[k]?=some acc:=by rw [List.getElem?_set_self hkl]
  have hai:acc[i]?=some y:=by
   have:=congrArg (·[0]?) hi.2
   simpa [hy] using this
  refine ⟨?_,fun a ha=>?_⟩
  ·unfold iC
   dsimp only
   rw [Tre.aB,decide_eq_true (by omega),cond_true,ah hg,Tre.run_ite,if_pos (by omega),ah hg,Int.toNat_natCast,ah hai,ah (ajr hf (hr _ (List.mem_of_getElem? hy)) hx),ah hg,Tre.run_ite,if_pos (by omega),ah hg,ah hai,Tre.aI,aU (by omega),List.set_set]
  ·cases ha
   refine ⟨by simp [hi.1],?_⟩
   rw [List.drop_set_of_lt (by omega),←List.drop_drop,←List.drop_drop,hi.2]) (by
  intro acc _
  unfold iC
  dsimp only
  rw [Tre.aB,decide_eq_false (by omega),cond_false]
  rfl) row 0 row rfl (Nat.zero_le _) ⟨rfl,rfl⟩
 rw [aev _ _ _ _ _ (by simp)] at key
 have h0:L.set k row=L:=by
  apply List.ext_getElem?
  intro j
  rw [List.getElem?_set]
  split
  ·rename_i h;subst h;exact hk.symm
  ·rfl
 rw [h0] at key
 simpa using key
theorem arF{f:TF3}(hf:aG f=true){L:List (List Int)}{k i2:Nat}(hne:k≠i2){own r:List Int}(hk:L[k]?=some own)(h2:L[i2]?=some r)(hl:r.length=own.length)(hn:r.length≤1000000)(hr:∀y∈own,inF f y){x:Int}(hx:inF f x) :
  aO (iD k i2 x (r.length:Int) f) (0,L)=some (L.set i2 ((r.zip own).map fun p=>iF .i64 p.1 (iL f x p.2))):=by
 have hkl:=(List.getElem?_eq_some_iff.1 h2).1
 have key:=xE (xs:=r.zip own) (step:=iD k i2 x (r.length:Int) f) (fun (i:Nat) (acc:List Int)=>((i:Int),L.set i2 acc)) (fun i acc p=>.inl (acc.set i (iF .i64 p.1 (iL f x p.2)))) (fun acc=>L.set i2 acc) (fun i acc=>acc.length=r.length∧acc.drop i=r.drop i) (by
  intro i acc p hp hi
  have hlt:=(List.getElem?_eq_some_iff.1 hp).1
  rw [List.length_zip] at hlt
  obtain ⟨p1,p2⟩:=p
  rw [List.getElem?_zip_eq_some] at hp
  obtain ⟨hp1,hp2⟩:=hp
  have hg:(L.set i2 acc)[i2]?=some acc:=by rw [List.getElem?_set_self hkl]
  have hgk:(L.set i2 acc)[k]?=some own:=by rw [List.getElem?_set_ne (Ne.symm hne)];exact hk
  have hai:acc[i]?=some p1:=by
   have:=congrArg (·[0]?) hi.2
   simpa [hp1] using this
  refine ⟨?_,fun a ha=>?_⟩
  ·unfold iD
   dsimp only
   rw [Tre.aB,decide_eq_true (by omega),cond_true,ah hg,Tre.run_ite,if_pos (by omega),ah hg,Int.toNat_natCast,ah hai,ah hgk,Tre.run_ite,if_pos (by omega),ah hgk,ah hp2,ah (ajr hf hx (hr _ (List.mem_of_getElem? hp2))),ah hg,Tre.run_ite,if_pos (by omega),ah hg,ah hai,Tre.aI,aU (by omega),List.set_set]
  ·cases ha
   refine ⟨by simp [hi.1],?_⟩
   rw [List.drop_set_of_lt (by omega),←List.drop_drop,←List.drop_drop,hi.2]) (by
  intro acc _
  unfold iD
  dsimp only
  rw [Tre.aB,decide_eq_false (by rw [List.length_zip];omega),cond_false]
  rfl) (r.zip own) 0 r rfl (Nat.zero_le _) ⟨rfl,rfl⟩
 rw [aev _ _ _ _ _ (by simp [hl])] at key
 have h0:L.set i2 r=L:=by
  apply List.ext_getElem?
  intro j
  rw [List.getElem?_set]
  split
  ·rename_i h;subst h;simp [hkl,←h2]
  ·rfl
 rw [h0] at key
 simpa using key
theorem avv{f:TF3}(hf:aG f=true){L:List (List Int)}{k c:Nat}{own:List Int}(hk:L[k]?=some own)(hL:L.length≤1000000)(hn:own.length≤1000000)(hc:c<own.length)(hl:∀r∈L,r.length=own.length∧∀y∈r,inF f y) :
  aO (fZ (k:Int) k (L.length:Int) f (c:Int)) (0,L)=some (L.mapIdx (wH f c k own)):=by
 have hown:=hl own (List.mem_of_getElem? hk)
 have key:=xE (xs:=L) (step:=fZ (k:Int) k (L.length:Int) f (c:Int)) (fun (i:Nat) (acc:List (List Int))=>((i:Int),acc)) (fun i acc r=>.inl (acc.set i (wH f c k own i r))) id (fun i acc=>acc.length=L.length∧acc.drop i=L.drop i∧acc[k]?=some own) (by
  intro i acc r hr hi
  have hlt:=(List.getElem?_eq_some_iff.1 hr).1
  obtain ⟨hr1,hr2⟩:=hl r (List.mem_of_getElem? hr)
  have hai:acc[i]?=some r:=by
   have:=congrArg (·[0]?) hi.2.1
   simpa [hr] using this
  obtain ⟨x,hx⟩:∃x,r[c]?=some x:=⟨_,List.getElem?_eq_getElem (by omega)⟩
  have hset:acc.set i r=acc:=by
   apply List.ext_getElem?
   intro j
   rw [List.getElem?_set]
   split
   ·rename_i h;subst h;simp [show i<acc.length by omega,←hai]
   ·rfl
  refine ⟨?_,fun a ha=>?_⟩
  ·unfold fZ
   dsimp only
   rw [Tre.aB,decide_eq_true (by omega),cond_true,Tre.run_ite,if_pos (by omega),Int.toNat_natCast,ah hai,ah hai,Tre.run_ite,if_pos (by omega),ah hai,Int.toNat_natCast,ah hx,Tre.aB]
   by_cases h1:i=k
   ·rw [decide_eq_true (show (i:Int)=(k:Int) by omega),Bool.not_true,cond_false,Tre.aI,aU (by omega)]
    simp only [wH,hx,h1,decide_true,Bool.true_or,cond_true]
    rw [←h1,hset]
   ·rw [decide_eq_false (show ¬(i:Int)=(k:Int) by omega),Bool.not_false,cond_true,Tre.aB]
    by_cases h2:x=0
    ·rw [decide_eq_true h2,Bool.not_true,cond_false,Tre.aI,aU (by omega)]
     simp only [wH,hx,h2,decide_true,Bool.or_true,cond_true]
     rw [hset]
    ·rw [decide_eq_false h2,Bool.not_false,cond_true,ah hai,ah (arF hf (fun h=>h1 h.symm) hi.2.2 hai hr1 (by omega) hown.2 (hr2 _ (List.mem_of_getElem? hx))),Tre.aI,aU (by omega)]
     simp only [wH,hx,h1,h2,decide_false,Bool.or_self,cond_false]
  ·cases ha
   refine ⟨by simp [hi.1],?_,?_⟩
   ·rw [List.drop_set_of_lt (by omega),←List.drop_drop,←List.drop_drop,hi.2.1]
   ·by_cases h1:i=k
    ·subst h1
     rw [List.getElem?_set_self (by omega)]
     rw [hr] at hk;cases hk
     simp only [wH,hx,decide_true,Bool.true_or,cond_true]
    ·rw [List.getElem?_set_ne h1];exact hi.2.2) (by
  intro acc _
  unfold fZ
  dsimp only
  rw [Tre.aB,decide_eq_false (by omega),cond_false]
  rfl) L 0 L rfl (Nat.zero_le _) ⟨rfl,rfl,hk⟩
 rw [anQ _ _ _ _ _ (by simp)] at key
 simpa using key
theorem atV{rows:List (List Int)}(hl:rows.length≤1000000)(hr:∀r∈rows,r.length≤1000000):aO (jc rows (rows.length:Int)) (0,[])=some rows:=by
 have key:=xE (xs:=rows) (step:=jc rows (rows.length:Int)) (fun (i:Nat) (acc:List (List Int))=>((i:Int),acc)) (fun _ acc r=>.inl (acc++[id r])) id (fun i acc=>acc.length=i) (by
  intro i acc r h hi
  have hlt:=(List.getElem?_eq_some_iff.1 h).1
  refine ⟨?_,fun a ha=>?_⟩
  ·unfold jc
   dsimp only
   rw [Tre.aB,decide_eq_true (by omega),cond_true,Tre.run_ite,if_pos (by omega),Int.toNat_natCast,ah h,ah (show oM r=some r from NP (by have:=hr r (List.mem_of_getElem? h);omega)),Tre.run_ite,if_pos (by unfold bE;omega),Tre.aI,aU (by omega)]
   rfl
  ·cases ha;simp [hi]) (by
  intro acc _
  unfold jc
  dsimp only
  rw [Tre.aB,decide_eq_false (by omega),cond_false]
  rfl) rows 0 [] rfl (Nat.zero_le _) rfl
 rw [ahX,List.map_id] at key
 exact key
theorem atY{f:TF3}(hf:aG f=true){n c:Nat}(hc:c<n)(hn:n≤1000000)(s:Nat×List (List Int))(h:GR f n s.2)(hL:s.2.length≤1000000)(ha:s.1≤s.2.length) :
  (gQ (n:Int) f ((s.1:Int),(c:Int),s.2)).run some=some (.inl (((kH f c s).1:Int),((c+1:Nat):Int),(kH f c s).2)):=by
 obtain ⟨a,L⟩:=s
 dsimp only at h hL ha
 unfold gQ
 dsimp only
 have htk:(L.drop a).take (((L.length:Int)-(a:Int)).toNat)=L.drop a:=List.take_of_length_le (by rw [List.length_drop];omega)
 rw [Tre.aB,decide_eq_true (by omega),cond_true,Tre.run_ite,if_pos (by omega),Int.toNat_natCast,htk,ah (avx (fun r hr=>by rw [(h r (List.mem_of_mem_drop hr)).1];exact hc) (by rw [List.length_drop];omega)),Tre.aB]
 unfold kH
 dsimp only
 rcases Bl (Oa c) (L.drop a) 0 with ⟨h1,_⟩|⟨k,row,h1,h2,h3⟩
 ·have h4:=alv (Oa c) (L.drop a) a 0
  rw [h1,if_pos (by decide)] at h4
  simp only [Nat.add_zero] at h4
  rw [h1,h4]
  simp only [show decide ((-1:Int)<0)=true from rfl,cond_true]
  rw [Tre.aI,aU (by omega)]
 ·have h4:=alv (Oa c) (L.drop a) a 0
  rw [h3,if_neg (by omega)] at h4
  simp only [Nat.add_zero,Nat.zero_add] at h4
  have h4:qA (Oa c) a (L.drop a)=((a+k:Nat):Int):=by rw [h4];omega
  have hak:L[a+k]?=some row:=by rw [←h1,List.getElem?_drop]
  have hlt:=(List.getElem?_eq_some_iff.1 hak).1
  obtain ⟨r0,hr0⟩:∃r0,L[a]?=some r0:=⟨_,List.getElem?_eq_getElem (by omega)⟩
  obtain ⟨hrl,hrf⟩:=Iw h hak
  obtain ⟨x,hx,hx0⟩:=apV h2
  have hxf:=hrf x (List.mem_of_getElem? hx)
  have hsw:DK (a+k) a L=(L.set (a+k) r0).set a row:=by unfold DK;rw [hak,hr0]
  have hva:((L.set (a+k) r0).set a row)[a]?=some row:=List.getElem?_set_self (by simp;omega)
  rw [h3,h4]
  simp only [Nat.zero_add]
  have hw:aF .i64 ((a:Int)+(k:Int))=((a+k:Nat):Int):=by rw [dG (by omega) (by omega)];omega
  rw [hw,Int.toNat_natCast,hsw,decide_eq_false (by omega),decide_eq_false (by omega),cond_false,cond_false]
  rw [Tre.run_ite,if_pos (by omega),ah hak,Tre.run_ite,if_pos (by omega),ah hr0,Tre.run_ite,if_pos (by omega),Tre.run_ite,if_pos (by omega),Tre.run_ite,if_pos (by simp)]
  simp only [List.length_set]
  rw [Tre.run_ite,if_pos (by omega),ah hva,Tre.run_ite,if_pos (by omega),ah hva,ah hva,Tre.run_ite,if_pos (by omega),ah hva,Int.toNat_natCast,ah hx,ah (apl hf hxf),ah hva]
  rw [ah (arG hf hva (by omega) hrf (wT hf hxf).1),List.set_set]
  have hp:Uv f c (a+k) a L=(L.set (a+k) r0).set a (row.map fun y=>iL f y (DZ f x)):=by
   unfold Uv aby
   rw [hak,hr0]
   simp only [hx]
  have hpg:=ajK (c:=c) (k:=a+k) (a:=a) hf h
  rw [hp] at hpg ⊢
  have hpa:((L.set (a+k) r0).set a (row.map fun y=>iL f y (DZ f x)))[a]?=some (row.map fun y=>iL f y (DZ f x)):=List.getElem?_set_self (by simp;omega)
  generalize hG:(L.set (a+k) r0).set a (row.map fun y=>iL f y (DZ f x))=G at hpg hpa
  have hown:=Iw hpg.1 hpa
  have hcl:aO (fZ (a:Int) a (G.length:Int) f (c:Int)) (0,G)=some (G.mapIdx (wH f c a (row.map fun y=>iL f y (DZ f x)))):=
   avv hf hpa (by omega) (by omega) (by omega) (fun r hr=>by rw [hown.1];exact hpg.1 r hr)
  rw [ah hcl,Tre.aI,aU (by omega),aU (by omega)]
  unfold Fw
  rw [hpa]
theorem atW{f:TF3}(hf:aG f=true){n:Nat}(hn:n≤1000000):∀(m c:Nat)(s:Nat×List (List Int)),c+m=n→GR f n s.2→s.2.length≤1000000→s.1≤s.2.length→aO (gQ (n:Int) f) ((s.1:Int),(c:Int),s.2)=some (((jQ f c m s).1:Int),(jQ f c m s).2):=by
 intro m
 induction m with
 |zero=>
  intro c s hc h hL ha
  have hc:c=n:=hc
  subst hc
  refine dY ?_
  unfold gQ
  exact eY
 |succ m ih=>
  intro c s hc h hL ha
  rw [gy (atY hf (by omega) hn s h hL ha)]
  have h1:=MG (c:=c) hf h ha
  exact ih (c+1) _ (by omega) h1.1 (by omega) (by omega)
theorem apq{f:TF3}(hf:aG f=true){n:Nat}(hn:n≤1000000){L:List (List Int)}(h:GR f n L)(hL:L.length≤1000000):oO f (n:Int) L=some (JW f n L):=by
 have hl:=atW hf hn n 0 (0,L) (by omega) h hL (Nat.zero_le _)
 have hk:=VX hf n 0 (0,L) h (Nat.zero_le _)
 have hl:aO (gQ (n:Int) f) (0,0,L)=_:=hl
 unfold oO FY
 rw [ah (atV hL (fun r hr=>by rw [(h r hr).1];exact hn)),ah hl,Tre.run_ite,if_pos (by have:=hk.2.1;have:=hk.2.2;dsimp only at *;omega),Tre.aI]
 unfold JW
 simp
def eG:Env:=⟨tau,[(59,kr),(94,awP),(61,yN),(60,nT)],[]⟩
def fI:Code:=(Try.f77.body).getD .skip
def Cw (dQ:Bool) (aQ:Int) (bq:Int) (dx:(List (List Int))) (cZ:Int) (eZ:(Int×(Int×Unit))):(Int×(List (List Int)))→St:=fun x=>bX [(1,(.i aQ)),(3,(.ptr (5,0) [])),(7,(.ref (9,0) [])),(8,(.i bq)),(21,(.imm dQ (.sl .il) dx)),(22,(.i cZ)),(23,(.i x.1))] [((5,0),some ⟨true,aL,.own,eZ⟩),((9,0),some ⟨false,(.sl .il),.own,x.2⟩)]
def Ac (_:Bool) (aQ:Int) (bq:Int) (_:(List (List Int))) (_:Int) (eZ:(Int×(Int×Unit))):(List (List Int))→Ex×St:=fun x=>(.exit 0,bX [(1,(.i aQ)),(3,(.ptr (5,0) [])),(7,(.ref (9,0) [])),(8,(.i bq))] [((5,0),some ⟨true,aL,.own,eZ⟩),((9,0),some ⟨false,(.sl .il),.own,x⟩)])
def Uc (s:St):Tre (Ex×St):=
 aA true .n (s.tmps 1) fun d2=>
 dH (5,0) [] (s.tmps 3)<|
 dW (9,0) [] (s.tmps 7)<|
 aA true .n (s.tmps 8) fun d6=>
 bG (.sl .il) (s.tmps 21) fun z9 d8=>
 aA true .n (s.tmps 22) fun d11=>
 aA true .n (s.tmps 23) fun d13=>
 aX true aL (s.roots (5,0)) fun m15 d16=>
 asM .own m15<|
 aX false (.sl .il) (s.roots (9,0)) fun m18 d19=>
 asM .own m18<|
 .mat (aO (jc d8 d11) (d13,d19)) fun x=>.ret (Ac z9 d2 d6 d8 d11 d16 x)
def oq:bD:=⟨([1,3,7,8,21,22,23],[(5,0),(9,0)]),([1,3,7,8],[(5,0),(9,0)]),Uc⟩
def zZ (MU:Int) (rC:Nat) (IU:Int) (MV:Int) (MW:Int) (IV:Int) (BD:(Int×(Int×Unit))) (MX:Int):(Int×(List (List Int)))→St:=fun x=>bX [(3,(.ptr (5,0) [])),(7,(.ref (9,0) [])),(8,(.i MU)),(11,(.ptr (13,0) [])),(13,(.ref (9,0) [.idx rC])),(14,(.i IU)),(33,(.i MV)),(34,(.i MW)),(76,(.i IV)),(77,(.i x.1))] [((5,0),some ⟨true,aL,.own,BD⟩),((9,0),some ⟨false,(.sl .il),.own,x.2⟩),((13,0),some ⟨true,.n,.own,MX⟩)]
def yO (MU:Int) (rC:Nat) (_:Int) (MV:Int) (MW:Int) (_:Int) (BD:(Int×(Int×Unit))) (MX:Int):(List (List Int))→Ex×St:=fun x=>(.exit 4,bX [(3,(.ptr (5,0) [])),(7,(.ref (9,0) [])),(8,(.i MU)),(11,(.ptr (13,0) [])),(13,(.ref (9,0) [.idx rC])),(33,(.i MV)),(34,(.i MW))] [((5,0),some ⟨true,aL,.own,BD⟩),((9,0),some ⟨false,(.sl .il),.own,x⟩),((13,0),some ⟨true,.n,.own,MX⟩)])
def Q6 (s:St):Tre (Ex×St):=
 dH (5,0) [] (s.tmps 3)<|
 dW (9,0) [] (s.tmps 7)<|
 aA true .n (s.tmps 8) fun d4=>
 dH (13,0) [] (s.tmps 11)<|
 VJ (9,0) [.idx 0] (s.tmps 13) fun i7=>
 aA true .n (s.tmps 14) fun d9=>
 aA true .n (s.tmps 33) fun d11=>
 aA true .n (s.tmps 34) fun d13=>
 aA true .n (s.tmps 76) fun d15=>
 aA true .n (s.tmps 77) fun d17=>
 aX true aL (s.roots (5,0)) fun m19 d20=>
 asM .own m19<|
 aX false (.sl .il) (s.roots (9,0)) fun m22 d23=>
 asM .own m22<|
 aX true .n (s.roots (13,0)) fun m25 d26=>
 asM .own m25<|
 .mat (aO (iC i7 d9 d15 d20) (d17,d23)) fun x=>.ret (yO d4 i7 d9 d11 d13 d15 d20 d26 x)
def nA:bD:=⟨([3,7,8,11,13,14,33,34,76,77],[(5,0),(9,0),(13,0)]),([3,7,8,11,13,33,34],[(5,0),(9,0),(13,0)]),Q6⟩
def Ab (M9:Int) (yG:Nat) (vV:Nat) (IY:Int) (Na:Int) (Nb:Int) (Nc:Int) (Nf:Int) (IZ:Int) (vJ:(Int×(Int×Unit))) (FB:Int):(Int×(List (List Int)))→St:=fun x=>bX [(3,(.ptr (5,0) [])),(7,(.ref (9,0) [])),(8,(.i M9)),(11,(.ptr (13,0) [])),(13,(.ref (9,0) [.idx yG])),(17,(.ref (9,0) [.idx vV])),(18,(.i IY)),(33,(.i Na)),(34,(.i Nb)),(91,(.ref (9,0) [])),(92,(.i Nc)),(93,(.i Nf)),(110,(.i IZ)),(111,(.i x.1))] [((5,0),some ⟨true,aL,.own,vJ⟩),((9,0),some ⟨false,(.sl .il),.own,x.2⟩),((13,0),some ⟨true,.n,.own,FB⟩)]
def yQ (M9:Int) (yG:Nat) (_:Nat) (_:Int) (Na:Int) (Nb:Int) (Nc:Int) (Nf:Int) (_:Int) (vJ:(Int×(Int×Unit))) (FB:Int):(List (List Int))→Ex×St:=fun x=>(.exit 8,bX [(3,(.ptr (5,0) [])),(7,(.ref (9,0) [])),(8,(.i M9)),(11,(.ptr (13,0) [])),(13,(.ref (9,0) [.idx yG])),(33,(.i Na)),(34,(.i Nb)),(91,(.ref (9,0) [])),(92,(.i Nc)),(93,(.i Nf))] [((5,0),some ⟨true,aL,.own,vJ⟩),((9,0),some ⟨false,(.sl .il),.own,x⟩),((13,0),some ⟨true,.n,.own,FB⟩)])
def Q8 (s:St):Tre (Ex×St):=
 dH (5,0) [] (s.tmps 3)<|
 dW (9,0) [] (s.tmps 7)<|
 aA true .n (s.tmps 8) fun d4=>
 dH (13,0) [] (s.tmps 11)<|
 VJ (9,0) [.idx 0] (s.tmps 13) fun i7=>
 VJ (9,0) [.idx 0] (s.tmps 17) fun i9=>
 aA true .n (s.tmps 18) fun d11=>
 aA true .n (s.tmps 33) fun d13=>
 aA true .n (s.tmps 34) fun d15=>
 dW (9,0) [] (s.tmps 91)<|
 aA true .n (s.tmps 92) fun d18=>
 aA true .n (s.tmps 93) fun d20=>
 aA true .n (s.tmps 110) fun d22=>
 aA true .n (s.tmps 111) fun d24=>
 aX true aL (s.roots (5,0)) fun m26 d27=>
 asM .own m26<|
 aX false (.sl .il) (s.roots (9,0)) fun m29 d30=>
 asM .own m29<|
 aX true .n (s.roots (13,0)) fun m32 d33=>
 asM .own m32<|
 .mat (aO (iD i7 i9 d11 d22 d27) (d24,d30)) fun x=>.ret (yQ d4 i7 i9 d11 d13 d15 d18 d20 d22 d27 d33 x)
def nD:bD:=⟨([3,7,8,11,13,17,18,33,34,91,92,93,110,111],[(5,0),(9,0),(13,0)]),([3,7,8,11,13,33,34,91,92,93],[(5,0),(9,0),(13,0)]),Q8⟩
def Aa (BH:Int) (IW:Nat) (M5:Int) (M6:Int) (IX:Int) (BI:(Int×(Int×Unit))) (BJ:Int):(Int×(List (List Int)))→St:=fun x=>bX [(3,(.ptr (5,0) [])),(7,(.ref (9,0) [])),(8,(.i BH)),(11,(.ptr (13,0) [])),(13,(.ref (9,0) [.idx IW])),(33,(.i M5)),(34,(.i M6)),(91,(.ref (9,0) [])),(92,(.i IX)),(93,(.i x.1))] [((5,0),some ⟨true,aL,.own,BI⟩),((9,0),some ⟨false,(.sl .il),.own,x.2⟩),((13,0),some ⟨true,.n,.own,BJ⟩)]
def yP (BH:Int) (_:Nat) (M5:Int) (M6:Int) (_:Int) (BI:(Int×(Int×Unit))) (_:Int):(List (List Int))→Ex×St:=fun x=>(.exit 6,bX [(3,(.ptr (5,0) [])),(7,(.ref (9,0) [])),(8,(.i BH)),(33,(.i M5)),(34,(.i M6))] [((5,0),some ⟨true,aL,.own,BI⟩),((9,0),some ⟨false,(.sl .il),.own,x⟩)])
def Q7 (s:St):Tre (Ex×St):=
 dH (5,0) [] (s.tmps 3)<|
 dW (9,0) [] (s.tmps 7)<|
 aA true .n (s.tmps 8) fun d4=>
 dH (13,0) [] (s.tmps 11)<|
 VJ (9,0) [.idx 0] (s.tmps 13) fun i7=>
 aA true .n (s.tmps 33) fun d9=>
 aA true .n (s.tmps 34) fun d11=>
 dW (9,0) [] (s.tmps 91)<|
 aA true .n (s.tmps 92) fun d14=>
 aA true .n (s.tmps 93) fun d16=>
 aX true aL (s.roots (5,0)) fun m18 d19=>
 asM .own m18<|
 aX false (.sl .il) (s.roots (9,0)) fun m21 d22=>
 asM .own m21<|
 aX true .n (s.roots (13,0)) fun m24 d25=>
 asM .own m24<|
 .mat (aO (fZ d4 i7 d14 d19 d25) (d16,d22)) fun x=>.ret (yP d4 i7 d9 d11 d14 d19 d25 x)
def nC:bD:=⟨([3,7,8,11,13,33,34,91,92,93],[(5,0),(9,0),(13,0)]),([3,7,8,33,34],[(5,0),(9,0)]),Q7⟩
def Cx (eu:Int) (j4:(Int×(Int×Unit))):(Int×Int×(List (List Int)))→St:=fun x=>bX [(3,(.ptr (5,0) [])),(7,(.ref (9,0) [])),(8,(.i x.1)),(33,(.i eu)),(34,(.i x.2.1))] [((5,0),some ⟨true,aL,.own,j4⟩),((9,0),some ⟨false,(.sl .il),.own,x.2.2⟩)]
def Ad (_:Int) (_:(Int×(Int×Unit))):(Int×(List (List Int)))→Ex×St:=fun x=>(.exit 2,bX [(7,(.ref (9,0) [])),(8,(.i x.1))] [((9,0),some ⟨false,(.sl .il),.own,x.2⟩)])
def Ud (s:St):Tre (Ex×St):=
 dH (5,0) [] (s.tmps 3)<|
 dW (9,0) [] (s.tmps 7)<|
 aA true .n (s.tmps 8) fun d4=>
 aA true .n (s.tmps 33) fun d6=>
 aA true .n (s.tmps 34) fun d8=>
 aX true aL (s.roots (5,0)) fun m10 d11=>
 asM .own m10<|
 aX false (.sl .il) (s.roots (9,0)) fun m13 d14=>
 asM .own m13<|
 .mat (aO (gQ d6 d11) (d4,d8,d14)) fun x=>.ret (Ad d6 d11 x)
def ou:bD:=⟨([3,7,8,33,34],[(5,0),(9,0)]),([7,8],[(9,0)]),Ud⟩
def fq:List (Nat×bD):=[(3,oq),(15,nA),(25,nD),(20,nC),(8,ou)]
theorem Np:∀(dQ:Bool)(aQ bq:Int)(dx:(List (List Int)))(cZ:Int)(eZ:(Int×(Int×Unit)))(x:(Int×(List (List Int))))(c:St→Option (Ex×St)),den eG fq (aV fI 0) (Cw dQ aQ bq dx cZ eZ x) (cu oq.kp oq.kx c)=(jc dx cZ x).run (cB (Cw dQ aQ bq dx cZ eZ) (Ac dQ aQ bq dx cZ eZ) c):=fun _ _ _ _ _ _ _ _=>by
 kernel_rfl
theorem Q9:bU eG fq (aV fI 0) oq:=dh fun _ _ _=>aH fun _=>fJ<|jk<|aH fun _=>dM fun _ _=>aH fun _=>aH fun _=>bN fun _ _=>tM<|bN fun _ _=>tM<|fun h _ e17 _ e14 e12 e10 e7 e5 e4 e3 e1=>bS (Np _ _ _ _ _ _) h (by subst_vars;exact aP rfl rfl ⟨e1,e3,e4,e5,e7,e10,e12,trivial⟩ ⟨e14,e17,trivial⟩)
theorem KW:∀(MU:Int)(rC:Nat)(IU MV MW IV:Int)(BD:(Int×(Int×Unit)))(MX:Int)(x:(Int×(List (List Int))))(c:St→Option (Ex×St)),den eG fq (aV fI 2) (zZ MU rC IU MV MW IV BD MX x) (cu nA.kp nA.kx c)=(iC rC IU IV BD x).run (cB (zZ MU rC IU MV MW IV BD MX) (yO MU rC IU MV MW IV BD MX) c):=fun _ _ _ _ _ _ _ _ _ _=>by
 kernel_rfl
theorem PI:bU eG fq (aV fI 2) nA:=dh fun _ _ _=>fJ<|jk<|aH fun _=>fJ<|aqa fun _=>aH fun _=>aH fun _=>aH fun _=>aH fun _=>aH fun _=>bN fun _ _=>tM<|bN fun _ _=>tM<|bN fun _ _=>tM<|fun h _ e24 _ e21 _ e18 e16 e14 e12 e10 e8 e6 e5 e3 e2 e1=>bS (KW _ _ _ _ _ _ _ _) h (by subst_vars;exact aP rfl rfl ⟨e1,e2,e3,e5,e6,e8,e10,e12,e14,e16,trivial⟩ ⟨e18,e21,e24,trivial⟩)
theorem KY:∀(M9:Int)(yG vV:Nat)(IY Na Nb Nc Nf IZ:Int)(vJ:(Int×(Int×Unit)))(FB:Int)(x:(Int×(List (List Int))))(c:St→Option (Ex×St)),den eG fq (aV fI 4) (Ab M9 yG vV IY Na Nb Nc Nf IZ vJ FB x) (cu nD.kp nD.kx c)=(iD yG vV IY IZ vJ x).run (cB (Ab M9 yG vV IY Na Nb Nc Nf IZ vJ FB) (yQ M9 yG vV IY Na Nb Nc Nf IZ vJ FB) c):=fun _ _ _ _ _ _ _ _ _ _ _ _ _=>by
 kernel_rfl
theorem PL:bU eG fq (aV fI 4) nD:=dh fun _ _ _=>fJ<|jk<|aH fun _=>fJ<|aqa fun _=>aqa fun _=>aH fun _=>aH fun _=>aH fun _=>jk<|aH fun _=>aH fun _=>aH fun _=>aH fun _=>bN fun _ _=>tM<|bN fun _ _=>tM<|bN fun _ _=>tM<|fun h _ e31 _ e28 _ e25 e23 e21 e19 e17 e16 e14 e12 e10 e8 e6 e5 e3 e2 e1=>bS (KY _ _ _ _ _ _ _ _ _ _ _) h (by subst_vars;exact aP rfl rfl ⟨e1,e2,e3,e5,e6,e8,e10,e12,e14,e16,e17,e19,e21,e23,trivial⟩ ⟨e25,e28,e31,trivial⟩)
theorem KX:∀(BH:Int)(IW:Nat)(M5 M6 IX:Int)(BI:(Int×(Int×Unit)))(BJ:Int)(x:(Int×(List (List Int))))(c:St→Option (Ex×St)),den eG fq (aV fI 3) (Aa BH IW M5 M6 IX BI BJ x) (cu nC.kp nC.kx c)=(fZ BH IW IX BI BJ x).run (cB (Aa BH IW M5 M6 IX BI BJ) (yP BH IW M5 M6 IX BI BJ) c):=fun _ _ _ _ _ _ _ _ _=>by
 kernel_rfl
theorem PK:bU eG fq (aV fI 3) nC:=dh fun _ _ _=>fJ<|jk<|aH fun _=>fJ<|aqa fun _=>aH fun _=>aH fun _=>jk<|aH fun _=>aH fun _=>bN fun _ _=>tM<|bN fun _ _=>tM<|bN fun _ _=>tM<|fun h _ e23 _ e20 _ e17 e15 e13 e12 e10 e8 e6 e5 e3 e2 e1=>bS (KX _ _ _ _ _ _ _) h (by subst_vars;exact aP rfl rfl ⟨e1,e2,e3,e5,e6,e8,e10,e12,e13,e15,trivial⟩ ⟨e17,e20,e23,trivial⟩)
theorem Nq:∀(eu:Int)(j4:(Int×(Int×Unit)))(x:(Int×Int×(List (List Int))))(c:St→Option (Ex×St)),den eG fq (aV fI 1) (Cx eu j4 x) (cu ou.kp ou.kx c)=(gQ eu j4 x).run (cB (Cx eu j4) (Ad eu j4) c):=fun _ _ _ _=>by
 kernel_rfl
theorem Ra:bU eG fq (aV fI 1) ou:=dh fun _ _ _=>fJ<|jk<|aH fun _=>aH fun _=>aH fun _=>bN fun _ _=>tM<|bN fun _ _=>tM<|fun h _ e12 _ e9 e7 e5 e3 e2 e1=>bS (Nq _ _) h (by subst_vars;exact aP rfl rfl ⟨e1,e2,e3,e5,e7,trivial⟩ ⟨e9,e12,trivial⟩)
def aap:FnI:=fnI Try.f77 fq
def F4 (_:Bool) (_:(Int×(Int×Unit))) (_:Int) (_:(List (List Int))):(List (List Int))→ay:=fun r=>⟨(.ref (1,0) []),[],[⟨false,(.sl .il),.own,r⟩]⟩
theorem X6:∀(zp0:Bool)(p0:(Int×(Int×Unit)))(p1:Int)(p2:(List (List Int))),bR eG aap ⟨[(.imm true aL p0),(.i p1),(.imm zp0 (.sl .il) p2)],[]⟩=(FY p0 p1 p2).run fun r=>some (F4 zp0 p0 p1 p2 r):=fun _ _ _ _=>by kernel_rfl
def aao (av:List AV) (rs:List Root):Tre ay:=
 aD av fun a0_ av0=>
 aD av0 fun a1_ av1=>
 aD av1 fun a2_ av2=>
 aM av2<|
 aM rs<|
 aA true aL a0_ fun d1=>
 aA true .n a1_ fun d2=>
 bG (.sl .il) a2_ fun z4 d3=>
 .mat (oO d1 d2 d3) fun r=>.ret (F4 z4 d1 d2 d3 r)
def AZ:Ctr:=dO [] aao
theorem Jb:Contract Try.prog .none 77 AZ:=aC (V:=eG) aW (ak mW apd (ak axx awz (ak FV awp (ak oN ahS aJ)))) Try.func77 (bL (n:=5) fun k hk=>by
 match k,hk with
 |0,_=>exact bO (id:=3) Q9
 |1,_=>exact bO (id:=8) Ra
 |2,_=>exact bO (id:=15) PI
 |3,_=>exact bO (id:=20) PK
 |4,_=>exact bO (id:=25) PL) fun _ _ _=>aK fun _ _=>aK fun _ _=>aK fun _ _=>bA<|bA<|aH fun _=>aH fun _=>dM fun _ _=>fun h=>by intros;subst_vars;exact bB (X6 _ _ _ _) h
def Vb (p0:(List (List Int))):Tre Int:=
 .ret (p0.length:Int)
def ada (p0:(List (List Int))):Option Int:=(Vb p0).run some
theorem WM(p0:(List (List Int))):ada p0=some (p0.length:Int):=rfl
def O8:Env:=⟨tau,[],[]⟩
def ade:FnI:=fnI Try.f78 []
def Jr (_:Bool) (_:(List (List Int))):Int→ay:=fun r=>⟨(.i r),[],[]⟩
theorem aaH:∀(zp0:Bool)(p0:(List (List Int))),bR O8 ade ⟨[(.imm zp0 (.sl .il) p0)],[]⟩=(Vb p0).run fun r=>some (Jr zp0 p0 r):=fun _ _=>by kernel_rfl
def adb (av:List AV) (rs:List Root):Tre ay:=
 aD av fun a0_ av0=>
 aM av0<|
 aM rs<|
 bG (.sl .il) a0_ fun z2 d1=>
 .ret (Jr z2 d1 (d1.length:Int))
def O9:Ctr:=dO [] adb
theorem aaI:Contract Try.prog .none 78 O9:=aC (V:=O8) aW aJ Try.func78 bP fun _ _ _=>aK fun _ _=>bA<|bA<|dM fun _ _=>fun h=>by intros;subst_vars;exact Bw (aaH _ _) (WM _) h
def Gl (p0:Int):Tre Bool:=
 .ret (!decide (p0=0))
def Rw (p0:Int):Option Bool:=(Gl p0).run some
theorem Lh(p0:Int):Rw p0=some (!decide (p0=0)):=rfl
def CW:Env:=⟨tau,[],[]⟩
def Ry:FnI:=fnI Try.f100 []
def ze (_:Int):Bool→ay:=fun r=>⟨(.imm true .bool r),[],[]⟩
theorem Qb:∀(p0:Int),bR CW Ry ⟨[(.i p0)],[]⟩=(Gl p0).run fun r=>some (ze p0 r):=fun _=>by kernel_rfl
def Rx (av:List AV) (rs:List Root):Tre ay:=
 aD av fun a0_ av0=>
 aM av0<|
 aM rs<|
 aA true .n a0_ fun d1=>
 .ret (ze d1 (!decide (d1=0)))
def CX:Ctr:=dO [] Rx
theorem Qc:Contract Try.prog .none 100 CX:=aC (V:=CW) aW aJ Try.func100 bP fun _ _ _=>aK fun _ _=>bA<|bA<|aH fun _=>fun h=>by intros;subst_vars;exact Bw (Qb _) (Lh _) h
def WV (bC:List Int) (bH:Int):Int→Tre (Int ⊕ (Int ⊕ Unit)):=fun s2=>
 .cond (decide (s2<bH))
  (.ite (0≤s2∧s2<(bC.length:Int))<|
  .mat (bC[s2.toNat]?) fun x1=>
  .cond (!decide (x1=0))
   (.ret (.inr (.inl s2)))
   (.ret (.inl (aF .i64 (s2+1)))))
  (.ret (.inr (.inr ())))
def nm3 (p0:List Int):Tre Int:=
 .mat (aO (WV p0 (p0.length:Int)) 0) fun l2=>
 .alt l2
  (fun a3=>
   .ret a3)
  (fun _=>
   .ret (-1))
def apF (p0:List Int):Option Int:=(nm3 p0).run some
def apG:Env:=⟨tau,[(100,CX)],[]⟩
def awK:Code:=(Try.f75.body).getD .skip
def aaT (kC:Bool) (bC:List Int) (bH:Int):Int→St:=fun x=>bX [(0,(.imm kC .il bC)),(1,(.fn 100 [])),(7,(.i bH)),(8,(.i x))] []
def NW (_:Bool) (_:List Int) (_:Int):(Int ⊕ Unit)→Ex×St
 |.inl x=>(.ret,bX [(4,(.i x))] [])
 |.inr _=>(.exit 0,bX [(4,.dead)] [])
def al2 (s:St):Tre (Ex×St):=
 bG .il (s.tmps 0) fun z3 d2=>
 Pv 100 [] (s.tmps 1)<|
 aA true .n (s.tmps 7) fun d6=>
 aA true .n (s.tmps 8) fun d8=>
 .mat (aO (WV d2 d6) d8) fun x=>.alt x (fun a0=>.ret (NW z3 d2 d6 (.inl a0))) (fun b0=>.ret (NW z3 d2 d6 (.inr b0)))
def RZ:bD:=⟨([0,1,7,8],[]),([4],[]),al2⟩
def atB:List (Nat×bD):=[(2,RZ)]
theorem al3:∀(kC:Bool)(bC:List Int)(bH x:Int)(c:St→Option (Ex×St)),den apG atB (aV awK 0) (aaT kC bC bH x) (cu RZ.kp RZ.kx c)=(WV bC bH x).run (cB (aaT kC bC bH) (NW kC bC bH) c):=fun _ _ _ _ _=>by
 kernel_rfl
theorem arl:bU apG atB (aV awK 0) RZ:=kS fun s e s' h=>by
 generalize hs:restrict RZ.kp s=s1 at h
 have h:(al2 s1).run some=some (e,s'):=h
 obtain ⟨z3,d2,e1,h_0⟩:=iV h
 obtain ⟨e4,h_1⟩:=AA h_0
 obtain ⟨d6,e5,h_2⟩:=dJ h_1
 obtain ⟨d8,e7,h_3⟩:=dJ h_2
 obtain ⟨y,hy,hz⟩:=mF h_3
 refine ⟨_,_,aaT z3 d2 d6,NW z3 d2 d6,WV d2 d6,d8,y,?_,hy,?_,al3 z3 d2 d6⟩
 ·subst hs;exact aP (T:=[(0,(.imm z3 .il d2)),(1,(.fn 100 [])),(7,(.i d6)),(8,(.i d8))]) (U:=[]) rfl rfl ⟨e1,e4,e5,e7,trivial⟩ trivial
 ·rcases y with x|x<;>exact Option.some.inj hz
def aza:FnI:=fnI Try.f75 atB
def apH (_:Bool) (_:List Int):Int→ay:=fun r=>⟨(.i r),[],[]⟩
theorem axr:∀(zp0:Bool)(p0:List Int),bR apG aza ⟨[(.imm zp0 .il p0),(.fn 100 [])],[]⟩=(nm3 p0).run fun r=>some (apH zp0 p0 r):=fun _ _=>by kernel_rfl
def ay9 (av:List AV) (rs:List Root):Tre ay:=
 aD av fun a0_ av0=>
 aD av0 fun a1_ av1=>
 aM av1<|
 aM rs<|
 bG .il a0_ fun z2 d1=>
 Pv 100 [] a1_<|
 .mat (apF d1) fun r=>.ret (apH z2 d1 r)
def awL:Ctr:=dO [] ay9
theorem axt:Contract Try.prog .none 75 awL:=aC (V:=apG) aW (ak Qc aw9 aJ) Try.func75 (bL (n:=1) fun k hk=>by
 match k,hk with
 |0,_=>exact bO (id:=2) arl) fun _ _ _=>aK fun _ _=>aK fun _ _=>bA<|bA<|dM fun _ _=>tFn<|fun h=>by intros;subst_vars;exact bB (axr _ _) h
def jq (aQ:(List (List Int))) (bq:Int):(Int×(List Int))→Tre ((Int×(List Int)) ⊕ (List Int)):=fun s3=>
 .cond (decide (s3.1<bq))
  (.ite (0≤s3.1∧s3.1<(aQ.length:Int))<|
  .mat (aQ[s3.1.toNat]?) fun x1=>
  .mat (apF x1) fun r2=>
  .ite ((s3.2.length+1)*8≤bE∧1≤8)<|
  .ret (.inl (aF .i64 (s3.1+1),s3.2++([r2]))))
  (.ret (.inr s3.2))
def Bc (p0:eF):Tre (List Int):=
 .mat (aO (jq p0.2.2.1 (p0.2.2.1.length:Int)) (0,[])) fun l3=>
 .ret l3
def p8 (p0:eF):Option (List Int):=(Bc p0).run some
def p9:Env:=⟨tau,[(75,awL)],[]⟩
def Gi:Code:=(Try.f96.body).getD .skip
def za (dQ:Bool) (aQ:(List (List Int))) (bq:Int):(Int×(List Int))→St:=fun x=>bX [(3,(.ref (5,0) [])),(8,(.imm dQ (.sl .il) aQ)),(9,(.i bq)),(10,(.i x.1))] [((5,0),some ⟨false,.il,.own,x.2⟩)]
def xP (_:Bool) (_:(List (List Int))) (_:Int):(List Int)→Ex×St:=fun x=>(.exit 0,bX [(3,(.ref (5,0) []))] [((5,0),some ⟨false,.il,.own,x⟩)])
def Qa (s:St):Tre (Ex×St):=
 dW (5,0) [] (s.tmps 3)<|
 bG (.sl .il) (s.tmps 8) fun z4 d3=>
 aA true .n (s.tmps 9) fun d6=>
 aA true .n (s.tmps 10) fun d8=>
 aX false .il (s.roots (5,0)) fun m10 d11=>
 asM .own m10<|
 .mat (aO (jq d3 d6) (d8,d11)) fun x=>.ret (xP z4 d3 d6 x)
def mQ:bD:=⟨([3,8,9,10],[(5,0)]),([3],[(5,0)]),Qa⟩
def wP:List (Nat×bD):=[(3,mQ)]
theorem Kg:∀(dQ:Bool)(aQ:(List (List Int)))(bq:Int)(x:(Int×(List Int)))(c:St→Option (Ex×St)),den p9 wP (aV Gi 0) (za dQ aQ bq x) (cu mQ.kp mQ.kx c)=(jq aQ bq x).run (cB (za dQ aQ bq) (xP dQ aQ bq) c):=fun _ _ _ _ _=>by
 kernel_rfl
theorem Nz:bU p9 wP (aV Gi 0) mQ:=dh fun _ _ _=>jk<|dM fun _ _=>aH fun _=>aH fun _=>bN fun _ _=>tM<|fun h _ e9 e7 e5 e2 e1=>bS (Kg _ _ _) h (by subst_vars;exact aP rfl rfl ⟨e1,e2,e5,e7,trivial⟩ ⟨e9,trivial⟩)
def Wy:FnI:=fnI Try.f96 wP
def CV (_:Bool) (_:eF):(List Int)→ay:=fun r=>⟨(.ref (1,0) []),[],[⟨false,.il,.own,r⟩]⟩
theorem Ul:∀(zp0:Bool)(p0:eF),bR p9 Wy ⟨[(.imm zp0 gI p0)],[]⟩=(Bc p0).run fun r=>some (CV zp0 p0 r):=fun _ _=>by kernel_rfl
def Wx (av:List AV) (rs:List Root):Tre ay:=
 aD av fun a0_ av0=>
 aM av0<|
 aM rs<|
 bG gI a0_ fun z2 d1=>
 .mat (p8 d1) fun r=>.ret (CV z2 d1 r)
def Gj:Ctr:=dO [] Wx
theorem Um:Contract Try.prog .none 96 Gj:=aC (V:=p9) aW (ak axt ape aJ) Try.func96 (bL (n:=1) fun k hk=>by
 match k,hk with
 |0,_=>exact bO (id:=3) Nz) fun _ _ _=>aK fun _ _=>bA<|bA<|dM fun _ _=>fun h=>by intros;subst_vars;exact bB (Ul _ _) h
def jv (bC:List Int) (bH:Int) (dA:Int):Int→Tre (Int ⊕ (Int ⊕ Unit)):=fun s2=>
 .cond (decide (s2<dA))
  (.ite (0≤s2∧s2<(bC.length:Int))<|
  .mat (bC[s2.toNat]?) fun x1=>
  .cond (decide (bH=x1))
   (.ret (.inr (.inl s2)))
   (.ret (.inl (aF .i64 (s2+1)))))
  (.ret (.inr (.inr ())))
def slices_Index_int (p0:List Int) (p1:Int):Tre Int:=
 .mat (aO (jv p0 p1 (p0.length:Int)) 0) fun l2=>
 .alt l2
  (fun a3=>
   .ret a3)
  (fun _=>
   .ret (-1))
def qm (p0:List Int) (p1:Int):Option Int:=(slices_Index_int p0 p1).run some
def qo:Env:=⟨tau,[],[]⟩
def Hw:Code:=(Try.f101.body).getD .skip
def qp (kC:Bool) (bC:List Int) (bH:Int) (dA:Int):Int→St:=fun x=>bX [(0,(.imm kC .il bC)),(1,(.i bH)),(7,(.i dA)),(8,(.i x))] []
def kZ (_:Bool) (_:List Int) (_:Int) (_:Int):(Int ⊕ Unit)→Ex×St
 |.inl x=>(.ret,bX [(4,(.i x))] [])
 |.inr _=>(.exit 0,bX [(4,.dead)] [])
def Ay (s:St):Tre (Ex×St):=
 bG .il (s.tmps 0) fun z3 d2=>
 aA true .n (s.tmps 1) fun d5=>
 aA true .n (s.tmps 7) fun d7=>
 aA true .n (s.tmps 8) fun d9=>
 .mat (aO (jv d2 d5 d7) d9) fun x=>.alt x (fun a0=>.ret (kZ z3 d2 d5 d7 (.inl a0))) (fun b0=>.ret (kZ z3 d2 d5 d7 (.inr b0)))
def jE:bD:=⟨([0,1,7,8],[]),([4],[]),Ay⟩
def xw:List (Nat×bD):=[(2,jE)]
theorem KD:∀(kC:Bool)(bC:List Int)(bH dA x:Int)(c:St→Option (Ex×St)),den qo xw (aV Hw 0) (qp kC bC bH dA x) (cu jE.kp jE.kx c)=(jv bC bH dA x).run (cB (qp kC bC bH dA) (kZ kC bC bH dA) c):=fun _ _ _ _ _ _=>by
 kernel_rfl
theorem OB:bU qo xw (aV Hw 0) jE:=kS fun s e s' h=>by
 generalize hs:restrict jE.kp s=s1 at h
 have h:(Ay s1).run some=some (e,s'):=h
 obtain ⟨z3,d2,e1,h_0⟩:=iV h
 obtain ⟨d5,e4,h_1⟩:=dJ h_0
 obtain ⟨d7,e6,h_2⟩:=dJ h_1
 obtain ⟨d9,e8,h_3⟩:=dJ h_2
 obtain ⟨y,hy,hz⟩:=mF h_3
 refine ⟨_,_,qp z3 d2 d5 d7,kZ z3 d2 d5 d7,jv d2 d5 d7,d9,y,?_,hy,?_,KD z3 d2 d5 d7⟩
 ·subst hs;exact aP (T:=[(0,(.imm z3 .il d2)),(1,(.i d5)),(7,(.i d7)),(8,(.i d9))]) (U:=[]) rfl rfl ⟨e1,e4,e6,e8,trivial⟩ trivial
 ·rcases y with x|x<;>exact Option.some.inj hz
def Xu:FnI:=fnI Try.f101 xw
def DJ (_:Bool) (_:List Int) (_:Int):Int→ay:=fun r=>⟨(.i r),[],[]⟩
theorem UR:∀(zp0:Bool)(p0:List Int)(p1:Int),bR qo Xu ⟨[(.imm zp0 .il p0),(.i p1)],[]⟩=(slices_Index_int p0 p1).run fun r=>some (DJ zp0 p0 p1 r):=fun _ _ _=>by kernel_rfl
def Xt (av:List AV) (rs:List Root):Tre ay:=
 aD av fun a0_ av0=>
 aD av0 fun a1_ av1=>
 aM av1<|
 aM rs<|
 bG .il a0_ fun z2 d1=>
 aA true .n a1_ fun d3=>
 .mat (qm d1 d3) fun r=>.ret (DJ z2 d1 d3 r)
def Hy:Ctr:=dO [] Xt
theorem UU:Contract Try.prog .none 101 Hy:=aC (V:=qo) aW aJ Try.func101 (bL (n:=1) fun k hk=>by
 match k,hk with
 |0,_=>exact bO (id:=2) OB) fun _ _ _=>aK fun _ _=>aK fun _ _=>bA<|bA<|dM fun _ _=>aH fun _=>fun h=>by intros;subst_vars;exact bB (UR _ _ _) h
def slices_Contains_int (p0:List Int) (p1:Int):Tre Bool:=
 .mat (qm p0 p1) fun r1=>
 .ret (decide (r1 ≥ 0))
def mX (p0:List Int) (p1:Int):Option Bool:=(slices_Contains_int p0 p1).run some
def Av:Env:=⟨tau,[(101,Hy)],[]⟩
def Qt:FnI:=fnI Try.f97 []
def yj (_:Bool) (_:List Int) (_:Int):Bool→ay:=fun r=>⟨(.imm true .bool r),[],[]⟩
theorem Oz:∀(zp0:Bool)(p0:List Int)(p1:Int),bR Av Qt ⟨[(.imm zp0 .il p0),(.i p1)],[]⟩=(slices_Contains_int p0 p1).run fun r=>some (yj zp0 p0 p1 r):=fun _ _ _=>by kernel_rfl
def Qs (av:List AV) (rs:List Root):Tre ay:=
 aD av fun a0_ av0=>
 aD av0 fun a1_ av1=>
 aM av1<|
 aM rs<|
 bG .il a0_ fun z2 d1=>
 aA true .n a1_ fun d3=>
 .mat (mX d1 d3) fun r=>.ret (yj z2 d1 d3 r)
def Aw:Ctr:=dO [] Qs
theorem OA:Contract Try.prog .none 97 Aw:=aC (V:=Av) aW (ak UU axa aJ) Try.func97 bP fun _ _ _=>aK fun _ _=>aK fun _ _=>bA<|bA<|dM fun _ _=>aH fun _=>fun h=>by intros;subst_vars;exact bB (Oz _ _ _) h
def jo (pR:Int) (vg:Int) (FK:eF) (FL:List Int):(Int×(List Int))→Tre ((Int×(List Int)) ⊕ (List Int)):=fun s9=>
 .cond (decide (s9.1<vg))
  (.ite (0≤s9.1∧s9.1<(FL.length:Int))<|
  .mat (FL[s9.1.toNat]?) fun x5=>
  .ite (0≤s9.1∧s9.1<(FK.2.2.1.length:Int))<|
  .mat (FK.2.2.1[s9.1.toNat]?) fun x6=>
  .ite (0≤pR∧pR<(x6.length:Int))<|
  .mat (x6[pR.toNat]?) fun x7=>
  .ite (0≤x5∧x5<(s9.2.length:Int))<|
  .mat (s9.2[x5.toNat]?) fun _=>
  .ret (.inl (aF .i64 (s9.1+1),s9.2.set x5.toNat x7)))
  (.ret (.inr s9.2))
def jm (aQ:Int) (dx:eF) (dK:List Int):(Int×(List (List Int)))→Tre ((Int×(List (List Int))) ⊕ (List (List Int))):=fun s3=>
 .cond (decide (s3.1<aQ))
  (.mat (mX dK s3.1) fun r2=>
  .cond r2
   (.ret (.inl (aF .i64 (s3.1+1),s3.2)))
   (.ite ((.n:K)=.n∧0≤dx.2.1∧dx.2.1=dx.2.1∧dx.2.1*(8:Nat)≤140737488355328∧1≤8)<|
   .ite (0≤s3.1∧s3.1<((List.replicate dx.2.1.toNat (0:Int)).length:Int))<|
   .mat ((List.replicate dx.2.1.toNat (0:Int))[s3.1.toNat]?) fun _=>
   let v4:=(List.replicate dx.2.1.toNat (0:Int)).set s3.1.toNat 1
   .mat (aO (jo s3.1 (dK.length:Int) dx dK) (0,v4)) fun l9=>
   .ite ((s3.2.length+1)*24≤bE∧1≤24)<|
   .ret (.inl (aF .i64 (s3.1+1),s3.2++([l9])))))
  (.ret (.inr s3.2))
def Bb (p0:eF):Tre eF:=
 .mat (p8 p0) fun r1=>
 .mat (aO (jm p0.2.1 p0 r1) (0,[])) fun l10=>
 .mat (oO p0.1 p0.2.1 l10) fun r11=>
 .ret (p0.1,(p0.2.1,(r11,())))
def pX (p0:eF):Option eF:=(Bb p0).run some
def jO:Env:=⟨tau,[(96,Gj),(97,Aw),(77,AZ)],[(1000000,[((4,0),[.snd,.snd,.fst],false)])]⟩
def pY:Code:=(Try.f79.body).getD .skip
def y9 (ao1:Bool) (pR:Int) (u7:Int) (V7:Int) (vg:Int) (FK:eF) (V8:eF) (FL:List Int) (V9:(List (List Int))):(Int×(List Int))→St:=fun x=>bX [(1,(.ptr (3,0) [])),(2,(.ptr (4,0) [])),(3,(.ref (5,0) [])),(4,(.ref (6,0) [])),(5,(.i pR)),(6,(.ref (8,0) [])),(13,(.i u7)),(14,(.i V7)),(26,(.ref (5,0) [])),(27,(.i vg)),(28,(.i x.1))] [((3,0),some ⟨true,gI,(.imm ao1),FK⟩),((4,0),some ⟨true,gI,.own,V8⟩),((5,0),some ⟨false,.il,.own,FL⟩),((6,0),some ⟨false,(.sl .il),.own,V9⟩),((8,0),some ⟨false,.il,.own,x.2⟩)]
def xO (ao1:Bool) (_:Int) (u7:Int) (V7:Int) (_:Int) (FK:eF) (V8:eF) (FL:List Int) (V9:(List (List Int))):(List Int)→Ex×St:=fun x=>(.exit 2,bX [(1,(.ptr (3,0) [])),(2,(.ptr (4,0) [])),(3,(.ref (5,0) [])),(4,(.ref (6,0) [])),(6,(.ref (8,0) [])),(13,(.i u7)),(14,(.i V7))] [((3,0),some ⟨true,gI,(.imm ao1),FK⟩),((4,0),some ⟨true,gI,.own,V8⟩),((5,0),some ⟨false,.il,.own,FL⟩),((6,0),some ⟨false,(.sl .il),.own,V9⟩),((8,0),some ⟨false,.il,.own,x⟩)])
def P9 (s:St):Tre (Ex×St):=
 dH (3,0) [] (s.tmps 1)<|
 dH (4,0) [] (s.tmps 2)<|
 dW (5,0) [] (s.tmps 3)<|
 dW (6,0) [] (s.tmps 4)<|
 aA true .n (s.tmps 5) fun d6=>
 dW (8,0) [] (s.tmps 6)<|
 aA true .n (s.tmps 13) fun d9=>
 aA true .n (s.tmps 14) fun d11=>
 dW (5,0) [] (s.tmps 26)<|
 aA true .n (s.tmps 27) fun d14=>
 aA true .n (s.tmps 28) fun d16=>
 aX true gI (s.roots (3,0)) fun m18 d19=>
 fB m18 fun z20=>
 aX true gI (s.roots (4,0)) fun m22 d23=>
 asM .own m22<|
 aX false .il (s.roots (5,0)) fun m25 d26=>
 asM .own m25<|
 aX false (.sl .il) (s.roots (6,0)) fun m28 d29=>
 asM .own m28<|
 aX false .il (s.roots (8,0)) fun m31 d32=>
 asM .own m31<|
 .mat (aO (jo d6 d14 d19 d26) (d16,d32)) fun x=>.ret (xO z20 d6 d9 d11 d14 d19 d23 d26 d29 x)
def mP:bD:=⟨([1,2,3,4,5,6,13,14,26,27,28],[(3,0),(4,0),(5,0),(6,0),(8,0)]),([1,2,3,4,6,13,14],[(3,0),(4,0),(5,0),(6,0),(8,0)]),P9⟩
def y8 (dQ:Bool) (aQ:Int) (dx:eF) (cZ:eF) (dK:List Int):(Int×(List (List Int)))→St:=fun x=>bX [(1,(.ptr (3,0) [])),(2,(.ptr (4,0) [])),(3,(.ref (5,0) [])),(4,(.ref (6,0) [])),(13,(.i aQ)),(14,(.i x.1))] [((3,0),some ⟨true,gI,(.imm dQ),dx⟩),((4,0),some ⟨true,gI,.own,cZ⟩),((5,0),some ⟨false,.il,.own,dK⟩),((6,0),some ⟨false,(.sl .il),.own,x.2⟩)]
def xM (dQ:Bool) (_:Int) (dx:eF) (cZ:eF) (_:List Int):(List (List Int))→Ex×St:=fun x=>(.exit 0,bX [(1,(.ptr (3,0) [])),(2,(.ptr (4,0) [])),(4,(.ref (6,0) []))] [((3,0),some ⟨true,gI,(.imm dQ),dx⟩),((4,0),some ⟨true,gI,.own,cZ⟩),((6,0),some ⟨false,(.sl .il),.own,x⟩)])
def P8 (s:St):Tre (Ex×St):=
 dH (3,0) [] (s.tmps 1)<|
 dH (4,0) [] (s.tmps 2)<|
 dW (5,0) [] (s.tmps 3)<|
 dW (6,0) [] (s.tmps 4)<|
 aA true .n (s.tmps 13) fun d6=>
 aA true .n (s.tmps 14) fun d8=>
 aX true gI (s.roots (3,0)) fun m10 d11=>
 fB m10 fun z12=>
 aX true gI (s.roots (4,0)) fun m14 d15=>
 asM .own m14<|
 aX false .il (s.roots (5,0)) fun m17 d18=>
 asM .own m17<|
 aX false (.sl .il) (s.roots (6,0)) fun m20 d21=>
 asM .own m20<|
 .mat (aO (jm d6 d11 d18) (d8,d21)) fun x=>.ret (xM z12 d6 d11 d15 d18 x)
def mO:bD:=⟨([1,2,3,4,13,14],[(3,0),(4,0),(5,0),(6,0)]),([1,2,4],[(3,0),(4,0),(6,0)]),P8⟩
def mD:List (Nat×bD):=[(9,mP),(3,mO)]
theorem Ke:∀(ao1:Bool)(pR u7 V7 vg:Int)(FK V8:eF)(FL:List Int)(V9:(List (List Int)))(x:(Int×(List Int)))(c:St→Option (Ex×St)),den jO mD (aV pY 1) (y9 ao1 pR u7 V7 vg FK V8 FL V9 x) (cu mP.kp mP.kx c)=(jo pR vg FK FL x).run (cB (y9 ao1 pR u7 V7 vg FK V8 FL V9) (xO ao1 pR u7 V7 vg FK V8 FL V9) c):=fun _ _ _ _ _ _ _ _ _ _ _=>by
 kernel_rfl
theorem Ny:bU jO mD (aV pY 1) mP:=dh fun _ _ _=>fJ<|fJ<|jk<|jk<|aH fun _=>jk<|aH fun _=>aH fun _=>jk<|aH fun _=>aH fun _=>bN fun _ _=>ku fun _=>bN fun _ _=>tM<|bN fun _ _=>tM<|bN fun _ _=>tM<|bN fun _ _=>tM<|fun h _ e30 _ e27 _ e24 _ e21 _ e17 e15 e13 e12 e10 e8 e7 e5 e4 e3 e2 e1=>bS (Ke _ _ _ _ _ _ _ _ _) h (by subst_vars;exact aP rfl rfl ⟨e1,e2,e3,e4,e5,e7,e8,e10,e12,e13,e15,trivial⟩ ⟨e17,e21,e24,e27,e30,trivial⟩)
theorem Kc:∀(dQ:Bool)(aQ:Int)(dx cZ:eF)(dK:List Int)(x:(Int×(List (List Int))))(c:St→Option (Ex×St)),den jO mD (aV pY 0) (y8 dQ aQ dx cZ dK x) (cu mO.kp mO.kx c)=(jm aQ dx dK x).run (cB (y8 dQ aQ dx cZ dK) (xM dQ aQ dx cZ dK) c):=fun _ _ _ _ _ _ _=>by
 kernel_rfl
theorem Nw:bU jO mD (aV pY 0) mO:=dh fun _ _ _=>fJ<|fJ<|jk<|jk<|aH fun _=>aH fun _=>bN fun _ _=>ku fun _=>bN fun _ _=>tM<|bN fun _ _=>tM<|bN fun _ _=>tM<|fun h _ e19 _ e16 _ e13 _ e9 e7 e5 e4 e3 e2 e1=>bS (Kc _ _ _ _ _) h (by subst_vars;exact aP rfl rfl ⟨e1,e2,e3,e4,e5,e7,trivial⟩ ⟨e9,e13,e16,e19,trivial⟩)
def Ww:FnI:=fnI Try.f79 mD
def CU (_:Bool) (_:eF):eF→ay:=fun r=>⟨(.imm true gI r),[],[]⟩
theorem Uj:∀(zp0:Bool)(p0:eF),bR jO Ww ⟨[(.imm zp0 gI p0)],[]⟩=(Bb p0).run fun r=>some (CU zp0 p0 r):=fun _ _=>by kernel_rfl
def Wv (av:List AV) (rs:List Root):Tre ay:=
 aD av fun a0_ av0=>
 aM av0<|
 aM rs<|
 bG gI a0_ fun z2 d1=>
 .mat (pX d1) fun r=>.ret (CU z2 d1 r)
def Gh:Ctr:=dO [] Wv
theorem Uk:Contract Try.prog .none 79 Gh:=aC (V:=jO) aW (ak Um ayV (ak OA ayW (ak Jb awt aJ))) Try.func79 (bL (n:=2) fun k hk=>by
 match k,hk with
 |0,_=>exact bO (id:=3) Nw
 |1,_=>exact bO (id:=9) Ny) fun _ _ _=>aK fun _ _=>bA<|bA<|dM fun _ _=>fun h=>by intros;subst_vars;exact bB (Uj _ _) h
def vW (p0:(Int×(Int×Unit))) (p1:Int) (p2:(List (List Int))):Tre (Unit ⊕ (List Int)):=
 .mat (oO p0 p1 p2) fun r1=>
 .cond (decide ((r1.length:Int)=p1))
  (.ret (.inl ()))
  (.mat (pX (p0,(p1,(r1,())))) fun r2=>
  .ite ((0:Int)≤0∧(0:Int)<(r2.2.2.1.length:Int))<|
  .mat (r2.2.2.1[0]?) fun x3=>
  .ret (.inr x3))
def kK (p0:(Int×(Int×Unit))) (p1:Int) (p2:(List (List Int))):Option (Unit ⊕ (List Int)):=(vW p0 p1 p2).run some
-- more
theorem atr{r:List Int}{q:Nat}(hq:r[q]?=some 1)(hz:∀e,e<q→r[e]?=some 0)(hl:r.length≤1000000):apF r=some (q:Int):=by
 have hql:=(List.getElem?_eq_some_iff.1 hq).1
 unfold apF nm3
 rw [ah (show aO (WV r (r.length:Int)) 0=some (.inl (q:Int)) from ?_)]
 ·rfl
 refine dZ (fun i=>(i:Int)) q _ (fun i hi=>?_) ?_
 ·unfold WV
  rw [fU (hz i hi),Tre.aB,decide_eq_true rfl,Bool.not_true,cond_false,Tre.aI,aU (by omega)]
 ·unfold WV
  rw [fU hq,Tre.aB,decide_eq_false (by decide),Bool.not_false,cond_true,Tre.aI]
theorem aq7{f:TF3}{n a:Nat}{G:List (List Int)}{p:List Nat}(h:yw f n n a G p)(hn:n≤1000)(f0:TF3)(n0:Int):p8 (f0,n0,G.take a,())=some (aR p):=by
 have hal:=h.al
 have han:=h.ac
 have hpl:=h.pl
 have hlen:(G.take a).length=a:=by rw [List.length_take];omega
 unfold p8 Bc
 dsimp only
 rw [ah (show aO (jq (G.take a) ((G.take a).length:Int)) (0,[])=some (aR p) from ?_),Tre.aI]
 refine dZ (fun i=>((i:Int),aR (p.take i))) a _ (fun i hi=>?_) ?_
 ·obtain ⟨r,hr,hrok,_⟩:=h.row hi
  obtain ⟨q,hq,hqn⟩:=h.piv hi
  obtain ⟨l1,l2⟩:=h.aps hi hr hq
  unfold jq
  dsimp only
  rw [fU hr,ah (atr l1 l2 (by rw [hrok.1];omega)),Tre.run_ite,if_pos (by rw [aN,List.length_take];unfold bE;omega),Tre.aI,aU (by omega)]
  rw [List.take_add_one,hq]
  unfold aR
  rw [List.map_append]
  rfl
 ·unfold jq
  dsimp only
  rw [hlen,eY,Tre.aI,List.take_of_length_le (by omega)]
theorem ajx{p:List Nat}(hp:p.length≤1000)(c:Nat):mX (aR p) (c:Int)=some (decide (c∈p)):=by
 have h1:qm (aR p) (c:Int)=some (qA (fun x=>decide ((c:Int)=x)) 0 (aR p)):=by
  unfold qm slices_Index_int
  rw [Tre.oC,E9 (xs:=aR p) (fun i x=>cond (decide ((c:Int)=x)) (some (.inl (i:Int))) none) (.inr ())]
  ·rw [Option.bind_some,←KL (p:=fun x=>decide ((c:Int)=x))]
   generalize KJ _ _ _ _=r
   cases r<;>rfl
  ·intro i x hx
   have hi:i<(aR p).length:=(List.getElem?_eq_some_iff.1 hx).1
   rw [aN] at hi
   unfold jv
   rw [fU hx,Tre.aB]
   cases decide ((c:Int)=x)
   ·simp only [cond_false,Tre.aI,aU (show i<4611686018427387904 by omega)]
   ·rfl
  ·unfold jv
   exact eY
 unfold mX slices_Contains_int
 rw [ah h1]
 have h2:decide (qA (fun x=>decide ((c:Int)=x)) 0 (aR p) ≥ 0)=decide (c∈p):=by
  rcases Bl (fun x=>decide ((c:Int)=x)) (aR p) 0 with ⟨e,hno⟩|⟨k,x,hk,hx,e⟩
  ·rw [e,decide_eq_false (by omega)]
   refine (decide_eq_false fun hc=>?_).symm
   have:=hno (c:Int) (List.mem_map.2 ⟨c,hc,rfl⟩)
   simp at this
  ·rw [e,decide_eq_true (by omega)]
   refine (decide_eq_true ?_).symm
   have hx:=of_decide_eq_true hx
   subst hx
   obtain ⟨y,hy,hyc⟩:=List.mem_map.1 (List.mem_of_getElem? hk)
   have:y=c:=by omega
   exact this ▸ hy
 rw [Tre.aI,h2]
def OL(n:Nat)(p:List Nat)(E:List (List Int))(m:Nat):List (List Int):=((List.range m).filter fun c=>!decide (c∈p)).map fun c=>YS n c p E
theorem ahY(n:Nat)(p:List Nat)(E:List (List Int))(m:Nat):(OL n p E m).length≤m:=by
 unfold OL
 rw [List.length_map]
 have:=List.length_filter_le (fun c=>!decide (c∈p)) (List.range m)
 rw [List.length_range] at this
 exact this
theorem atp{f:TF3}(hf:aG f=true){n a:Nat}{G:List (List Int)}{p:List Nat}(h:yw f n n a G p)(hn:n≤1000):pX (f,(n:Int),G.take a,())=some (f,(n:Int),JW f n (OL n p (G.take a) n),()):=by
 have hal:=h.al
 have han:=h.ac
 have hpl:=h.pl
 have hlen:(G.take a).length=a:=by rw [List.length_take];omega
 have hrow:∀c,c<n→aO (jo (c:Int) ((aR p).length:Int) (f,(n:Int),G.take a,()) (aR p)) (0,(List.replicate n (0:Int)).set c 1)=some (YS n c p (G.take a)):=by
  intro c hc
  refine dZ (fun i=>((i:Int),kT c (zR n c) ((p.zip (G.take a)).take i))) a _ (fun i hi=>?_) ?_
  ·obtain ⟨r,hr,hrok,_⟩:=h.row hi
   obtain ⟨q,hq,hqn⟩:=h.piv hi
   have hok:okV f n (kT c (zR n c) ((p.zip (G.take a)).take i)):=N9 _ (Mk hf n c) fun x hx=>by
    have:=List.of_mem_zip (a:=x.1) (b:=x.2) (List.mem_of_mem_take hx)
    exact h.gr _ (List.mem_of_mem_take this.2)
   have hrc:=List.getElem?_eq_getElem (show c<r.length by rw [hrok.1];exact hc)
   have hoq:=List.getElem?_eq_getElem (show q<(kT c (zR n c) ((p.zip (G.take a)).take i)).length by rw [hok.1];exact hqn)
   have hrl:c<r.length:=by rw [hrok.1];exact hc
   have hol:q<(kT c (zR n c) ((p.zip (G.take a)).take i)).length:=by rw [hok.1];exact hqn
   unfold jo
   dsimp only
   rw [fU (fT hq),jg hr,jg hrc,jg hoq,Tre.aI,aU (by omega),Int.toNat_natCast,aou hq hr,tL hrc]
  ·unfold jo
   dsimp only
   rw [aN,hpl,eY,Tre.aI,List.take_of_length_le (by rw [List.length_zip];omega)]
   rfl
 have hrows:aO (jm (n:Int) (f,(n:Int),G.take a,()) (aR p)) (0,[])=some (OL n p (G.take a) n):=by
  refine dZ (fun c=>((c:Int),OL n p (G.take a) c)) n _ (fun c hc=>?_) ?_
  ·have hfl:=ahY n p (G.take a) c
   have hsu:OL n p (G.take a) (c+1)=if c∈p then OL n p (G.take a) c else OL n p (G.take a) c++[YS n c p (G.take a)]:=by
    unfold OL
    rw [List.range_succ,List.filter_append,List.map_append]
    by_cases hcp:c∈p
    ·rw [if_pos hcp,List.filter_cons,if_neg (by simp [hcp])];simp
    ·rw [if_neg hcp,List.filter_cons,if_pos (by simp [hcp])];rfl
   unfold jm
   dsimp only
   rw [Tre.aB,decide_eq_true (by omega),cond_true,ah (ajx (by omega) c),Tre.aB]
   by_cases hcp:c∈p
   ·rw [decide_eq_true hcp,cond_true,Tre.aI,aU (by omega),hsu,if_pos hcp]
   ·rw [decide_eq_false hcp,cond_false,Tre.run_ite,if_pos ⟨rfl,by omega,rfl,by omega,by omega⟩,Int.toNat_natCast]
    rw [jg (show (List.replicate n (0:Int))[c]?=some 0 by rw [List.getElem?_replicate,if_pos hc])]
    rw [Int.toNat_natCast,ah (hrow c hc),Tre.run_ite,if_pos (by unfold bE;omega),Tre.aI,aU (by omega),hsu,if_neg hcp]
  ·unfold jm
   dsimp only
   rw [eY,Tre.aI]
 have hgr:GR f n (OL n p (G.take a) n):=by
  intro r hr
  obtain ⟨c,_,rfl⟩:=List.mem_map.1 hr
  exact amc hf h c
 unfold pX Bb
 dsimp only
 rw [ah (aq7 h hn _ _),ah hrows,ah (apq hf (by omega) hgr (by have:=ahY n p (G.take a) n;omega)),Tre.aI]
theorem aob{f:TF3}(hf:aG f=true){n:Nat}(hn:n≤1000){L:List (List Int)}(h:GR f n L)(hL:L.length≤1000) :
  ((JW f n L).length=n∧kK f (n:Int) L=some (.inl ()))∨((JW f n L).length≠n∧∃x,kK f (n:Int) L=some (.inr x)∧aiG f n L x):=by
 have hr:=apq hf (show n≤1000000 by omega) h (by omega)
 by_cases hl:(JW f n L).length=n
 ·refine .inl ⟨hl,?_⟩
  unfold kK vW
  rw [ah hr,Tre.aB,decide_eq_true (by omega)]
  rfl
 ·refine .inr ⟨hl,?_⟩
  obtain ⟨p,hI,hlen⟩:=yw.all hf (Nat.le_refl n) h
  have hel:=aeo hf (m:=n) h
  have hE:JW f n L=(jQ f 0 n (0,L)).2.take (jQ f 0 n (0,L)).1:=rfl
  generalize hs:jQ f 0 n (0,L)=s at hI hlen hel hE
  obtain ⟨a,G⟩:=s
  dsimp only at hI hlen hel hE
  have hal:=hI.al
  have hac:=hI.ac
  obtain ⟨c,hc,hcp⟩:=asV (n:=n) hI.pinc (by rw [hI.pl];omega)
  have hgr:GR f n (OL n p (G.take a) n):=by
   intro r hr
   obtain ⟨c,_,rfl⟩:=List.mem_map.1 hr
   exact amc hf hI c
  obtain ⟨x,hx,hk⟩:=avq hf (E:=G.take a) (D:=OL n p (G.take a) n) (fun r hr=>hI.gr r (List.mem_of_mem_take hr)) hgr (fun r hr y hy=>by
   obtain ⟨c',hc',rfl⟩:=List.mem_map.1 hy
   obtain ⟨h1,h2⟩:=List.mem_filter.1 hc'
   exact ars hf hI (List.mem_range.1 h1) (by simpa using h2) r hr) hc (d:=YS n c p (G.take a)) (List.mem_map.2 ⟨c,List.mem_filter.2 ⟨List.mem_range.2 hc,by simp [hcp]⟩,rfl⟩) (atK hI hc hcp)
  refine ⟨x,?_,aiG.axE hf h (hE ▸ hk)⟩
  have hxl:=(List.getElem?_eq_some_iff.1 hx).1
  unfold kK vW
  rw [ah hr,Tre.aB,decide_eq_false (by omega),cond_false,hE,ah (atp hf hI hn)]
  dsimp only
  rw [Tre.run_ite,if_pos ⟨by omega,by omega⟩,ah hx,Tre.aI]
def I8:Env:=⟨tau,[(77,AZ),(78,O9),(79,Gh)],[(1000001,[])]⟩
def X5:FnI:=fnI Try.f53 []
def vB (_:Bool) (_:(Int×(Int×Unit))) (_:Int) (_:(List (List Int))):(Unit ⊕ (List Int))→ay
 |.inl _=>⟨.nil,[],[]⟩
 |.inr r=>⟨(.imm true .il r),[],[]⟩
theorem Wi:∀(zp0:Bool)(p0:(Int×(Int×Unit)))(p1:Int)(p2:(List (List Int))),bR I8 X5 ⟨[(.imm true aL p0),(.i p1),(.imm zp0 (.sl .il) p2)],[]⟩=(vW p0 p1 p2).run fun r=>some (vB zp0 p0 p1 p2 r):=fun _ _ _ _=>by kernel_rfl
def X4 (av:List AV) (rs:List Root):Tre ay:=
 aD av fun a0_ av0=>
 aD av0 fun a1_ av1=>
 aD av1 fun a2_ av2=>
 aM av2<|
 aM rs<|
 aA true aL a0_ fun d1=>
 aA true .n a1_ fun d2=>
 bG (.sl .il) a2_ fun z4 d3=>
 .mat (kK d1 d2 d3) fun r=>.alt r (fun a0=>.ret (vB z4 d1 d2 d3 (.inl a0))) (fun b0=>.ret (vB z4 d1 d2 d3 (.inr b0)))
def I9:Ctr:=dO [] X4
theorem Wj:Contract Try.prog .none 53 I9:=aC (V:=I8) aW (ak Jb awt (ak aaI ayJ (ak Uk ayK aJ))) Try.func53 bP fun _ _ _=>aK fun _ _=>aK fun _ _=>aK fun _ _=>bA<|bA<|aH fun _=>aH fun _=>dM fun _ _=>fun h=>by intros;subst_vars;exact ak3 (Wi _ _ _ _) h (by rintro (x|x)<;>rfl)
def Fg:(List Int)→Tre ((List Int) ⊕ (List Int)):=fun s1=>
 .cond (decide ((s1.length:Int)>0))
  (let v1:=aF .i64 ((s1.length:Int)-1)
  .ite (0≤v1∧v1<(s1.length:Int))<|
  .mat (s1[v1.toNat]?) fun x2=>
  .cond (decide (x2=0))
   (.ite (0≤(0:Int)∧(0:Int)≤v1∧v1≤(s1.length:Int))<|
   let v3:=(s1.drop 0).take (v1-0).toNat
   .ret (.inl v3))
   (.ret (.inr s1)))
  (.ret (.inr s1))
def an5 (p0:List Int):Tre (List Int):=
 .mat (aO Fg p0) fun l4=>
 .ret l4
def RO (p0:List Int):Option (List Int):=(an5 p0).run some
-- more
theorem afe{l:List Nat}{n:Nat}(hn:0<n)(hl:n≤l.length)(hl2:l.length≤1000):(Fg (aR (l.take n))).run some=some (if cf l (n-1)=0 then .inl (aR (l.take (n-1))) else .inr (aR (l.take n))):=by
 have hlen:(aR (l.take n)).length=n:=by rw [aN,List.length_take];omega
 have hx:(aR (l.take n))[n-1]?=some (cf l (n-1):Int):=by
  refine fT ?_
  rw [List.getElem?_take_of_lt (by omega)];exact jH (by omega)
 have hm:aF .i64 (((aR (l.take n)).length:Int)-1)=((n-1:Nat):Int):=by rw [hlen,qd (by omega) (by omega)]
 unfold Fg
 dsimp only
 rw [Tre.aB,decide_eq_true (by omega),cond_true]
 rw [hm,jg hx,Tre.aB]
 by_cases h0:cf l (n-1)=0
 ·rw [if_pos h0,decide_eq_true (by omega),cond_true,Tre.run_ite,if_pos (by omega),Tre.aI]
  have he:(((n-1:Nat):Int)-0).toNat=n-1:=by omega
  rw [he,List.drop_zero,←ah8,List.take_take,Nat.min_eq_left (by omega)]
 ·rw [if_neg h0,decide_eq_false (by omega),cond_false,Tre.aI]
theorem alH{l:List Nat}(hl2:l.length≤1000):RO (aR l)=some (aR (dF l)):=by
 have htl:=mo l
 unfold RO an5
 rw [ah (show aO Fg (aR l)=some (aR (dF l)) from ?_),Tre.aI]
 have h0:aR l=aR (l.take (l.length-0)):=by rw [Nat.sub_zero,List.take_length]
 rw [h0]
 refine dZ (fun i=>aR (l.take (l.length-i))) (l.length-(dF l).length) _ (fun i hi=>?_) ?_
 ·rw [afe (by omega) (by omega) hl2,if_pos (MC (by omega)),Nat.sub_sub]
 ·rw [show l.length-(l.length-(dF l).length)=(dF l).length by omega]
  by_cases hz:(dF l).length=0
  ·have:dF l=[]:=List.length_eq_zero_iff.1 hz
   rw [hz,List.take_zero,this]
   rfl
  ·rw [afe (by omega) htl hl2,if_neg ((ZH l).resolve_left hz),akh]
def Yt:Env:=⟨tau,[],[]⟩
def alq:Code:=(Try.f35.body).getD .skip
def Yu (aoW:Bool):(List Int)→St:=fun x=>bX [(0,(.imm aoW .il x))] []
def Vf (aoW:Bool):(List Int)→Ex×St:=fun x=>(.exit 0,bX [(0,(.imm aoW .il x))] [])
def als (s:St):Tre (Ex×St):=
 bG .il (s.tmps 0) fun z3 d2=>
 .mat (aO Fg d2) fun x=>.ret (Vf z3 x)
def Js:bD:=⟨([0],[]),([0],[]),als⟩
def ae5:List (Nat×bD):=[(1,Js)]
theorem ae6:∀(aoW:Bool)(x:List Int)(c:St→Option (Ex×St)),den Yt ae5 (aV alq 0) (Yu aoW x) (cu Js.kp Js.kx c)=(Fg x).run (cB (Yu aoW) (Vf aoW) c):=fun _ _ _=>by
 kernel_rfl
theorem ajo:bU Yt ae5 (aV alq 0) Js:=dh fun _ _ _=>dM fun _ _=>fun h e1=>bS (ae6 _) h (by subst_vars;exact aP rfl rfl ⟨e1,trivial⟩ trivial)
def ate:FnI:=fnI Try.f35 ae5
def ae7 (zp0:Bool) (_:List Int):(List Int)→ay:=fun r=>⟨(.imm zp0 .il r),[],[]⟩
theorem aqX:∀(zp0:Bool)(p0:List Int),bR Yt ate ⟨[(.imm zp0 .il p0)],[]⟩=(an5 p0).run fun r=>some (ae7 zp0 p0 r):=fun _ _=>by kernel_rfl
def atd (av:List AV) (rs:List Root):Tre ay:=
 aD av fun a0_ av0=>
 aM av0<|
 aM rs<|
 bG .il a0_ fun z2 d1=>
 .mat (RO d1) fun r=>.ret (ae7 z2 d1 r)
def alr:Ctr:=dO [0] atd
theorem aqY:Contract Try.prog .none 35 alr:=aC (V:=Yt) aW aJ Try.func35 (bL (n:=1) fun k hk=>by
 match k,hk with
 |0,_=>exact bO (id:=1) ajo) fun _ _ _=>aK fun _ _=>bA<|bA<|dM fun _ _=>fun h=>by intros;subst_vars;exact bB (aqX _ _) h
def fu:((List Int) ⊕ (Nat×Nat×(List Int)))→Tre (((List Int) ⊕ (Nat×Nat×(List Int))) ⊕ ((List Int) ⊕ (Nat×Nat×(List Int))))
 |.inl s1=>
  .cond (decide ((s1.length:Int)>0))
   (let v1:=aF .i64 ((s1.length:Int)-1)
   .ite (0≤v1∧v1<(s1.length:Int))<|
   .mat (s1[v1.toNat]?) fun x2=>
   .cond (decide (x2=0))
    (.ite (0≤(0:Int)∧(0:Int)≤v1∧v1≤(s1.length:Int))<|
    .ret (.inl (.inr (0,(v1-0).toNat,s1))))
    (.ret (.inr (.inl s1))))
   (.ret (.inr (.inl s1)))
 |.inr s1=>
  .cond (decide ((s1.2.1:Int)>0))
   (let v3:=aF .i64 ((s1.2.1:Int)-1)
   .ite (0≤v3∧v3<(s1.2.1:Int))<|
   .mat (s1.2.2[s1.1+v3.toNat]?) fun x4=>
   .cond (decide (x4=0))
    (.ite (0≤(0:Int)∧(0:Int)≤v3∧v3≤(s1.2.1:Int))<|
    .ret (.inl (.inr (s1.1+0,(v3-0).toNat,s1.2.2))))
    (.ret (.inr (.inr (s1.1,s1.2.1,s1.2.2)))))
   (.ret (.inr (.inr (s1.1,s1.2.1,s1.2.2))))
def RN (p0:List Int):Tre ((List Int) ⊕ (Nat×Nat×(List Int))):=
 .mat (aO fu (.inl p0)) fun l5=>
 .alt l5
  (fun a6=>
   .ret (.inl a6))
  (fun b7=>
   .ret (.inr (b7.1,b7.2.1,b7.2.2)))
def qI (p0:List Int):Option ((List Int) ⊕ (Nat×Nat×(List Int))):=(RN p0).run some
-- more
def azn:(List Int) ⊕ (Nat×Nat×(List Int))→List Int
 |.inl a=>a
 |.inr b=>(b.2.2.drop b.1).take b.2.1
def st4(l:List Nat)(n:Nat):(List Int) ⊕ (Nat×Nat×(List Int)):=if n=l.length then .inl (aR l) else .inr (0,n,aR l)
theorem aaK{l:List Nat}(hl2:l.length≤1000):∃r,qI (aR l)=some r∧azn r=aR (dF l):=by
 have htl:=mo l
 have hlen:=aN l
 have hx:∀n,0<n→n≤l.length→(aR l)[n-1]?=some (cf l (n-1):Int):=fun n h1 h2=>fT (jH (by omega))
 have hstep:∀n,0<n→n≤l.length→cf l (n-1)=0→(fu (if n=l.length then .inl (aR l) else .inr (0,n,aR l))).run some=some (.inl (.inr (0,n-1,aR l))):=by
  intro n h1 h2 h0
  by_cases hn:n=l.length
  ·have hm:aF .i64 (((aR l).length:Int)-1)=((n-1:Nat):Int):=by rw [hlen,←hn,qd (by omega) (by omega)]
   rw [if_pos hn]
   unfold fu
   dsimp only
   rw [Tre.aB,decide_eq_true (by omega),cond_true,hm,jg (hx n h1 h2),Tre.aB,decide_eq_true (by omega),cond_true,Tre.run_ite,if_pos (by omega),Tre.aI]
   rw [show (((n-1:Nat):Int)-0).toNat=n-1 by omega]
  ·have hm:aF .i64 ((n:Int)-1)=((n-1:Nat):Int):=qd (by omega) (by omega)
   rw [if_neg hn]
   unfold fu
   dsimp only
   rw [Tre.aB,decide_eq_true (by omega),cond_true,hm,Tre.run_ite,if_pos (by omega),Int.toNat_natCast,Nat.zero_add,ah (hx n h1 h2),Tre.aB,decide_eq_true (by omega),cond_true,Tre.run_ite,if_pos (by omega),Tre.aI]
   rw [show (((n-1:Nat):Int)-0).toNat=n-1 by omega]
 have hend:∀n,n≤l.length→(n=0∨cf l (n-1)≠0)→∃r,(fu (if n=l.length then .inl (aR l) else .inr (0,n,aR l))).run some=some (.inr r)∧r=if n=l.length then .inl (aR l) else .inr (0,n,aR l):=by
  intro n h2 h0
  refine ⟨_,?_,rfl⟩
  by_cases hn:n=l.length
  ·have hm:0<n→aF .i64 (((aR l).length:Int)-1)=((n-1:Nat):Int):=fun h1=>by rw [hlen,←hn,qd (by omega) (by omega)]
   rw [if_pos hn]
   unfold fu
   dsimp only
   by_cases h1:n=0
   ·rw [Tre.aB,decide_eq_false (by omega),cond_false,Tre.aI]
   ·have h0:=h0.resolve_left h1
    rw [Tre.aB,decide_eq_true (by omega),cond_true,hm (by omega),jg (hx n (by omega) h2),Tre.aB,decide_eq_false (by omega),cond_false,Tre.aI]
  ·rw [if_neg hn]
   unfold fu
   dsimp only
   by_cases h1:n=0
   ·rw [Tre.aB,decide_eq_false (by omega),cond_false,Tre.aI]
   ·have hm:aF .i64 ((n:Int)-1)=((n-1:Nat):Int):=qd (by omega) (by omega)
    have h0:=h0.resolve_left h1
    rw [Tre.aB,decide_eq_true (by omega),cond_true,hm,Tre.run_ite,if_pos (by omega),Int.toNat_natCast,Nat.zero_add,ah (hx n (by omega) h2),Tre.aB,decide_eq_false (by omega),cond_false,Tre.aI]
 obtain ⟨r,hr1,hr2⟩:=hend (dF l).length htl (ZH l)
 refine ⟨r,?_,?_⟩
 ·unfold qI RN
  have hl:aO fu (.inl (aR l))=some r:=by
   have h0:(.inl (aR l):(List Int) ⊕ (Nat×Nat×(List Int)))=st4 l (l.length-0):=by simp [st4]
   rw [h0]
   refine dZ (fun i=>st4 l (l.length-i)) (l.length-(dF l).length) _ (fun i hi=>?_) ?_
   ·unfold st4
    rw [hstep (l.length-i) (by omega) (by omega) (MC (by omega))]
    rw [if_neg (show ¬l.length-(i+1)=l.length by omega),Nat.sub_sub]
   ·rw [show l.length-(l.length-(dF l).length)=(dF l).length by omega];exact hr1
  rw [ah hl]
  cases r<;>rfl
 ·rw [hr2]
  split
  ·rename_i h
   show aR l=_
   have:=akh l
   rw [h,List.take_length] at this
   rw [←this]
  ·show ((aR l).drop 0).take (dF l).length=_
   rw [List.drop_zero,←ah8,akh]
def BO:Env:=⟨tau,[],[]⟩
def Ve:Code:=(Try.f35.body).getD .skip
def rJ:((List Int) ⊕ (Nat×Nat×(List Int)))→St
 |.inl x=>bX [(0,(.ref (0,0) []))] [((0,0),some ⟨false,.il,.own,x⟩)]
 |.inr x=>bX [(0,(.slc (0,0) [] x.1 x.2.1))] [((0,0),some ⟨false,.il,.own,x.2.2⟩)]
def iE:((List Int) ⊕ (Nat×Nat×(List Int)))→Ex×St
 |.inl x=>(.exit 0,bX [(0,(.ref (0,0) []))] [((0,0),some ⟨false,.il,.own,x⟩)])
 |.inr x=>(.exit 0,bX [(0,(.slc (0,0) [] x.1 x.2.1))] [((0,0),some ⟨false,.il,.own,x.2.2⟩)])
def Lx (s:St):Tre (Ex×St):=
 cond (AV.isRef (s.tmps 0))
 (dW (0,0) [] (s.tmps 0)<|
 aX false .il (s.roots (0,0)) fun m3 d4=>
 asM .own m3<|
 .mat (aO fu (.inl d4)) fun x=>.alt x (fun a0=>.ret (iE (.inl a0))) (fun b0=>.ret (iE (.inr b0))))
 (asn (0,0) [] (s.tmps 0) fun i2 n3=>
 aX false .il (s.roots (0,0)) fun m5 d6=>
 asM .own m5<|
 .mat (aO fu (.inr (i2,n3,d6))) fun x=>.alt x (fun a0=>.ret (iE (.inl a0))) (fun b0=>.ret (iE (.inr b0))))
def oV:bD:=⟨([0],[(0,0)]),([0],[(0,0)]),Lx⟩
def Kk:List (Nat×bD):=[(1,oV)]
theorem Eo:∀(x:((List Int) ⊕ (Nat×Nat×(List Int))))(c:St→Option (Ex×St)),den BO Kk (aV Ve 0) (rJ x) (cu oV.kp oV.kx c)=(fu x).run (cB (rJ) (iE) c):=fun x _=>by
 rcases x with x|x<;>kernel_rfl
theorem Yr:bU BO Kk (aV Ve 0) oV:=kS fun s e s' h=>by
 generalize hs:restrict oV.kp s=s1 at h
 have h:(Lx s1).run some=some (e,s'):=h
 cases ht0:AV.isRef (s1.tmps 0) with
 |true=>
  have h:=aur ht0 h
  obtain ⟨e1,h_0⟩:=aea h
  obtain ⟨m3,d4,e2,h_1⟩:=lT h_0
  obtain ⟨rfl,h_2⟩:=Ck h_1
  obtain ⟨y,hy,hz⟩:=mF h_2
  refine ⟨_,_,rJ,iE,fu,(.inl d4),y,?_,hy,?_,Eo⟩
  ·subst hs;exact aP (T:=[(0,(.ref (0,0) []))]) (U:=[((0,0),some ⟨false,.il,.own,d4⟩)]) rfl rfl ⟨e1,trivial⟩ ⟨e2,trivial⟩
  ·rcases y with x|x<;>exact Option.some.inj hz
 |false=>
  have h:=ar4 ht0 h
  obtain ⟨i2,n3,e1,h_0⟩:=anf h
  obtain ⟨m5,d6,e4,h_1⟩:=lT h_0
  obtain ⟨rfl,h_2⟩:=Ck h_1
  obtain ⟨y,hy,hz⟩:=mF h_2
  refine ⟨_,_,rJ,iE,fu,(.inr (i2,n3,d6)),y,?_,hy,?_,Eo⟩
  ·subst hs;exact aP (T:=[(0,(.slc (0,0) [] i2 n3))]) (U:=[((0,0),some ⟨false,.il,.own,d6⟩)]) rfl rfl ⟨e1,trivial⟩ ⟨e4,trivial⟩
  ·rcases y with x|x<;>exact Option.some.inj hz
def ag2:FnI:=fnI Try.f35 Kk
def DY (_:List Int):((List Int) ⊕ (Nat×Nat×(List Int)))→ay
 |.inl r=>⟨(.ref (0,0) []),[⟨false,.il,.own,r⟩],[]⟩
 |.inr r=>⟨(.slc (0,0) [] r.1 r.2.1),[⟨false,.il,.own,r.2.2⟩],[]⟩
theorem ae4:∀(p0:List Int),bR BO ag2 ⟨[(.ref (0,0) [])],[⟨false,.il,.own,p0⟩]⟩=(RN p0).run fun r=>some (DY p0 r):=fun _=>by kernel_rfl
def ag1 (av:List AV) (rs:List Root):Tre ay:=
 aD av fun a0_ av0=>
 aM av0<|
 aD rs fun r0_ rs0=>
 aM rs0<|
 dW (0,0) [] a0_<|
 yx false .il r0_ fun m1 d2=>
 asM .own m1<|
 .mat (qI d2) fun r=>.alt r (fun a0=>.ret (DY d2 (.inl a0))) (fun b0=>.ret (DY d2 (.inr b0)))
def BP:Ctr:=dO [0] ag1
theorem Gv:Contract Try.prog .none 35 BP:=aC (V:=BO) aW aJ Try.func35 (bL (n:=1) fun k hk=>by
 match k,hk with
 |0,_=>exact bO (id:=1) Yr) fun _ _ _=>aK fun _ _=>bA<|aK fun _ _=>bA<|jk<|tRt fun _ _=>tM<|fun h=>by intros;subst_vars;exact ak3 (ae4 _) h (by rintro (x|x)<;>rfl)
def jJ (eu:Int) (QO:Int) (sw:List Int) (QS:Int) (FJ:(Int×(Int×Unit))):(Int×(List Int))→Tre ((Int×(List Int)) ⊕ (List Int)):=fun s8=>
 .cond (decide (s8.1<QS))
  (.ite (0≤s8.1∧s8.1<(sw.length:Int))<|
  .mat (sw[s8.1.toNat]?) fun x3=>
  let v4:=aF .i64 (eu+s8.1)
  .ite (0≤v4∧v4<(s8.2.length:Int))<|
  .mat (s8.2[v4.toNat]?) fun x5=>
  .mat (gG FJ x3 eu) fun r6=>
  .mat (bW FJ QO r6) fun r7=>
  .ite (0≤v4∧v4<(s8.2.length:Int))<|
  .mat (s8.2[v4.toNat]?) fun _=>
  let v9:=s8.2.set v4.toNat (iF .i64 x5 r7)
  .ret (.inl (aF .i64 (s8.1+1),v9)))
  (.ret (.inr s8.2))
def jI (qR:List Int) (qU:List Int) (QK:Int) (QL:(Int×(Int×Unit))):(Int×(List Int))→Tre ((Int×(List Int)) ⊕ (List Int)):=fun s5=>
 .cond (decide (s5.1<QK))
  (.ite (0≤s5.1∧s5.1<(qU.length:Int))<|
  .mat (qU[s5.1.toNat]?) fun x2=>
  .mat (aO (jJ s5.1 x2 qR (qR.length:Int) QL) (0,s5.2)) fun l10=>
  .ret (.inl (aF .i64 (s5.1+1),l10)))
  (.ret (.inr s5.2))
def DL (p0:(Int×(Int×Unit))) (p1:List Int) (p2:List Int):Tre (List Int):=
 .cond (decide ((p1.length:Int)=0))
  (.ret [])
  (.cond (decide ((p2.length:Int)=0))
   (.ret [])
   (let v1:=aF .i64 ((p1.length:Int)+(p2.length:Int))
   .ite ((.n:K)=.n∧0≤aF .i64 (v1-1)∧aF .i64 (v1-1)=aF .i64 (v1-1)∧aF .i64 (v1-1)*(8:Nat)≤140737488355328∧1≤8)<|
   .mat (aO (jI p2 p1 (p1.length:Int) p0) (0,List.replicate (aF .i64 (v1-1)).toNat (0:Int))) fun l11=>
   .mat (qI l11) fun r12=>
   .alt r12
    (fun a13=>
     .ret a13)
    (fun b14=>
     .ret ((b14.2.2.drop b14.1).take b14.2.1))))
def iY (p0:(Int×(Int×Unit))) (p1:List Int) (p2:List Int):Option (List Int):=(DL p0 p1 p2).run some
-- more
theorem auO(F:FO):∀(V:List Nat)(x:Nat→Nat)(i:Nat),(∀i,x i=0)→F.fD V x i=0:=by
 intro V
 induction V with
 |nil=>intro x i _;simp [FO.fD]
 |cons v vs ih=>
  intro x i hx
  simp only [FO.fD]
  rw [hx,F.mul_zero,Nat.zero_xor]
  cases i with
  |zero=>rfl
  |succ i=>exact ih _ i fun j=>by rw [hx,F.E5]
theorem auP{f:TF3}(hf:aG f=true){A Y:List Nat}(hA:inL (FOf f hf) A)(hY:inL (FOf f hf) Y){i:Nat}(hl:i+Y.length≤A.length){j:Nat}(hj:j<Y.length) :
  (aR (lq A (List.replicate i 0++Y.take j)))[i+j]?=some (cf A (i+j):Int)∧iF .i64 (cf A (i+j):Int) (cf Y j:Int)=((cf A (i+j)^^^cf Y j:Nat):Int) ∧
  (aR (lq A (List.replicate i 0++Y.take j))).set (i+j) (((cf A (i+j)^^^cf Y j:Nat):Int))=aR (lq A (List.replicate i 0++Y.take (j+1))):=by
 have hti:(List.replicate i 0++Y.take j).length=i+j:=by rw [List.length_append,List.length_replicate,List.length_take];omega
 obtain ⟨h1,h2⟩:=akr (List.replicate i 0++Y.take j) A (cf Y j) (by omega)
 rw [hti] at h1 h2
 refine ⟨fT h1,OI hf (vH hA _) (vH hY j),?_⟩
 rw [←LA,h2,List.take_add_one,jH hj,List.append_assoc];rfl
theorem auF(A:List Nat)(i:Nat)(h:i≤A.length):lq A (List.replicate i 0)=A:=anl (ao5 (by rw [List.length_replicate];exact h)) fun s=>by rw [vU,akF,Nat.xor_zero]
theorem avz(F:FO)(i c:Nat)(q:List Nat):inL F (F.ahe i c q):=by
 intro x hx
 obtain ⟨d,_,rfl⟩:=List.mem_map.1 hx
 exact F.lt _ _
theorem avy(F:FO){i c:Nat}{q:List Nat}(j:Nat):cf (F.ahe i c q) j=F.mul c (F.sqn i (cf q j)):=by
 unfold FO.ahe
 rw [aiS (by rw [F.amP,F.mul_zero])]
theorem ab1{f:TF3}(hf:aG f=true){P Q:List Nat}(hP:inL (FOf f hf) P)(hQ:inL (FOf f hf) Q)(hp:P.length≤400)(hq:Q.length≤400):iY f (aR P) (aR Q)=some (aR (dF ((FOf f hf).jZ P Q))):=by
 unfold iY DL
 rw [Tre.aB,aN,aN]
 by_cases h1:P=[]
 ·subst h1;rfl
 have hpl:0<P.length:=List.length_pos_iff.2 h1
 rw [decide_eq_false (by omega),cond_false,Tre.aB]
 by_cases h2:Q=[]
 ·subst h2
  rw [decide_eq_true (show ((([]:List Nat).length:Nat):Int)=0 from rfl),cond_true,Tre.aI,ar5 fun i=>by rw [FO.Fv,auO _ _ _ _ uZ]]
  rfl
 have hql:0<Q.length:=List.length_pos_iff.2 h2
 have hw1:aF .i64 ((P.length:Int)+(Q.length:Int))=((P.length+Q.length:Nat):Int):=by rw [dG (by omega) (by omega)];omega
 have hw2:aF .i64 (((P.length+Q.length:Nat):Int)-1)=((P.length+Q.length-1:Nat):Int):=qd (by omega) (by omega)
 have holen:=(FOf f hf).atM P Q h2
 have hoin:=(FOf f hf).avu P Q
 obtain ⟨r,hr1,hr2⟩:=aaK (l:=(FOf f hf).R8 P Q P.length) (by rw [holen _ (Nat.le_refl _)];omega)
 rw [decide_eq_false (by omega),cond_false]
 dsimp only
 rw [hw1,hw2,Tre.run_ite,if_pos ⟨rfl,by omega,rfl,by omega,by omega⟩,Int.toNat_natCast,←wS]
 rw [ah (show aO (jI (aR Q) (aR P) (P.length:Int) f) (0,aR (List.replicate (P.length+Q.length-1) 0))=some (aR ((FOf f hf).R8 P Q P.length)) from ?_),ah hr1]
 ·rw [←(FOf f hf).aru,←hr2]
  cases r<;>rfl
 refine dZ (fun i=>((i:Int),aR ((FOf f hf).R8 P Q i))) P.length _ (fun i hi=>?_) ?_
 ·have hpi:=fT (jH hi)
  have hplen:(P.length:Int)=((aR P).length:Int):=by rw [aN]
  have hrl:((FOf f hf).ahe i (cf P i) Q).length=Q.length:=by unfold FO.ahe;rw [List.length_map]
  unfold jI
  dsimp only
  rw [hplen,fU hpi,aN]
  rw [ah (show aO (jJ (i:Int) (cf P i:Int) (aR Q) (Q.length:Int) f) (0,aR ((FOf f hf).R8 P Q i))=some (aR ((FOf f hf).R8 P Q (i+1))) from ?_),Tre.aI,aU (by omega)]
  have h0:(FOf f hf).R8 P Q i=lq ((FOf f hf).R8 P Q i) (List.replicate i 0++((FOf f hf).ahe i (cf P i) Q).take 0):=by rw [List.take_zero,List.append_nil,auF _ _ (by rw [holen _ (by omega)];omega)]
  conv=>lhs;rw [h0]
  refine dZ (fun j=>((j:Int),aR (lq ((FOf f hf).R8 P Q i) (List.replicate i 0++((FOf f hf).ahe i (cf P i) Q).take j)))) Q.length _ (fun j hj=>?_) ?_
  ·obtain ⟨c1,c2,c3⟩:=auP hf (hoin i) (avz _ i (cf P i) Q) (i:=i) (by rw [holen _ (by omega),hrl];omega) (j:=j) (by omega)
   have hqlen:(Q.length:Int)=((aR Q).length:Int):=by rw [aN]
   have hij:aF .i64 ((i:Int)+(j:Int))=((i+j:Nat):Int):=by rw [dG (by omega) (by omega)];omega
   have hqj:=vH hQ j
   unfold jJ
   dsimp only
   rw [hqlen,fU (fT (jH hj)),hij,jg c1,ah (afd hf hqj i),ah (ajq hf (vH hP i) ((FOf f hf).KE i hqj)),jg c1,←avy,c2,Int.toNat_natCast,c3,Tre.aI,aU (by omega)]
  ·unfold jJ
   dsimp only
   rw [eY,Tre.aI,List.take_of_length_le (by omega)]
   rfl
 ·unfold jI
  dsimp only
  rw [eY,Tre.aI]
def kJ:Env:=⟨tau,[(52,lX),(60,nT),(35,BP)],[]⟩
def rD:Code:=(Try.f58.body).getD .skip
def zX (H6:Bool) (H7:Bool) (auD:Bool) (fV:List Int) (eu:Int) (QO:Int) (j4:List Int) (eB:Int) (mq:Int) (sw:List Int) (QS:Int) (FJ:(Int×(Int×Unit))):(Int×(List Int))→St:=fun x=>bX [(2,(.imm H6 .il fV)),(3,(.ptr (5,0) [])),(7,(.ref (9,0) [])),(8,(.i eu)),(9,(.i QO)),(27,(.imm H7 .il j4)),(28,(.i eB)),(29,(.i mq)),(34,(.imm auD .il sw)),(35,(.i QS)),(36,(.i x.1))] [((5,0),some ⟨true,aL,.own,FJ⟩),((9,0),some ⟨false,.il,.own,x.2⟩)]
def yL (H6:Bool) (H7:Bool) (_:Bool) (fV:List Int) (_:Int) (_:Int) (j4:List Int) (eB:Int) (mq:Int) (_:List Int) (_:Int) (FJ:(Int×(Int×Unit))):(List Int)→Ex×St:=fun x=>(.exit 2,bX [(2,(.imm H6 .il fV)),(3,(.ptr (5,0) [])),(7,(.ref (9,0) [])),(27,(.imm H7 .il j4)),(28,(.i eB)),(29,(.i mq))] [((5,0),some ⟨true,aL,.own,FJ⟩),((9,0),some ⟨false,.il,.own,x⟩)])
def QV (s:St):Tre (Ex×St):=
 bG .il (s.tmps 2) fun z3 d2=>
 dH (5,0) [] (s.tmps 3)<|
 dW (9,0) [] (s.tmps 7)<|
 aA true .n (s.tmps 8) fun d7=>
 aA true .n (s.tmps 9) fun d9=>
 bG .il (s.tmps 27) fun z12 d11=>
 aA true .n (s.tmps 28) fun d14=>
 aA true .n (s.tmps 29) fun d16=>
 bG .il (s.tmps 34) fun z19 d18=>
 aA true .n (s.tmps 35) fun d21=>
 aA true .n (s.tmps 36) fun d23=>
 aX true aL (s.roots (5,0)) fun m25 d26=>
 asM .own m25<|
 aX false .il (s.roots (9,0)) fun m28 d29=>
 asM .own m28<|
 .mat (aO (jJ d7 d9 d18 d21 d26) (d23,d29)) fun x=>.ret (yL z3 z12 z19 d2 d7 d9 d11 d14 d16 d18 d21 d26 x)
def nu:bD:=⟨([2,3,7,8,9,27,28,29,34,35,36],[(5,0),(9,0)]),([2,3,7,27,28,29],[(5,0),(9,0)]),QV⟩
def zW (auB:Bool) (auC:Bool) (qR:List Int) (qU:List Int) (QK:Int) (QL:(Int×(Int×Unit))):(Int×(List Int))→St:=fun x=>bX [(2,(.imm auB .il qR)),(3,(.ptr (5,0) [])),(7,(.ref (9,0) [])),(27,(.imm auC .il qU)),(28,(.i QK)),(29,(.i x.1))] [((5,0),some ⟨true,aL,.own,QL⟩),((9,0),some ⟨false,.il,.own,x.2⟩)]
def yK (_:Bool) (_:Bool) (_:List Int) (_:List Int) (_:Int) (_:(Int×(Int×Unit))):(List Int)→Ex×St:=fun x=>(.exit 0,bX [(7,(.ref (9,0) []))] [((9,0),some ⟨false,.il,.own,x⟩)])
def QU (s:St):Tre (Ex×St):=
 bG .il (s.tmps 2) fun z3 d2=>
 dH (5,0) [] (s.tmps 3)<|
 dW (9,0) [] (s.tmps 7)<|
 bG .il (s.tmps 27) fun z8 d7=>
 aA true .n (s.tmps 28) fun d10=>
 aA true .n (s.tmps 29) fun d12=>
 aX true aL (s.roots (5,0)) fun m14 d15=>
 asM .own m14<|
 aX false .il (s.roots (9,0)) fun m17 d18=>
 asM .own m17<|
 .mat (aO (jI d2 d7 d10 d15) (d12,d18)) fun x=>.ret (yK z3 z8 d2 d7 d10 d15 x)
def nk:bD:=⟨([2,3,7,27,28,29],[(5,0),(9,0)]),([7],[(9,0)]),QU⟩
def ni:List (Nat×bD):=[(8,nu),(5,nk)]
theorem KR:∀(H6 H7 auD:Bool)(fV:List Int)(eu QO:Int)(j4:List Int)(eB mq:Int)(sw:List Int)(QS:Int)(FJ:(Int×(Int×Unit)))(x:(Int×(List Int)))(c:St→Option (Ex×St)),den kJ ni (aV rD 1) (zX H6 H7 auD fV eu QO j4 eB mq sw QS FJ x) (cu nu.kp nu.kx c)=(jJ eu QO sw QS FJ x).run (cB (zX H6 H7 auD fV eu QO j4 eB mq sw QS FJ) (yL H6 H7 auD fV eu QO j4 eB mq sw QS FJ) c):=fun _ _ _ _ _ _ _ _ _ _ _ _ _ _=>by
 kernel_rfl
theorem Pz:bU kJ ni (aV rD 1) nu:=dh fun _ _ _=>dM fun _ _=>fJ<|jk<|aH fun _=>aH fun _=>dM fun _ _=>aH fun _=>aH fun _=>dM fun _ _=>aH fun _=>aH fun _=>bN fun _ _=>tM<|bN fun _ _=>tM<|fun h _ e27 _ e24 e22 e20 e17 e15 e13 e10 e8 e6 e5 e4 e1=>bS (KR _ _ _ _ _ _ _ _ _ _ _ _) h (by subst_vars;exact aP rfl rfl ⟨e1,e4,e5,e6,e8,e10,e13,e15,e17,e20,e22,trivial⟩ ⟨e24,e27,trivial⟩)
theorem KQ:∀(auB auC:Bool)(qR qU:List Int)(QK:Int)(QL:(Int×(Int×Unit)))(x:(Int×(List Int)))(c:St→Option (Ex×St)),den kJ ni (aV rD 0) (zW auB auC qR qU QK QL x) (cu nk.kp nk.kx c)=(jI qR qU QK QL x).run (cB (zW auB auC qR qU QK QL) (yK auB auC qR qU QK QL) c):=fun _ _ _ _ _ _ _ _=>by
 kernel_rfl
theorem Py:bU kJ ni (aV rD 0) nk:=dh fun _ _ _=>dM fun _ _=>fJ<|jk<|dM fun _ _=>aH fun _=>aH fun _=>bN fun _ _=>tM<|bN fun _ _=>tM<|fun h _ e16 _ e13 e11 e9 e6 e5 e4 e1=>bS (KQ _ _ _ _ _ _) h (by subst_vars;exact aP rfl rfl ⟨e1,e4,e5,e6,e9,e11,trivial⟩ ⟨e13,e16,trivial⟩)
def XV:FnI:=fnI Try.f58 ni
def Ef (_:Bool) (_:Bool) (_:(Int×(Int×Unit))) (_:List Int) (_:List Int):(List Int)→ay:=fun r=>⟨(.ref (1,0) []),[],[⟨false,.il,.own,r⟩]⟩
theorem Wd:∀(zp0 zp1:Bool)(p0:(Int×(Int×Unit)))(p1 p2:List Int),bR kJ XV ⟨[(.imm true aL p0),(.imm zp0 .il p1),(.imm zp1 .il p2)],[]⟩=(DL p0 p1 p2).run fun r=>some (Ef zp0 zp1 p0 p1 p2 r):=fun _ _ _ _ _=>by kernel_rfl
def XU (av:List AV) (rs:List Root):Tre ay:=
 aD av fun a0_ av0=>
 aD av0 fun a1_ av1=>
 aD av1 fun a2_ av2=>
 aM av2<|
 aM rs<|
 aA true aL a0_ fun d1=>
 bG .il a1_ fun z3 d2=>
 bG .il a2_ fun z5 d4=>
 .mat (iY d1 d2 d4) fun r=>.ret (Ef z3 z5 d1 d2 d4 r)
def yJ:Ctr:=dO [] XU
theorem FQ:Contract Try.prog .none 58 yJ:=aC (V:=kJ) aW (ak nE ak1 (ak oN ahS (ak Gv apb aJ))) Try.func58 (bL (n:=2) fun k hk=>by
 match k,hk with
 |0,_=>exact bO (id:=5) Py
 |1,_=>exact bO (id:=8) Pz) fun _ _ _=>aK fun _ _=>aK fun _ _=>aK fun _ _=>bA<|bA<|aH fun _=>dM fun _ _=>dM fun _ _=>fun h=>by intros;subst_vars;exact bB (Wd _ _ _ _ _) h
def Fe (bT:List Int) (fK:Int):(Int×(List Int))→Tre ((Int×(List Int)) ⊕ (List Int)):=fun s4=>
 .cond (decide (s4.1<fK))
  (.ite (0≤s4.1∧s4.1<(bT.length:Int))<|
  .mat (bT[s4.1.toNat]?) fun x3=>
  .ite (0≤s4.1∧s4.1<(s4.2.length:Int))<|
  .mat (s4.2[s4.1.toNat]?) fun x4=>
  .ite (0≤s4.1∧s4.1<(s4.2.length:Int))<|
  .mat (s4.2[s4.1.toNat]?) fun _=>
  let v6:=s4.2.set s4.1.toNat (iF .i64 x4 x3)
  .ret (.inl (aF .i64 (s4.1+1),v6)))
  (.ret (.inr s4.2))
def anY (p0:List Int) (p1:List Int):Tre (List Int):=
 let v1:=if (p0.length:Int)<(p1.length:Int) then (p1.length:Int) else (p0.length:Int)
 .ite ((.n:K)=.n∧0≤v1∧v1=v1∧v1*(8:Nat)≤140737488355328∧1≤8)<|
 let v2:=p0.take (List.replicate v1.toNat (0:Int)).length++(List.replicate v1.toNat (0:Int)).drop p0.length
 .mat (aO (Fe p1 (p1.length:Int)) (0,v2)) fun l7=>
 .mat (qI l7) fun r8=>
 .alt r8
  (fun a9=>
   .ret a9)
  (fun b10=>
   .ret ((b10.2.2.drop b10.1).take b10.2.1))
def Gu (p0:List Int) (p1:List Int):Option (List Int):=(anY p0 p1).run some
-- more
theorem aw5{f:TF3}(hf:aG f=true){A Q:List Nat}(hA:inL (FOf f hf) A)(hQ:inL (FOf f hf) Q)(hl:Q.length≤A.length){i:Nat}(hi:i<Q.length) :
  (aR (lq A (Q.take i)))[i]?=some (cf A i:Int)∧(aR Q)[i]?=some (cf Q i:Int)∧iF .i64 (cf A i:Int) (cf Q i:Int)=((cf A i^^^cf Q i:Nat):Int) ∧
  (aR (lq A (Q.take i))).set i (((cf A i^^^cf Q i:Nat):Int))=aR (lq A (Q.take (i+1))):=by
 have hti:(Q.take i).length=i:=by rw [List.length_take];omega
 obtain ⟨h1,h2⟩:=akr (Q.take i) A (cf Q i) (by omega)
 rw [hti] at h1 h2
 refine ⟨fT h1,fT (jH hi),OI hf (vH hA i) (vH hQ i),?_⟩
 rw [←LA,h2,List.take_add_one,jH hi];rfl
theorem alF{f:TF3}(hf:aG f=true){P Q:List Nat}(hP:inL (FOf f hf) P)(hQ:inL (FOf f hf) Q)(hp:P.length≤1000)(hq:Q.length≤1000):Gu (aR P) (aR Q)=some (aR (dF (lq P Q))):=by
 have hm:(if ((aR P).length:Int)<((aR Q).length:Int) then ((aR Q).length:Int) else ((aR P).length:Int))=((max P.length Q.length:Nat):Int):=by
  rw [aN,aN];split<;>omega
 have hv:(aR P).take (List.replicate (max P.length Q.length) (0:Int)).length++(List.replicate (max P.length Q.length) (0:Int)).drop (aR P).length=aR (rU (max P.length Q.length) P):=by
  rw [List.length_replicate,List.take_of_length_le (by rw [aN];omega),List.drop_replicate,aN]
  unfold rU
  rw [nK,wS]
 have hpl:(rU (max P.length Q.length) P).length=max P.length Q.length:=LG (by omega)
 have hpi:inL (FOf f hf) (rU (max P.length Q.length) P):=zu hP fun x hx=>by rw [(List.mem_replicate.1 hx).2];exact FO.zlt _
 obtain ⟨r,hr1,hr2⟩:=aaK (l:=lq (rU (max P.length Q.length) P) Q) (by rw [Qz];omega)
 unfold Gu anY
 dsimp only
 rw [hm,Tre.run_ite,if_pos ⟨rfl,by omega,rfl,by omega,by omega⟩,Int.toNat_natCast,hv]
 rw [ah (show aO (Fe (aR Q) ((aR Q).length:Int)) (0,aR (rU (max P.length Q.length) P))=some (aR (lq (rU (max P.length Q.length) P) Q)) from ?_),ah hr1]
 ·rw [←ase (max P.length Q.length),←hr2]
  cases r<;>rfl
 have h0:rU (max P.length Q.length) P=lq (rU (max P.length Q.length) P) (Q.take 0):=by rw [List.take_zero,akq]
 conv=>lhs;rw [h0]
 refine dZ (fun i=>((i:Int),aR (lq (rU (max P.length Q.length) P) (Q.take i)))) Q.length _ (fun i hi=>?_) ?_
 ·obtain ⟨h1,h2,h3,h4⟩:=aw5 hf hpi hQ (by omega) hi
  unfold Fe
  dsimp only
  rw [fU h2,jg h1,jg h1,h3,Int.toNat_natCast,h4,Tre.aI,aU (by omega)]
 ·unfold Fe
  dsimp only
  rw [aN,eY,Tre.aI,List.take_length]
def Yk:Env:=⟨tau,[(35,BP)],[]⟩
def alg:Code:=(Try.f62.body).getD .skip
def Yl (nY:Bool) (bT:List Int) (fK:Int):(Int×(List Int))→St:=fun x=>bX [(5,(.ref (7,0) [])),(17,(.imm nY .il bT)),(18,(.i fK)),(19,(.i x.1))] [((7,0),some ⟨false,.il,.own,x.2⟩)]
def U9 (_:Bool) (_:List Int) (_:Int):(List Int)→Ex×St:=fun x=>(.exit 0,bX [(5,(.ref (7,0) []))] [((7,0),some ⟨false,.il,.own,x⟩)])
def ali (s:St):Tre (Ex×St):=
 dW (7,0) [] (s.tmps 5)<|
 bG .il (s.tmps 17) fun z4 d3=>
 aA true .n (s.tmps 18) fun d6=>
 aA true .n (s.tmps 19) fun d8=>
 aX false .il (s.roots (7,0)) fun m10 d11=>
 asM .own m10<|
 .mat (aO (Fe d3 d6) (d8,d11)) fun x=>.ret (U9 z4 d3 d6 x)
def Jp:bD:=⟨([5,17,18,19],[(7,0)]),([5],[(7,0)]),ali⟩
def aeS:List (Nat×bD):=[(4,Jp)]
theorem aeT:∀(nY:Bool)(bT:List Int)(fK:Int)(x:(Int×(List Int)))(c:St→Option (Ex×St)),den Yk aeS (aV alg 0) (Yl nY bT fK x) (cu Jp.kp Jp.kx c)=(Fe bT fK x).run (cB (Yl nY bT fK) (U9 nY bT fK) c):=fun _ _ _ _ _=>by
 kernel_rfl
theorem aji:bU Yk aeS (aV alg 0) Jp:=dh fun _ _ _=>jk<|dM fun _ _=>aH fun _=>aH fun _=>bN fun _ _=>tM<|fun h _ e9 e7 e5 e2 e1=>bS (aeT _ _ _) h (by subst_vars;exact aP rfl rfl ⟨e1,e2,e5,e7,trivial⟩ ⟨e9,trivial⟩)
def atc:FnI:=fnI Try.f62 aeS
def aeU (_:Bool) (_:Bool) (_:List Int) (_:List Int):(List Int)→ay:=fun r=>⟨(.ref (1,0) []),[],[⟨false,.il,.own,r⟩]⟩
theorem aqT:∀(zp0 zp1:Bool)(p0 p1:List Int),bR Yk atc ⟨[(.imm zp0 .il p0),(.imm zp1 .il p1)],[]⟩=(anY p0 p1).run fun r=>some (aeU zp0 zp1 p0 p1 r):=fun _ _ _ _=>by kernel_rfl
def atb (av:List AV) (rs:List Root):Tre ay:=
 aD av fun a0_ av0=>
 aD av0 fun a1_ av1=>
 aM av1<|
 aM rs<|
 bG .il a0_ fun z2 d1=>
 bG .il a1_ fun z4 d3=>
 .mat (Gu d1 d3) fun r=>.ret (aeU z2 z4 d1 d3 r)
def alh:Ctr:=dO [] atb
theorem aqU:Contract Try.prog .none 62 alh:=aC (V:=Yk) aW (ak Gv apb aJ) Try.func62 (bL (n:=1) fun k hk=>by
 match k,hk with
 |0,_=>exact bO (id:=4) aji) fun _ _ _=>aK fun _ _=>aK fun _ _=>bA<|bA<|dM fun _ _=>dM fun _ _=>fun h=>by intros;subst_vars;exact bB (aqT _ _ _ _) h
def Nr (p0:(Int×(Int×Unit))) (p1:Int) (p2:Int):Tre Int:=
 .ifn (p0.1=0)<|
 let v1:=aF .i64 (p0.1-(Int.tmod p2 p0.1))
 .ifn (p0.1=0)<|
 .mat (gG p0 p1 (Int.tmod v1 p0.1)) fun r2=>
 .ret r2
def yR (p0:(Int×(Int×Unit))) (p1:Int) (p2:Int):Option Int:=(Nr p0 p1 p2).run some
-- more
theorem atn{f:TF3}(hf:aG f=true){x:Nat}(hx:x<(FOf f hf).q)(k:Nat):yR f (x:Int) (k:Int)=some (((FOf f hf).sqn (afK f.1.toNat k) x:Nat):Int):=by
 obtain ⟨h1,h2,h3,h4⟩:=axb hf
 have hm:Int.tmod (k:Int) f.1=((k%f.1.toNat:Nat):Int):=by
  conv=>lhs;rw [h1]
  exact (Int.ofNat_tmod k f.1.toNat).symm
 have hk:k%f.1.toNat<f.1.toNat:=Nat.mod_lt _ (by omega)
 have h5:aF .i64 (f.1-Int.tmod (k:Int) f.1)=((f.1.toNat-k%f.1.toNat:Nat):Int):=by
  rw [hm,dG (by omega) (by omega)];omega
 have hm2:Int.tmod ((f.1.toNat-k%f.1.toNat:Nat):Int) f.1=((afK f.1.toNat k:Nat):Int):=by
  conv=>lhs;rw [h1]
  exact (Int.ofNat_tmod _ f.1.toNat).symm
 unfold yR Nr
 rw [Tre.Jy,if_neg h2]
 dsimp only
 rw [h5,Tre.Jy,if_neg h2,hm2,ah (afd hf hx _),Tre.aI]
def Rb:Env:=⟨tau,[(52,lX)],[]⟩
def aeF:FnI:=fnI Try.f63 []
def K4 (_:(Int×(Int×Unit))) (_:Int) (_:Int):Int→ay:=fun r=>⟨(.i r),[],[]⟩
theorem acS:∀(p0:(Int×(Int×Unit)))(p1 p2:Int),bR Rb aeF ⟨[(.imm true aL p0),(.i p1),(.i p2)],[]⟩=(Nr p0 p1 p2).run fun r=>some (K4 p0 p1 p2 r):=fun _ _ _=>by kernel_rfl
def aeE (av:List AV) (rs:List Root):Tre ay:=
 aD av fun a0_ av0=>
 aD av0 fun a1_ av1=>
 aD av1 fun a2_ av2=>
 aM av2<|
 aM rs<|
 aA true aL a0_ fun d1=>
 aA true .n a1_ fun d2=>
 aA true .n a2_ fun d3=>
 .mat (yR d1 d2 d3) fun r=>.ret (K4 d1 d2 d3 r)
def Rc:Ctr:=dO [] aeE
theorem acT:Contract Try.prog .none 63 Rc:=aC (V:=Rb) aW (ak nE ak1 aJ) Try.func63 bP fun _ _ _=>aK fun _ _=>aK fun _ _=>aK fun _ _=>bA<|bA<|aH fun _=>aH fun _=>aH fun _=>fun h=>by intros;subst_vars;exact bB (acS _ _ _) h
def iZ (bC:List Int) (bH:Bool) (dA:Int) (bI:(Int×(Int×Unit))):((List Int)×(List Int))→Tre (((List Int)×(List Int)) ⊕ ((List Int)×(List Int))):=fun s2=>
 .cond (decide ((s2.2.length:Int) ≥ (bC.length:Int)))
  (let v3:=aF .i64 ((s2.2.length:Int)-(bC.length:Int))
  .ite ((.n:K)=.n∧0≤aF .i64 (v3+1)∧aF .i64 (v3+1)=aF .i64 (v3+1)∧aF .i64 (v3+1)*(8:Nat)≤140737488355328∧1≤8)<|
  let v4:=aF .i64 ((s2.2.length:Int)-1)
  .ite (0≤v4∧v4<(s2.2.length:Int))<|
  .mat (s2.2[v4.toNat]?) fun x5=>
  .cond bH
   (.ite (0≤dA∧dA<(bC.length:Int))<|
   .mat (bC[dA.toNat]?) fun x6=>
   .mat (gG bI x6 v3) fun r7=>
   .mat (bY bI r7) fun r8=>
   .mat (bW bI x5 r8) fun r9=>
   .ite (0≤v3∧v3<((List.replicate (aF .i64 (v3+1)).toNat (0:Int)).length:Int))<|
   .mat ((List.replicate (aF .i64 (v3+1)).toNat (0:Int))[v3.toNat]?) fun _=>
   let v11:=(List.replicate (aF .i64 (v3+1)).toNat (0:Int)).set v3.toNat r9
   .mat (iY bI v11 bC) fun r12=>
   .mat (Gu s2.2 r12) fun r13=>
   .mat (Gu s2.1 v11) fun r14=>
   .ret (.inl (r14,r13)))
   (.ite (0≤dA∧dA<(bC.length:Int))<|
   .mat (bC[dA.toNat]?) fun x15=>
   .mat (bY bI x15) fun r16=>
   .mat (bW bI x5 r16) fun r17=>
   .mat (yR bI r17 dA) fun r18=>
   .ite (0≤v3∧v3<((List.replicate (aF .i64 (v3+1)).toNat (0:Int)).length:Int))<|
   .mat ((List.replicate (aF .i64 (v3+1)).toNat (0:Int))[v3.toNat]?) fun _=>
   let v20:=(List.replicate (aF .i64 (v3+1)).toNat (0:Int)).set v3.toNat r18
   .mat (iY bI bC v20) fun r21=>
   .mat (Gu s2.2 r21) fun r22=>
   .mat (Gu s2.1 v20) fun r23=>
   .ret (.inl (r23,r22))))
  (.ret (.inr (s2.1,s2.2)))
def FR (p0:(Int×(Int×Unit))) (p1:List Int) (p2:List Int) (p3:Bool):Tre ((List Int)×(List Int)):=
 .mat (oM p1) fun r1=>
 let v2:=aF .i64 ((p2.length:Int)-1)
 .mat (aO (iZ p2 p3 v2 p0) ([],r1)) fun l24=>
 .ret (l24.1,l24.2)
def jK (p0:(Int×(Int×Unit))) (p1:List Int) (p2:List Int) (p3:Bool):Option ((List Int)×(List Int)):=(FR p0 p1 p2 p3).run some
-- more
theorem avo{f:TF3}(hf:aG f=true){V:List Nat}(hV:inL (FOf f hf) V)(h0:cf V (V.length-1)≠0):∃iv:Nat,DZ f (cf V (V.length-1):Int)=(iv:Int)∧iv<(FOf f hf).q∧(FOf f hf).mul (cf V (V.length-1)) iv=1:=by
 obtain ⟨iv,h1,h2,h3⟩:=axj hf (vH hV (V.length-1))
 exact ⟨iv,h1,h2,h3 h0⟩
theorem avZ(k c:Nat):(List.replicate (k+1) (0:Int)).set k (c:Int)=aR (tC k c):=by
 unfold tC
 rw [LA,wS]
theorem anw{A R V:List Nat}{c M:Nat}(hA:A.length≤M)(hR:R.length≤M)(hn:0<V.length)(hl:V.length≤R.length)(F:FO) :
  (dF (lq A (tC (R.length-V.length) c))).length≤M∧(dF (F.jZ V (tC (R.length-V.length) c))).length≤M∧(tC (R.length-V.length) c).length≤M:=by
 have h1:=mo (lq A (tC (R.length-V.length) c))
 rw [Qz,TV] at h1
 have h2:=mo (F.jZ V (tC (R.length-V.length) c))
 have h3:=F.AJ V (tC (R.length-V.length) c) (List.length_pos_iff.1 hn) (by intro h;have:=TV (R.length-V.length) c;rw [h] at this;simp at this)
 rw [TV] at h3
 rw [TV]
 omega
theorem aq1{f:TF3}(hf:aG f=true){N V:List Nat}(hV:inL (FOf f hf) V)(hn:V≠[])(ht:cf V (V.length-1)≠0):∀(m:Nat)(A R:List Nat),R.length≤m→A.length≤100→R.length≤100→V.length≤100→Ms (FOf f hf) N V A R →
  ∃A' R',aO (iZ (aR V) false ((V.length-1:Nat):Int) f) (aR A,aR R)=some (aR A',aR R')∧Ms (FOf f hf) N V A' R'∧R'.length<V.length∧A'.length≤100:=by
 have hvl:0<V.length:=List.length_pos_iff.2 hn
 obtain ⟨iv,hi1,hi2,hi3⟩:=avo hf hV ht
 intro m
 induction m with
 |zero=>
  intro A R hm hA hR hV2 h
  refine ⟨A,R,dY ?_,h,by omega,hA⟩
  unfold iZ
  dsimp only
  rw [Tre.aB,decide_eq_false (by rw [aN,aN];omega),cond_false,Tre.aI]
 |succ m ih=>
  intro A R hm hA hR hV2 h
  by_cases hl:V.length≤R.length
  ·obtain ⟨hc,hD,hlt⟩:=asE hf hV h hn hl hi2 hi3
   obtain ⟨b1,b2,b3⟩:=anw (c:=(FOf f hf).sqn (afK f.1.toNat (V.length-1)) ((FOf f hf).mul (cf R (R.length-1)) iv)) hA hR hvl hl (FOf f hf)
   obtain ⟨A',R',h1,h2,h3,h4⟩:=ih _ _ (by omega) b1 (by omega) hV2 hD
   refine ⟨A',R',?_,h2,h3,h4⟩
   rw [←h1]
   refine gy ?_
   have hk:aF .i64 (((aR R).length:Int)-((aR V).length:Int))=((R.length-V.length:Nat):Int):=by rw [aN,aN,dG (by omega) (by omega)];omega
   have hr:aF .i64 (((aR R).length:Int)-1)=((R.length-1:Nat):Int):=by rw [aN];exact qd (by omega) (by omega)
   have hk1:aF .i64 (((R.length-V.length:Nat):Int)+1)=((R.length-V.length+1:Nat):Int):=aU (by omega)
   have hrl:=vH h.ir (R.length-1)
   have hml:=(FOf f hf).lt (cf R (R.length-1)) iv
   unfold iZ
   dsimp only
   rw [Tre.aB,decide_eq_true (by rw [aN,aN];omega),cond_true,hk,hk1,Tre.run_ite,if_pos ⟨rfl,by omega,rfl,by omega,by omega⟩,hr,jg (fT (jH (show R.length-1<R.length by omega))),Tre.aB,cond_false]
   rw [jg (fT (jH (show V.length-1<V.length by omega))),ah (apl hf ((Yw hf).2 ⟨_,rfl,vH hV _⟩)),hi1,ah (ajq hf hrl hi2),ah (atn hf hml _),Int.toNat_natCast]
   rw [jg (show (List.replicate (R.length-V.length+1) (0:Int))[R.length-V.length]?=some 0 by rw [List.getElem?_replicate,if_pos (by omega)]),Int.toNat_natCast,avZ]
   rw [ah (ab1 hf hV (agp hc) (by omega) (by omega)),ah (alF hf h.ir (sJ (RP _ _)) (by omega) (by omega)),ah (alF hf h.ia (agp hc) (by omega) (by omega)),Tre.aI]
  ·refine ⟨A,R,dY ?_,h,by omega,hA⟩
   unfold iZ
   dsimp only
   rw [Tre.aB,decide_eq_false (by rw [aN,aN];omega),cond_false,Tre.aI]
theorem Ms.start{F:FO}{N V:List Nat}(hN:inL F N)(ht:Fu N):Ms F N V [] N:=⟨fun x hx=>absurd hx List.not_mem_nil,hN,fun h=>absurd rfl h,ht,fun i=>by rw [show F.fD V (cf []) i=0 from aeh uZ,Nat.zero_xor]⟩
theorem WO{f:TF3}(hf:aG f=true){N V:List Nat}(hN:inL (FOf f hf) N)(hV:inL (FOf f hf) V)(hn:V≠[])(htV:Fu V)(htN:Fu N)(hNl:N.length≤100)(hVl:V.length≤100) :
  ∃A R,jK f (aR N) (aR V) false=some (aR A,aR R)∧Ms (FOf f hf) N V A R∧R.length<V.length∧A.length≤100:=by
 have hvl:0<V.length:=List.length_pos_iff.2 hn
 obtain ⟨A,R,h1,h2,h3,h4⟩:=aq1 hf hV hn (htV hn) N.length [] N (Nat.le_refl _) (Nat.zero_le _) hNl hVl (Ms.start hN htN)
 refine ⟨A,R,?_,h2,h3,h4⟩
 have hd:aF .i64 (((aR V).length:Int)-1)=((V.length-1:Nat):Int):=by rw [aN];exact qd (by omega) (by omega)
 rw [show aR []=[] from rfl] at h1
 unfold jK FR
 dsimp only
 rw [ah (show oM (aR N)=some (aR N) from NP (by rw [aN];omega)),hd,ah h1,Tre.aI]
def tQ:Env:=⟨tau,[(59,kr),(52,lX),(61,yN),(60,nT),(58,yJ),(62,alh),(63,Rc)],[(1000002,[((14,0),[],false)])]⟩
def KT:Code:=(Try.f34.body).getD .skip
def Cr (kC:Bool) (bC:List Int) (bH:Bool) (dA:Int) (bI:(Int×(Int×Unit))):((List Int)×(List Int))→St:=fun x=>bX [(2,(.imm kC .il bC)),(3,(.imm true .bool bH)),(4,(.ptr (6,0) [])),(10,(.ref (12,0) [])),(11,(.ref (13,0) [])),(12,(.i dA))] [((6,0),some ⟨true,aL,.own,bI⟩),((12,0),some ⟨false,.il,.own,x.1⟩),((13,0),some ⟨false,.il,.own,x.2⟩)]
def zY (_:Bool) (_:List Int) (_:Bool) (_:Int) (_:(Int×(Int×Unit))):((List Int)×(List Int))→Ex×St:=fun x=>(.exit 0,bX [(10,(.ref (12,0) [])),(11,(.ref (13,0) []))] [((12,0),some ⟨false,.il,.own,x.1⟩),((13,0),some ⟨false,.il,.own,x.2⟩)])
def Ua (s:St):Tre (Ex×St):=
 bG .il (s.tmps 2) fun z3 d2=>
 aA true .bool (s.tmps 3) fun d5=>
 dH (6,0) [] (s.tmps 4)<|
 dW (12,0) [] (s.tmps 10)<|
 dW (13,0) [] (s.tmps 11)<|
 aA true .n (s.tmps 12) fun d10=>
 aX true aL (s.roots (6,0)) fun m12 d13=>
 asM .own m12<|
 aX false .il (s.roots (12,0)) fun m15 d16=>
 asM .own m15<|
 aX false .il (s.roots (13,0)) fun m18 d19=>
 asM .own m18<|
 .mat (aO (iZ d2 d5 d10 d13) (d16,d19)) fun x=>.ret (zY z3 d2 d5 d10 d13 x)
def om:bD:=⟨([2,3,4,10,11,12],[(6,0),(12,0),(13,0)]),([10,11],[(12,0),(13,0)]),Ua⟩
def AU:List (Nat×bD):=[(2,om)]
theorem Nn:∀(kC:Bool)(bC:List Int)(bH:Bool)(dA:Int)(bI:(Int×(Int×Unit)))(x:((List Int)×(List Int)))(c:St→Option (Ex×St)),den tQ AU (aV KT 0) (Cr kC bC bH dA bI x) (cu om.kp om.kx c)=(iZ bC bH dA bI x).run (cB (Cr kC bC bH dA bI) (zY kC bC bH dA bI) c):=fun _ _ _ _ _ _ _=>by
 kernel_rfl
theorem QW:bU tQ AU (aV KT 0) om:=dh fun _ _ _=>dM fun _ _=>aH fun _=>fJ<|jk<|jk<|aH fun _=>bN fun _ _=>tM<|bN fun _ _=>tM<|bN fun _ _=>tM<|fun h _ e17 _ e14 _ e11 e9 e8 e7 e6 e4 e1=>bS (Nn _ _ _ _ _) h (by subst_vars;exact aP rfl rfl ⟨e1,e4,e6,e7,e8,e9,trivial⟩ ⟨e11,e14,e17,trivial⟩)
def aai:FnI:=fnI Try.f34 AU
def FT (_:Bool) (_:Bool) (_:(Int×(Int×Unit))) (_:List Int) (_:List Int) (_:Bool):((List Int)×(List Int))→ay:=fun r=>⟨(.tcons (.ref (1,0) []) (.tcons (.ref (1,1) []) .tnil)),[],[⟨false,.il,.own,r.1⟩,⟨false,.il,.own,r.2⟩]⟩
theorem XW:∀(zp0 zp1:Bool)(p0:(Int×(Int×Unit)))(p1 p2:List Int)(p3:Bool),bR tQ aai ⟨[(.imm true aL p0),(.imm zp0 .il p1),(.imm zp1 .il p2),(.imm true .bool p3)],[]⟩=(FR p0 p1 p2 p3).run fun r=>some (FT zp0 zp1 p0 p1 p2 p3 r):=fun _ _ _ _ _ _=>by kernel_rfl
def aah (av:List AV) (rs:List Root):Tre ay:=
 aD av fun a0_ av0=>
 aD av0 fun a1_ av1=>
 aD av1 fun a2_ av2=>
 aD av2 fun a3_ av3=>
 aM av3<|
 aM rs<|
 aA true aL a0_ fun d1=>
 bG .il a1_ fun z3 d2=>
 bG .il a2_ fun z5 d4=>
 aA true .bool a3_ fun d6=>
 .mat (jK d1 d2 d4 d6) fun r=>.ret (FT z3 z5 d1 d2 d4 d6 r)
def AX:Ctr:=dO [] aah
theorem I6:Contract Try.prog .none 34 AX:=aC (V:=tQ) aW (ak mW apd (ak nE ak1 (ak FV awp (ak oN ahS (ak FQ awo (ak aqU ayz (ak acT ayA aJ))))))) Try.func34 (bL (n:=1) fun k hk=>by
 match k,hk with
 |0,_=>exact bO (id:=2) QW) fun _ _ _=>aK fun _ _=>aK fun _ _=>aK fun _ _=>aK fun _ _=>bA<|bA<|aH fun _=>dM fun _ _=>dM fun _ _=>aH fun _=>fun h=>by intros;subst_vars;exact bB (XW _ _ _ _ _ _) h
def kN (aQ:List Int) (bq:List Int) (dx:Int) (dK:(Int×(Int×Unit))):(Int×(List Int))→Tre ((Int×(List Int)) ⊕ (List Int)):=fun s3=>
 .cond (decide (s3.1<dx))
  (.ite (0≤s3.1∧s3.1<(bq.length:Int))<|
  .mat (bq[s3.1.toNat]?) fun x1=>
  .mat (qz dK aQ x1) fun r2=>
  .ite ((s3.2.length+1)*8≤bE∧1≤8)<|
  .ret (.inl (aF .i64 (s3.1+1),s3.2++([r2]))))
  (.ret (.inr s3.2))
def F7 (p0:(Int×(Int×Unit))) (p1:List Int) (p2:List Int):Tre (List Int):=
 .mat (aO (kN p1 p2 (p2.length:Int) p0) (0,[])) fun l3=>
 .ret l3
def oP (p0:(Int×(Int×Unit))) (p1:List Int) (p2:List Int):Option (List Int):=(F7 p0 p1 p2).run some
def tX:Env:=⟨tau,[(57,DU)],[]⟩
def K7:Code:=(Try.f33.body).getD .skip
def CB (dQ:Bool) (HY:Bool) (aQ:List Int) (bq:List Int) (dx:Int) (dK:(Int×(Int×Unit))):(Int×(List Int))→St:=fun x=>bX [(1,(.imm dQ .il aQ)),(3,(.ptr (5,0) [])),(7,(.ref (9,0) [])),(11,(.imm HY .il bq)),(12,(.i dx)),(13,(.i x.1))] [((5,0),some ⟨true,aL,.own,dK⟩),((9,0),some ⟨false,.il,.own,x.2⟩)]
def Af (_:Bool) (_:Bool) (_:List Int) (_:List Int) (_:Int) (_:(Int×(Int×Unit))):(List Int)→Ex×St:=fun x=>(.exit 0,bX [(7,(.ref (9,0) []))] [((9,0),some ⟨false,.il,.own,x⟩)])
def Ug (s:St):Tre (Ex×St):=
 bG .il (s.tmps 1) fun z3 d2=>
 dH (5,0) [] (s.tmps 3)<|
 dW (9,0) [] (s.tmps 7)<|
 bG .il (s.tmps 11) fun z8 d7=>
 aA true .n (s.tmps 12) fun d10=>
 aA true .n (s.tmps 13) fun d12=>
 aX true aL (s.roots (5,0)) fun m14 d15=>
 asM .own m14<|
 aX false .il (s.roots (9,0)) fun m17 d18=>
 asM .own m17<|
 .mat (aO (kN d2 d7 d10 d15) (d12,d18)) fun x=>.ret (Af z3 z8 d2 d7 d10 d15 x)
def oz:bD:=⟨([1,3,7,11,12,13],[(5,0),(9,0)]),([7],[(9,0)]),Ug⟩
def A9:List (Nat×bD):=[(3,oz)]
theorem Nt:∀(dQ HY:Bool)(aQ bq:List Int)(dx:Int)(dK:(Int×(Int×Unit)))(x:(Int×(List Int)))(c:St→Option (Ex×St)),den tX A9 (aV K7 0) (CB dQ HY aQ bq dx dK x) (cu oz.kp oz.kx c)=(kN aQ bq dx dK x).run (cB (CB dQ HY aQ bq dx dK) (Af dQ HY aQ bq dx dK) c):=fun _ _ _ _ _ _ _ _=>by
 kernel_rfl
theorem Rh:bU tX A9 (aV K7 0) oz:=dh fun _ _ _=>dM fun _ _=>fJ<|jk<|dM fun _ _=>aH fun _=>aH fun _=>bN fun _ _=>tM<|bN fun _ _=>tM<|fun h _ e16 _ e13 e11 e9 e6 e5 e4 e1=>bS (Nt _ _ _ _ _ _) h (by subst_vars;exact aP rfl rfl ⟨e1,e4,e5,e6,e9,e11,trivial⟩ ⟨e13,e16,trivial⟩)
def aau:FnI:=fnI Try.f33 A9
def F8 (_:Bool) (_:Bool) (_:(Int×(Int×Unit))) (_:List Int) (_:List Int):(List Int)→ay:=fun r=>⟨(.ref (1,0) []),[],[⟨false,.il,.own,r⟩]⟩
theorem X8:∀(zp0 zp1:Bool)(p0:(Int×(Int×Unit)))(p1 p2:List Int),bR tX aau ⟨[(.imm true aL p0),(.imm zp0 .il p1),(.imm zp1 .il p2)],[]⟩=(F7 p0 p1 p2).run fun r=>some (F8 zp0 zp1 p0 p1 p2 r):=fun _ _ _ _ _=>by kernel_rfl
def aat (av:List AV) (rs:List Root):Tre ay:=
 aD av fun a0_ av0=>
 aD av0 fun a1_ av1=>
 aD av1 fun a2_ av2=>
 aM av2<|
 aM rs<|
 aA true aL a0_ fun d1=>
 bG .il a1_ fun z3 d2=>
 bG .il a2_ fun z5 d4=>
 .mat (oP d1 d2 d4) fun r=>.ret (F8 z3 z5 d1 d2 d4 r)
def Ba:Ctr:=dO [] aat
theorem Jd:Contract Try.prog .none 33 Ba:=aC (V:=tX) aW (ak K6 awn aJ) Try.func33 (bL (n:=1) fun k hk=>by
 match k,hk with
 |0,_=>exact bO (id:=3) Rh) fun _ _ _=>aK fun _ _=>aK fun _ _=>aK fun _ _=>bA<|bA<|aH fun _=>dM fun _ _=>dM fun _ _=>fun h=>by intros;subst_vars;exact bB (X8 _ _ _ _ _) h
def wN (p0:aS) (p1:List Int):Tre (List Int):=
 .mat (oP p0.1 p1 p0.2.1) fun r1=>
 .ret r1
def nG (p0:aS) (p1:List Int):Option (List Int):=(wN p0 p1).run some
-- more
theorem aff{f:TF3}(hf:aG f=true){P X:List Nat}(hP:inL (FOf f hf) P)(hl:P.length≤1000)(hX:inL (FOf f hf) X)(hXl:X.length≤1000):oP f (aR P) (aR X)=some (aR (X.map ((FOf f hf).lp P))):=by
 unfold oP F7
 rw [ah (show aO (kN (aR P) (aR X) ((aR X).length:Int) f) (0,[])=some (aR (X.map ((FOf f hf).lp P))) from ?_),Tre.aI]
 refine dZ (fun i=>((i:Int),aR ((X.take i).map ((FOf f hf).lp P)))) X.length _ (fun i hi=>?_) ?_
 ·unfold kN
  dsimp only
  rw [fU (fT (jH hi)),ah (aib hf hP hl (vH hX i)),Tre.run_ite,if_pos (by rw [aN,List.length_map,List.length_take];unfold bE;omega),Tre.aI,aU (by omega),List.take_add_one,jH hi,Option.toList_some,List.map_append,nK]
  rfl
 ·unfold kN
  dsimp only
  rw [aN,eY,Tre.aI,List.take_length]
theorem an8{f:TF3}(hf:aG f=true){P X:List Nat}(hP:inL (FOf f hf) P)(hl:P.length≤1000)(hX:inL (FOf f hf) X)(hXl:X.length≤1000)(k:Int):nG (f,aR X,k,()) (aR P)=some (aR (X.map ((FOf f hf).lp P))):=by
 unfold nG wN
 dsimp only
 rw [ah (aff hf hP hl hX hXl),Tre.aI]
def CG:Env:=⟨tau,[(33,Ba)],[]⟩
def Rl:FnI:=fnI Try.f56 []
def yT (_:Bool) (_:Bool) (_:aS) (_:List Int):(List Int)→ay:=fun r=>⟨(.ref (1,0) []),[],[⟨false,.il,.own,r⟩]⟩
theorem PS:∀(zp0 zp1:Bool)(p0:aS)(p1:List Int),bR CG Rl ⟨[(.imm zp0 bJ p0),(.imm zp1 .il p1)],[]⟩=(wN p0 p1).run fun r=>some (yT zp0 zp1 p0 p1 r):=fun _ _ _ _=>by kernel_rfl
def Rk (av:List AV) (rs:List Root):Tre ay:=
 aD av fun a0_ av0=>
 aD av0 fun a1_ av1=>
 aM av1<|
 aM rs<|
 bG bJ a0_ fun z2 d1=>
 bG .il a1_ fun z4 d3=>
 .mat (nG d1 d3) fun r=>.ret (yT z2 z4 d1 d3 r)
def CJ:Ctr:=dO [] Rk
theorem PU:Contract Try.prog .none 56 CJ:=aC (V:=CG) aW (ak Jd awi aJ) Try.func56 bP fun _ _ _=>aK fun _ _=>aK fun _ _=>bA<|bA<|dM fun _ _=>dM fun _ _=>fun h=>by intros;subst_vars;exact bB (PS _ _ _ _) h
end Go.Proofs.Ytmilokkchghpjaa
