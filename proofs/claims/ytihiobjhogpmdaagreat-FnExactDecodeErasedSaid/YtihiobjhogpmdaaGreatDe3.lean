/- Part 3 of the proof of FnExactDecodeErased. -/
import Derived.WalkKit
import Derived.ProofKit
import Derived.OpenShut
import Derived.ShutString
import Derived.ChangeOld
import Derived.Below
import Derived.SizedLaws
import Derived.Carry
import Derived.IntWalk
import Derived.Deep.RegionLaw
import Derived.KernelRfl
import Derived.Sort.OwnSortedInts
import Derived.Lib.SlicesCompact
import Derived.Test.YtihiobjhogpmdaaGreatProg
import Derived.Test.YtihiobjhogpmdaaGreatDe2
set_option maxRecDepth 100000
noncomputable section
namespace Go.Abs
def cmb(rs:RF)(fs:List Root):RF:=fun q=>if q.1=1 then fs[q.2]? else rs q
structure Moved(w:World)(C0:Ctx)(rs0:RF)(C:Ctx)(rs:RF)(fs:List Root)(ks:List Kill):Prop where
 Z:C.Z=C0.Z
 S:C.S=C0.S
 pars:∀i,C.θ (par i)=C0.θ (par i)∧C.ρ (par i)=C0.ρ (par i)
 mem:Mem w C (cmb rs fs)
 leaf:∀b vs,b.eG=true→hit ks b=false→(∀q∈b.names,q.1≠1)→AVC w C0 rs0 b vs→AVC w C (cmb rs fs) b vs
 foot:∀q y b,cmb rs fs q=some y→C.F q b→∃q0 y0,rs0 q0=some y0∧C0.F q0 b
 ptr1:∀q y,cmb rs fs q=some y→∀p∈bf y.k y.d,p.1≠1
 rs1:∀i,rs (par i)=rs0 (par i)
structure U3(w:World)(C:Ctx)(rs:RF)(fs:List Root)(ks:List Kill)(C':Ctx)(rs':RF)(fs':List Root)(ks':List Kill):Prop where
 leaf:∀b vs,b.eG=true→hit ks' b=false→(∀q∈b.names,q.1=1→q.2<fs.length)→AVC w C (cmb rs fs) b vs→AVC w C' (cmb rs' fs') b vs
 grow:fs.length≤fs'.length
 ks:∀b,hit ks' b=false→hit ks b=false
section
variable {P : Program} {V : Env} {w : World} {C0 C : Ctx} {rs0 rs : RF} {fs : List Root} {ks : List Kill}
variable {R' : Type} {r : R'}
theorem U3.refl:U3 w C rs fs ks C rs fs ks:=⟨fun _ _ _ _ _ h=>h,Nat.le_refl _,fun _ h=>h⟩
theorem U3.trans{C1 C2:Ctx}{rs1 rs2:RF}{fs1 fs2:List Root}{k1 k2:List Kill}(h:U3 w C rs fs ks C1 rs1 fs1 k1)(k:U3 w C1 rs1 fs1 k1 C2 rs2 fs2 k2):U3 w C rs fs ks C2 rs2 fs2 k2:=
 ⟨fun b vs hl hh hn hb=>k.leaf b vs hl hh (fun q hq h1=>Nat.lt_of_lt_of_le (hn q hq h1) h.grow) (h.leaf b vs hl (k.ks b hh) hn hb),Nat.le_trans h.grow k.grow,fun b hb=>h.ks b (k.ks b hb)⟩
theorem atj(xs:List Kill):∀(a:AV),∀q∈(AV.kills xs a).names,q∈a.names:=by
 intro a
 induction a with
 |pair a b iha ihb=>
  intro q hq
  rw [lH] at hq
  simp only [AV.names,List.mem_append] at hq ⊢
  exact hq.imp (iha q) (ihb q)
 |tcons a b iha ihb=>
  intro q hq
  rw [mD] at hq
  simp only [AV.names,List.mem_append] at hq ⊢
  exact hq.imp (iha q) (ihb q)
 |_=>
  intro q hq
  rw [fV _ _ rfl] at hq
  cases hh:hit xs _ with
  |true=>rw [hh] at hq;cases hq
  |false=>rw [hh] at hq;exact hq
theorem AVC.ayc{w':World}{C C':Ctx}{rs rs':RF}{xs:List Kill}{N:aC→Prop}
  (h:∀a vs,a.eG=true→hit xs a=false→(∀q∈a.names,N q)→AVC w C rs a vs→AVC w' C' rs' a vs):∀(a:AV)(vs:List Value),(∀q∈a.names,N q)→AVC w C rs a vs→AVC w' C' rs' (AV.kills xs a) vs:=by
 intro a
 induction a with
 |pair a b iha ihb=>
  intro vs hn hv
  obtain ⟨v1,v2,rfl,h1,h2⟩:=hv
  rw [lH]
  exact ⟨v1,v2,rfl,iha _ (fun q hq=>hn q (by simp [AV.names,hq])) h1,ihb _ (fun q hq=>hn q (by simp [AV.names,hq])) h2⟩
 |tcons a b=>intro vs _ hv;exact hv.elim
 |_=>
  intro vs hn hv
  rw [fV _ _ rfl]
  cases hx:hit xs _ with
  |true=>trivial
  |false=>exact h _ _ rfl hx hn hv
theorem KW.ayc{w':World}{C C':Ctx}{rs rs':RF}{xs:List Kill}{N:aC→Prop}
  (h:∀a vs,a.eG=true→hit xs a=false→(∀q∈a.names,N q)→AVC w C rs a vs→AVC w' C' rs' a vs) {v:Value} {a:AV} (hn:∀q∈a.names,N q) (hv:KW w C rs v a):KW w' C' rs' v (AV.kills xs a):=by
 rcases hv with rfl|⟨ha,vs,rfl,hv⟩|⟨ha,hv,hc⟩
 ·left;exact uR xs
 ·right;left
  refine ⟨?_,vs,rfl,AVC.ayc h _ _ hn hv⟩
  cases a with
  |pair a b=>rw [lH];rfl
  |imm z k d=>
   rw [fV _ _ rfl]
   have:hit xs (.imm z k d)=false:=by simp only [hit,List.any_eq_false];intro x _;cases x<;>simp [Kill.hits]
   rw [this];exact ha
  |_=>simp [AV.agg] at ha
 ·have hl:a.eG=true:=by cases a<;>first|rfl|exact hv.elim|(simp [AV.agg] at ha;done)
  rw [fV _ _ hl]
  cases hx:hit xs a with
  |true=>left;rfl
  |false=>right;right;exact ⟨ha,h _ _ hl hx hn hv,hc⟩
theorem aoy{rs rs':RF}{k:K}{av:AV}(h:∀q∈av.names,rs' q=rs q)(c:List k.den→Mask→U→List Kill→List aC→Option R'):gI rs' k [] av c=gI rs k [] av c:=by
 cases av with
 |ref q p=>
  have:look rs' [] q=look rs [] q:=h q (by simp [AV.names])
  simp only [gI,this]
 |slc q p lo n=>
  have hq:look rs' [] q=look rs [] q:=h q (by simp [AV.names])
  cases p with
  |nil=>simp only [gI,hq]
  |cons=>rfl
 |_=>rfl
theorem aBK(M:Moved w C0 rs0 C rs fs ks){k:K}{av:AV}{v:Value}(hl:av.eG=true)(hloc:av.isLocal=true)(hh:hit ks av=false)(hn:∀q∈av.names,q.1≠1)(hv:AVC w C0 rs0 av [v])
  {c:List k.den→Mask→U→List Kill→List aC→Option R'} (h:gI rs k [] av c=some r) :
  ∃xs m u' k1 g1 C',c xs m u' k1 g1=some r∧Moved w C0 rs0 C' (look rs u') (fs++[⟨false,.sl k,m,xs⟩]) (ks++k1)∧U3 w C rs fs ks C' (look rs u') (fs++[⟨false,.sl k,m,xs⟩]) (ks++k1) ∧
   AVC w C' (cmb (look rs u') (fs++[⟨false,.sl k,m,xs⟩])) (.ref (fr fs.length) []) [v]:=by
 have hcur:=M.leaf av [v] hl hh hn hv
 have hcmb:∀q,q.1≠1→cmb rs fs q=rs q:=fun q hq=>if_neg hq
 rw [←aoy (rs':=cmb rs fs) (fun q hq=>hcmb q (hn q hq)) c] at h
 have hlook0:look (cmb rs fs) []=cmb rs fs:=rfl
 obtain ⟨xs,m,u',k1,g1,C2,G,g,hown,Fd,henc,hkeys,hptr⟩:=Eo (rs:=cmb rs fs) (u:=[]) M.mem hcur h
 rw [hlook0] at Fd hptr
 have hnames:∀q∈av.names,2≤q.1:=by
  intro q hq
  cases av with
  |ref q0 p=>
   simp only [AV.names,List.mem_singleton] at hq
   subst hq
   obtain ⟨q1,q2⟩:=q
   match q1,hloc with
   |q1+2,_=>simp
  |slc q0 p lo n=>
   simp only [AV.names,List.mem_singleton] at hq
   subst hq
   obtain ⟨q1,q2⟩:=q
   match q1,hloc with
   |q1+2,_=>simp
  |nil=>cases hq
  |emp=>cases hq
  |_=>simp [AV.isLocal] at hloc
 have hu0:∀q:aC,q.1<2→dL q u'=none:=fun q hq=>hkeys q (fun h=>by have:=hnames q h;omega)
 have hrs1:∀q,q.1≠1→look (cmb rs fs) u' q=look rs u' q:=by
  intro q hq
  unfold look
  cases dL q u' with
  |some z=>rfl
  |none=>exact hcmb q hq
 have hrs2:∀j,look (cmb rs fs) u' (fr j)=fs[j]?:=by
  intro j
  unfold look
  rw [hu0 (fr j) (by simp)]
  rfl
 let C':Ctx:=C2.with (fr fs.length) 0 [v] G
 have hcase:∀{q:aC}{z:Root},cmb (look rs u') (fs++[⟨false,.sl k,m,xs⟩]) q=some z→(q=fr fs.length∧z=⟨false,.sl k,m,xs⟩)∨(q≠fr fs.length∧look (cmb rs fs) u' q=some z):=by
  rintro ⟨q1,q2⟩ z hz
  unfold cmb at hz
  by_cases h1:q1=1
  ·subst h1
   simp only [if_true] at hz
   by_cases h2:q2=fs.length
   ·subst h2
    simp only [List.getElem?_append_right (Nat.le_refl _),Nat.sub_self,List.getElem?_cons_zero,Option.some.injEq] at hz
    exact .inl ⟨rfl,hz.symm⟩
   ·have hlt:q2<fs.length:=by
     have:=(List.getElem?_eq_some_iff.1 hz).1
     simp at this;omega
    rw [List.getElem?_append_left hlt] at hz
    exact .inr ⟨by intro h;cases h;exact h2 rfl,by rw [show ((1,q2):aC)=fr q2 from rfl,hrs2];exact hz⟩
  ·rw [if_neg h1] at hz
   exact .inr ⟨by intro h;cases h;exact h1 rfl,by rw [hrs1 _ h1];exact hz⟩
 have hptr1:∀q z,cmb (look rs u') (fs++[⟨false,.sl k,m,xs⟩]) q=some z→∀p∈bf z.k z.d,p.1≠1:=by
  intro q z hz p hp
  rcases hcase hz with ⟨rfl,rfl⟩|⟨_,h2⟩
  ·obtain ⟨q0,x,hx,hp0⟩:=hptr p hp
   exact M.ptr1 q0 x hx p hp0
  ·obtain ⟨z0,hz0,_,_,hp0⟩:=Fd.was q z h2
   exact M.ptr1 q z0 hz0 p (hp0 p hp)
 have hneF:∀{p:aC},p.1≠1→p≠fr fs.length:=by rintro p hp rfl;exact hp rfl
 have hGfree:∀{b:Nat},G b→¬C.Z b∧¬C.S b∧b<w.heap.size:=fun hb=>Fd.free M.mem hb
 have hmem:Mem w C' (cmb (look rs u') (fs++[⟨false,.sl k,m,xs⟩])):=by
  refine ⟨?_,?_,?_,?_,?_⟩
  ·intro q z hz
   rcases hcase hz with ⟨rfl,rfl⟩|⟨h1,h2⟩
   ·refine ⟨G,?_,by rw [Ctx.jH];exact .refl _,fun h=>by cases h⟩
    rw [Ctx.with_ρ0]
    show Enc w C'.θ C2.Z C2.S (.sl k) m xs [v] G
    rw [Fd.Z,Fd.S]
    exact henc.mono (.refl _) (.refl _) (.refl _) (fun _ _=>rfl) (fun p hp=>by rw [Ctx.with_θ (hneF (hptr1 _ _ hz p hp)),Fd.θ])
   ·exact (Fd.mem.ok q z h2).keep rfl rfl (Ctx.with_θ h1) (Ctx.with_ρ h1) (Ctx.jF h1) (fun p hp=>Ctx.with_θ (hneF (hptr1 _ _ hz p hp))) (fun _ _=>rfl)
  ·intro q q' z z' hz hz' hne
   rcases hcase hz with ⟨rfl,rfl⟩|⟨h1,h2⟩<;>rcases hcase hz' with ⟨rfl,rfl⟩|⟨k1,k2⟩
   ·exact absurd rfl hne
   ·rw [Ctx.jH,Ctx.jF k1];exact Fd.gdisj q' z' k2
   ·rw [Ctx.jH,Ctx.jF h1];exact (Fd.gdisj q z h2).symm
   ·rw [Ctx.jF h1,Ctx.jF k1];exact Fd.mem.disj q q' z z' h2 k2 hne
  ·intro q z b hz hb
   show ¬C2.Z b∧¬C2.S b∧_
   rcases hcase hz with ⟨rfl,rfl⟩|⟨h1,h2⟩
   ·rw [Ctx.jH] at hb;rw [Fd.Z,Fd.S];exact hGfree hb
   ·rw [Ctx.jF h1] at hb;exact Fd.mem.apart q z b h2 hb
  ·exact Fd.mem.ro
  ·intro q z hz p hp z2 hz2
   rcases hcase hz2 with ⟨rfl,rfl⟩|⟨k1,k2⟩
   ·exact absurd rfl (hptr1 q z hz _ hp)
   ·rcases hcase hz with ⟨rfl,rfl⟩|⟨h1,h2⟩
    ·obtain ⟨q0,x,hx,hp0⟩:=hptr p hp
     obtain ⟨z0,hz0,_,hm0,_⟩:=Fd.was p z2 k2
     rw [hm0];exact M.mem.ptr q0 x hx p hp0 z0 hz0
    ·exact Fd.mem.ptr q z h2 p hp z2 k2
 have hstage:∀b vs,b.eG=true→hit k1 b=false→(∀q∈b.names,q.1=1→q.2<fs.length)→AVC w C (cmb rs fs) b vs→AVC w C' (cmb (look rs u') (fs++[⟨false,.sl k,m,xs⟩])) b vs:=by
  intro b vs hl hh hn hb
  refine mJ (C':=C') Fd.mem (fun q=>q=fr fs.length) rfl rfl (fun q hq=>Ctx.with_θ hq) (fun q hq=>Ctx.with_ρ hq) ?_ (fun _ _=>rfl) hl (fun q hq h=>by
   have:=hn q hq (by rw [h]);rw [h] at this;simp at this) (Fd.leaf b vs hl hh hb)
  intro q z hq hz
  rcases hcase hz with ⟨h,_⟩|⟨_,h2⟩
  ·exact absurd h hq
  ·exact h2
 refine ⟨xs,m,u',k1,g1,C',g,⟨Fd.Z.trans M.Z,Fd.S.trans M.S,fun i=>?_,hmem,?_,?_,hptr1,fun i=>?_⟩,⟨fun b vs hl hh hn hb=>?_,by simp,fun b hb=>?_⟩,?_⟩
 ·rw [Ctx.with_θ (by intro h;cases h),Ctx.with_ρ (by intro h;cases h),Fd.θ,Fd.ρ];exact M.pars i
 ·intro b vs hl hh hn hb
  rw [I5,Bool.or_eq_false_iff] at hh
  exact hstage b vs hl hh.2 (fun q hq h1=>absurd h1 (hn q hq)) (M.leaf b vs hl hh.1 hn hb)
 ·intro q z b hz hb
  rcases hcase hz with ⟨rfl,rfl⟩|⟨h1,h2⟩
  ·rw [Ctx.jH] at hb
   obtain ⟨q0,y0,hy0,hb0⟩:=Fd.gfoot b hb
   exact M.foot q0 y0 b hy0 hb0
  ·rw [Ctx.jF h1] at hb
   obtain ⟨z0,hz0,hs0,_⟩:=Fd.was q z h2
   exact M.foot q z0 b hz0 (hs0 b hb)
 ·unfold look
  rw [hu0 (par i) (by simp)]
  exact M.rs1 i
 ·rw [I5,Bool.or_eq_false_iff] at hh
  exact hstage b vs hl hh.2 hn hb
 ·rw [I5,Bool.or_eq_false_iff] at hb;exact hb.1
 ·refine ⟨v,rfl,fun z hz=>?_⟩
  rcases hcase hz with ⟨_,rfl⟩|⟨h,_⟩
  ·exact ⟨k,none,rfl,trivial,by rw [dK,Ctx.with_ρ0];rfl⟩
  ·exact absurd rfl h
theorem aCw{w:World}{C:Ctx}{rs:RF}{av:AV}{vs:List Value}(h:AVC w C rs av vs)(hl:av.isLocal=true):∃v,vs=[v]:=by
 cases av with
 |nil=>exact ⟨_,h⟩
 |emp=>obtain ⟨a,h⟩:=h;exact ⟨_,h⟩
 |ref=>obtain ⟨v,h,_⟩:=h;exact ⟨v,h⟩
 |slc=>obtain ⟨v,_,h,_⟩:=h;exact ⟨v,h⟩
 |_=>cases hl
structure aDS(w:World)(C0:Ctx)(rs0:RF)(C:Ctx)(rs:RF)(fs:List Root)(ks:List Kill)(av a':AV)(rs':RF)(fs':List Root)(ks':List Kill)(C':Ctx)(vs:List Value):Prop where
 moved:Moved w C0 rs0 C' rs' fs' ks'
 stage:U3 w C rs fs ks C' rs' fs' ks'
 val:AVC w C' (cmb rs' fs') a' vs
 names:∀q∈a'.names,q.1=1→q.2<fs'.length
 agg:a'.agg=av.agg
theorem aDg(M:Moved w C0 rs0 C rs fs ks){q:aC}(hq:2≤q.1)(hh:hit ks (.ptr q [])=false){x:Root}(hx:rs q=some x)(hxm:x.mem=true){vs:List Value}(hv:AVC w C0 rs0 (.ptr q []) vs) :
  ∃C',Moved w C0 rs0 C' (look rs [(q,none)]) (fs++[x]) ks∧U3 w C rs fs ks C' (look rs [(q,none)]) (fs++[x]) ks∧AVC w C' (cmb (look rs [(q,none)]) (fs++[x])) (.ptr (fr fs.length) []) vs:=by
 have hcur:=M.leaf (.ptr q []) vs rfl hh (by intro p hp;simp only [AV.names,List.mem_singleton] at hp;subst hp;omega) hv
 have hx0:cmb rs fs q=some x:=by unfold cmb;rw [if_neg (by omega)];exact hx
 let C':Ctx:=C.with (fr fs.length) (C.θ q) (C.ρ q) (C.F q)
 have hcase:∀{p:aC}{z:Root},cmb (look rs [(q,none)]) (fs++[x]) p=some z→(p=fr fs.length∧z=x)∨(p≠fr fs.length∧p≠q∧cmb rs fs p=some z):=by
  rintro ⟨q1,q2⟩ z hz
  unfold cmb at hz
  by_cases h1:q1=1
  ·subst h1
   simp only [if_true] at hz
   by_cases h2:q2=fs.length
   ·subst h2
    simp only [List.getElem?_append_right (Nat.le_refl _),Nat.sub_self,List.getElem?_cons_zero,Option.some.injEq] at hz
    exact .inl ⟨rfl,hz.symm⟩
   ·have hlt:q2<fs.length:=by
     have:=(List.getElem?_eq_some_iff.1 hz).1
     simp at this;omega
    rw [List.getElem?_append_left hlt] at hz
    refine .inr ⟨by intro h;cases h;exact h2 rfl,by rintro rfl;simp at hq,?_⟩
    unfold cmb;rw [if_pos rfl];exact hz
  ·rw [if_neg h1] at hz
   unfold look at hz
   simp only [dL] at hz
   by_cases hqq:((q1,q2):aC)=q
   ·rw [dx.2 hqq] at hz;cases hz
   ·rw [iF hqq] at hz
    refine .inr ⟨by intro h;cases h;exact h1 rfl,hqq,?_⟩
    unfold cmb;rw [if_neg h1];exact hz
 have hptr1:∀p z,cmb (look rs [(q,none)]) (fs++[x]) p=some z→∀t∈bf z.k z.d,t.1≠1:=by
  intro p z hz t ht
  rcases hcase hz with ⟨rfl,rfl⟩|⟨_,_,h2⟩
  ·exact M.ptr1 q z hx0 t ht
  ·exact M.ptr1 p z h2 t ht
 have hneF:∀{p:aC},p.1≠1→p≠fr fs.length:=by rintro p hp rfl;exact hp rfl
 have hmem:Mem w C' (cmb (look rs [(q,none)]) (fs++[x])):=by
  refine ⟨?_,?_,?_,?_,?_⟩
  ·intro p z hz
   rcases hcase hz with ⟨rfl,rfl⟩|⟨h1,_,h2⟩
   ·obtain ⟨G,g1,g2,g3⟩:=M.mem.ok q z hx0
    refine ⟨G,?_,by rw [Ctx.jH];exact g2,fun hm=>by rw [Ctx.with_θ0,Ctx.jH,Ctx.with_ρ0];exact g3 hm⟩
    rw [Ctx.with_ρ0]
    exact g1.mono (.refl _) (.refl _) (.refl _) (fun _ _=>rfl) (fun t ht=>by rw [Ctx.with_θ (hneF (hptr1 _ _ hz t ht))])
   ·exact (M.mem.ok p z h2).keep rfl rfl (Ctx.with_θ h1) (Ctx.with_ρ h1) (Ctx.jF h1) (fun t ht=>Ctx.with_θ (hneF (hptr1 _ _ hz t ht))) (fun _ _=>rfl)
  ·intro p p' z z' hz hz' hne
   rcases hcase hz with ⟨rfl,rfl⟩|⟨h1,h1',h2⟩<;>rcases hcase hz' with ⟨rfl,rfl⟩|⟨k1,k1',k2⟩
   ·exact absurd rfl hne
   ·rw [Ctx.jH,Ctx.jF k1];exact M.mem.disj q p' z z' hx0 k2 (Ne.symm k1')
   ·rw [Ctx.jH,Ctx.jF h1];exact M.mem.disj p q z z' h2 hx0 h1'
   ·rw [Ctx.jF h1,Ctx.jF k1];exact M.mem.disj p p' z z' h2 k2 hne
  ·intro p z b hz hb
   rcases hcase hz with ⟨rfl,rfl⟩|⟨h1,_,h2⟩
   ·rw [Ctx.jH] at hb;exact M.mem.apart q z b hx0 hb
   ·rw [Ctx.jF h1] at hb;exact M.mem.apart p z b h2 hb
  ·exact M.mem.ro
  ·intro p z hz t ht z2 hz2
   rcases hcase hz2 with ⟨rfl,rfl⟩|⟨k1,_,k2⟩
   ·exact absurd rfl (hptr1 p z hz _ ht)
   ·rcases hcase hz with ⟨rfl,rfl⟩|⟨_,_,h2⟩
    ·exact M.mem.ptr q z hx0 t ht z2 k2
    ·exact M.mem.ptr p z h2 t ht z2 k2
 have hstage:∀b vs,b.eG=true→(∀t∈b.names,t.1=1→t.2<fs.length)→AVC w C (cmb rs fs) b vs→AVC w C' (cmb (look rs [(q,none)]) (fs++[x])) b vs:=by
  intro b vs hl hn hb
  refine mJ (C':=C') M.mem (fun t=>t=fr fs.length) rfl rfl (fun t ht=>Ctx.with_θ ht) (fun t ht=>Ctx.with_ρ ht) ?_ (fun _ _=>rfl) hl (fun t ht h=>by
   have:=hn t ht (by rw [h]);rw [h] at this;simp at this) hb
  intro t z ht hz
  rcases hcase hz with ⟨h,_⟩|⟨_,_,h2⟩
  ·exact absurd h ht
  ·exact h2
 refine ⟨C',⟨M.Z,M.S,fun i=>?_,hmem,?_,?_,hptr1,fun i=>?_⟩,⟨fun b vs hl _ hn hb=>hstage b vs hl hn hb,by simp,fun b hb=>hb⟩,?_⟩
 ·rw [Ctx.with_θ (by intro h;cases h),Ctx.with_ρ (by intro h;cases h)];exact M.pars i
 ·intro b vs hl hh hn hb
  exact hstage b vs hl (fun t ht h1=>absurd h1 (hn t ht)) (M.leaf b vs hl hh hn hb)
 ·intro p z b hz hb
  rcases hcase hz with ⟨rfl,rfl⟩|⟨h1,_,h2⟩
  ·rw [Ctx.jH] at hb;exact M.foot q z b hx0 hb
  ·rw [Ctx.jF h1] at hb;exact M.foot p z b h2 hb
 ·unfold look
  simp only [dL]
  rw [iF (by rintro rfl;simp at hq)]
  exact M.rs1 i
 ·obtain ⟨b,off,rfl,h0,hroot⟩:=hcur
  obtain ⟨rfl,rfl⟩:=h0 rfl
  refine ⟨_,_,rfl,fun _=>⟨by rw [Ctx.with_θ0],rfl⟩,fun z hz=>?_⟩
  rcases hcase hz with ⟨_,rfl⟩|⟨h,_⟩
  ·refine ⟨z.k,C.ρ q,at_nil _,eD _ _ _,?_⟩
   rw [dK,Ctx.with_ρ0]
   unfold bX
   rw [if_pos hxm,Ctx.with_θ0]
  ·exact absurd rfl h
theorem akF{rs:RF}{av b:AV}(h:y9 rs av=some b):∃q x z,av=.ref q []∧q.1≠1∧rs q=some x∧x.mem=false∧x.m=.imm z∧x.k.plain=true∧b=.imm z x.k x.d:=by
 unfold y9 at h
 split at h
 case h_2=>cases h
 case h_1 d j=>
 split at h
 case h_2=>cases h
 case h_1 x hx=>
 cases hm:x.mem with
 |true=>rw [hm] at h;cases h
 |false=>
 rw [hm] at h
 simp only [cond_false] at h
 split at h
 case h_2=>cases h
 case h_1 z hz=>
 cases hp:x.k.plain with
 |false=>rw [hp] at h;cases h
 |true=>
 rw [hp] at h
 simp only [cond_true,Option.some.injEq] at h
 exact ⟨(d+2,j),x,z,rfl,by simp,hx,hm,hz,hp,h.symm⟩
theorem xK(M:Moved w C0 rs0 C rs fs ks){e:Option K}{av:AV}(hl:av.eG=true)(hg:av.agg=false)(hn:∀q∈av.names,q.1≠1){vs:List Value}(hv:AVC w C0 rs0 av vs)
  {c:AV→RF→List Root→List Kill→Option R'}
  (h:(bif hit ks av then none else match y9 rs av with
   |some b=>c b rs fs ks
   |none=>bif av.isLocal then (match e with
   |some (.sl k)=>gI rs k [] av fun xs m u' k1 _=>c (.ref (fr fs.length) []) (look rs u') (fs++[⟨false,.sl k,m,xs⟩]) (ks++k1)
   |some _=>none
   |none=>match av with
    |.nil=>c .nil rs fs ks
    |_=>none) else Yq av ks rs fs c)=some r) :
  ∃a' rs' fs' ks' C',c a' rs' fs' ks'=some r∧aDS w C0 rs0 C rs fs ks av a' rs' fs' ks' C' vs:=by
 cases hh:hit ks av with
 |true=>rw [hh] at h;cases h
 |false=>
 rw [hh] at h
 simp only [cond_false] at h
 cases hfz:y9 rs av with
 |some b=>
  rw [hfz] at h
  have hcur:=M.leaf av vs hl hh hn hv
  obtain ⟨q,x,z,rfl,hq1,hx,hxm,hmk,hpl,rfl⟩:=akF hfz
  obtain ⟨v,rfl,hroot⟩:=hcur
  have hx':cmb rs fs q=some x:=by unfold cmb;rw [if_neg hq1];exact hx
  obtain ⟨e',base,hat,_,hloc⟩:=hroot x hx'
  rw [at_nil] at hat
  rw [dK] at hloc
  simp only [Option.some.injEq,Prod.mk.injEq] at hloc hat
  obtain ⟨G,hE,_,_⟩:=M.mem.ok q x hx'
  rw [hmk,hloc.1] at hE
  refine ⟨_,_,_,_,C,h,M,.refl,⟨hpl,hE.aCU⟩,fun q hq=>(by cases hq),?_⟩
  show x.k.isAgg=false
  rw [hat];rfl
 |none=>
 rw [hfz] at h
 dsimp only at h
 cases hloc:av.isLocal with
 |true=>
  rw [hloc] at h
  simp only [cond_true] at h
  split at h
  case h_2=>cases h
  case h_3=>
   have hcur:=M.leaf av vs hl hh hn hv
   split at h
   ·exact ⟨_,_,_,_,C,h,M,.refl,hcur,fun q hq=>(by cases hq),rfl⟩
   ·simp at h
  case h_1 k=>
  obtain ⟨v,rfl⟩:=aCw hv hloc
  obtain ⟨xs,m,u',k1,g1,C',g,h1,h2,h3⟩:=aBK M hl hloc hh hn hv h
  refine ⟨_,_,_,_,C',g,h1,h2,h3,fun q hq _=>?_,hg.symm⟩
  simp only [AV.names,List.mem_singleton] at hq
  subst hq
  simp
 |false=>
  rw [hloc] at h
  simp only [cond_false] at h
  have hcur:=M.leaf av vs hl hh hn hv
  unfold Yq at h
  split at h
  ·exact ⟨_,_,_,_,C,h,M,.refl,hcur,fun q hq h1=>absurd h1 (hn q hq),rfl⟩
  ·exact ⟨_,_,_,_,C,h,M,.refl,hcur,fun q hq h1=>absurd h1 (hn q hq),rfl⟩
  ·exact ⟨_,_,_,_,C,h,M,.refl,hcur,fun q hq h1=>absurd h1 (hn q hq),rfl⟩
  ·split at h
   case h_2=>simp at h
   case h_1 x hx=>
   cases hxm:x.mem with
   |false=>rw [hxm] at h;simp at h
   |true=>
   rw [hxm] at h
   simp only [cond_true] at h
   obtain ⟨C',h1,h2,h3⟩:=aDg M (by simp) hh hx hxm hv
   refine ⟨_,_,_,_,C',h,h1,h2,h3,fun q hq _=>?_,rfl⟩
   simp only [AV.names,List.mem_singleton] at hq
   subst hq
   simp
  ·simp at h
theorem acv{ks:List Kill}{av:AV}(h:∀x:Kill,x.hits av=false):hit ks av=false:=by
 simp only [hit,List.any_eq_false]
 intro x _
 rw [h x];simp
theorem anE(a b:AV):∀q∈(AV.flatten a b).names,q∈a.names∨q∈b.names:=by
 intro q hq
 unfold AV.flatten at hq
 split at hq
 ·cases hq
 ·simpa [AV.names] using hq
theorem ahE:∀(av:AV){e:Option K}{C:Ctx}{rs:RF}{fs:List Root}{ks:List Kill}{c:AV→RF→List Root→List Kill→Option R'}{vs:List Value},Moved w C0 rs0 C rs fs ks→(∀q∈av.names,q.1≠1)→AVC w C0 rs0 av vs →
  adL e av ks rs fs c=some r→∃a' rs' fs' ks' C',c a' rs' fs' ks'=some r∧aDS w C0 rs0 C rs fs ks av a' rs' fs' ks' C' vs:=by
 intro av
 induction av with
 |imm z k d=>
  intro e C rs fs ks c vs M hn hv h
  exact ⟨_,_,_,_,C,h,M,.refl,M.leaf _ _ rfl (acv fun x=>by cases x<;>rfl) hn hv,fun q hq=>(by cases hq),rfl⟩
 |nilp=>
  intro e C rs fs ks c vs M hn hv h
  exact ⟨_,_,_,_,C,h,M,.refl,M.leaf _ _ rfl (acv fun x=>by cases x<;>rfl) hn hv,fun q hq=>(by cases hq),rfl⟩
 |pair a b iha ihb=>
  intro e C rs fs ks c vs M hn hv h
  simp only [adL] at h
  split at h
  case h_2=>simp at h
  case h_1 ka kb=>
  obtain ⟨v1,v2,rfl,h1,h2⟩:=hv
  obtain ⟨a',rs1,fs1,ks1,C1,h,A⟩:=iha M (fun q hq=>hn q (by simp [AV.names,hq])) h1 h
  obtain ⟨b',rs2,fs2,ks2,C2,h,B⟩:=ihb A.moved (fun q hq=>hn q (by simp [AV.names,hq])) h2 h
  refine ⟨_,_,_,_,C2,h,B.moved,A.stage.trans B.stage,AVC.flatten (AVC.ayc (fun b vs hl hh hn hb=>B.stage.leaf b vs hl hh hn hb) _ _ A.names A.val) B.val,fun q hq h1=>?_,by rw [K4];rfl⟩
  rcases anE _ _ q hq with hq|hq
  ·exact Nat.lt_of_lt_of_le (A.names q (atj _ _ q hq) h1) B.stage.grow
  ·exact B.names q hq h1
 |tcons a b _ _=>intro e C rs fs ks c vs M hn hv h;exact hv.elim
 |tnil=>intro e C rs fs ks c vs M hn hv h;exact hv.elim
 |dead=>
  intro e C rs fs ks c vs M hn hv h
  exact xK M rfl rfl hn hv h
 |nil=>intro e C rs fs ks c vs M hn hv h;exact xK M rfl rfl hn hv h
 |emp=>intro e C rs fs ks c vs M hn hv h;exact xK M rfl rfl hn hv h
 |ref q p=>intro e C rs fs ks c vs M hn hv h;exact xK M rfl rfl hn hv h
 |slc q p lo k0=>intro e C rs fs ks c vs M hn hv h;exact xK M rfl rfl hn hv h
 |ptr q p=>intro e C rs fs ks c vs M hn hv h;exact xK M rfl rfl hn hv h
 |iptr z k d p=>intro e C rs fs ks c vs M hn hv h;exact xK M rfl rfl hn hv h
 |nn z k d=>intro e C rs fs ks c vs M hn hv h;exact xK M rfl rfl hn hv h
 |vw q p L=>intro e C rs fs ks c vs M hn hv h;exact xK M rfl rfl hn hv h
 |fn f caps=>intro e C rs fs ks c vs M hn hv h;exact xK M rfl rfl hn hv h
theorem aqZ{av:AV}{e:Option K}(M:Moved w C0 rs0 C rs fs ks)(hn:∀q∈av.names,q.1≠1){v:Value}(hv:bW w C0 rs0 v av){c:AV→RF→List Root→List Kill→Option R'}(h:adL e av ks rs fs c=some r) :
  ∃a' rs' fs' ks' C',c a' rs' fs' ks'=some r∧Moved w C0 rs0 C' rs' fs' ks'∧U3 w C rs fs ks C' rs' fs' ks'∧KW w C' (cmb rs' fs') v a'∧∀q∈a'.names,q.1=1→q.2<fs'.length:=by
 rcases hv with (rfl|⟨hg,vs,rfl,hA⟩|⟨hg,hA,hc⟩)|⟨vs,_,ht⟩
 ·simp only [adL] at h
  rw [acv fun x=>by cases x<;>rfl] at h
  simp [AV.isLocal,Yq,y9] at h
 ·obtain ⟨a',rs',fs',ks',C',h,A⟩:=ahE av M hn hA h
  exact ⟨a',rs',fs',ks',C',h,A.moved,A.stage,.inr (.inl ⟨by rw [A.agg];exact hg,vs,rfl,A.val⟩),A.names⟩
 ·obtain ⟨a',rs',fs',ks',C',h,A⟩:=ahE av M hn hA h
  exact ⟨a',rs',fs',ks',C',h,A.moved,A.stage,.inr (.inr ⟨by rw [A.agg];exact hg,A.val,hc⟩),A.names⟩
 ·cases av with
  |tnil=>simp only [adL] at h;rw [acv fun x=>by cases x<;>rfl] at h;simp [AV.isLocal,Yq,y9] at h
  |tcons a b=>simp only [adL] at h;cases hh:hit ks (.tcons a b)<;>rw [hh] at h<;>simp [AV.isLocal,Yq,y9] at h
  |_=>exact ht.elim
theorem an5:∀(l:List (AV×Option K))(vals:List Value){C:Ctx}{rs:RF}{fs:List Root}{ks:List Kill}{c:AV→RF→List Root→List Kill→Option R'},Moved w C0 rs0 C rs fs ks→aoF l=false→l.length=vals.length →
  (∀(i:Nat)(x:AV×Option K)(v:Value),l[i]?=some x→vals[i]?=some v→bW w C0 rs0 v x.1)→adM l ks rs fs c=some r →
  ∃t rs' fs' ks' C',c t rs' fs' ks'=some r∧Moved w C0 rs0 C' rs' fs' ks'∧U3 w C rs fs ks C' rs' fs' ks'∧ae0 w C' (cmb rs' fs') t vals:=by
 intro l
 induction l with
 |nil=>
  intro vals C rs fs ks c M _ hlen _ h
  have:vals=[]:=List.eq_nil_of_length_eq_zero hlen.symm
  subst this
  exact ⟨_,_,_,_,C,h,M,.refl,rfl⟩
 |cons x l ih=>
  intro vals C rs fs ks c M hfr hlen hv h
  obtain ⟨a,k⟩:=x
  cases vals with
  |nil=>simp at hlen
  |cons v vals=>
  simp only [aoF,Bool.or_eq_false_iff] at hfr
  have hn:∀q∈a.names,q.1≠1:=by
   intro q hq h1
   have:=hfr.1
   simp only [aD7,List.any_eq_false] at this
   exact this q hq (beq_iff.2 h1)
  simp only [adM] at h
  obtain ⟨a',rs1,fs1,ks1,C1,h,M1,S1,V1,N1⟩:=aqZ M hn (hv 0 (a,k) v rfl rfl) h
  obtain ⟨t,rs2,fs2,ks2,C2,h,M2,S2,T2⟩:=ih vals M1 hfr.2 (by simpa using hlen) (fun i x v hx hvv=>hv (i+1) x v (by simpa using hx) (by simpa using hvv)) h
  exact ⟨_,_,_,_,C2,h,M2,S1.trans S2,v,vals,rfl,KW.ayc (fun b vs hl hh hn hb=>S2.leaf b vs hl hh hn hb) N1 V1,T2⟩
end
end Go.Abs
namespace Go.Abs
section
variable {P : Program} {V : Env}
theorem azQ:∀(l:List AV)(k t:Nat),aeV (ao7 k l) t=if k≤t then (l[t-k]?).getD .dead else .dead:=by
 intro l
 induction l with
 |nil=>intro k t;simp [ao7,aeV]
 |cons a l ih=>
  intro k t
  simp only [ao7,aeV]
  by_cases h:t=k
  ·rw [beq_iff.2 h];subst h;simp
  ·rw [iB h]
   simp only [cond_false,ih]
   by_cases h2:k≤t
   ·rw [if_pos (by omega),if_pos h2,show t-k=(t-(k+1))+1 by omega];simp
   ·rw [if_neg (by omega),if_neg h2]
theorem azn:∀(l:List Root)(k:Nat)(q:aC),adN (ao6 k l) q=if q.1=0∧k≤q.2 then l[q.2-k]? else none:=by
 intro l
 induction l with
 |nil=>intro k q;simp [ao6,adN]
 |cons a l ih=>
  intro k q
  simp only [ao6,adN]
  by_cases h:q=par k
  ·rw [dx.2 h];subst h;simp
  ·rw [iF h]
   simp only [cond_false,ih]
   obtain ⟨q1,q2⟩:=q
   by_cases h2:q1=0∧k≤q2
   ·have hne:q2≠k:=by rintro rfl;exact h (by rw [h2.1])
    rw [if_pos ⟨h2.1,by simp;omega⟩,if_pos h2]
    simp only
    rw [show q2-k=(q2-(k+1))+1 by omega];simp
   ·rw [if_neg h2,if_neg (fun h3=>h2 ⟨h3.1,by have:=h3.2;simp at this;omega⟩)]
theorem av9(l:List Root):adN (ao6 0 l)=adP l:=by
 funext q
 rw [azn]
 obtain ⟨q1,q2⟩:=q
 match q1 with
 |0=>simp [adP]
 |q1+1=>simp [adP]
theorem avE{m n:Nat}(hmn:m≤n):∀(c:Code),Et m c=true→Et n c=true:=by
 intro c
 induction c with
 |region id ops draw=>
  intro h
  simp only [Et,List.all_eq_true] at h ⊢
  refine fun o ho=>?_
  have h2:=h o ho
  cases hd:o.dst with
  |none=>rfl
  |some d=>
   rw [hd] at h2
   have h3:Nat.blt d m=true:=h2
   have h4:d+1≤m:=Nat.le_of_ble_eq_true h3
   show Nat.ble (d+1) n=true
   exact Nat.ble_eq_true_of_le (Nat.le_trans h4 hmn)
 |seq a b iha ihb=>intro h;simp only [Et,Bool.and_eq_true] at h ⊢;exact ⟨iha h.1,ihb h.2⟩
 |cond x a b iha ihb=>intro h;simp only [Et,Bool.and_eq_true] at h ⊢;exact ⟨iha h.1,ihb h.2⟩
 |block id a ih=>intro h;exact ih h
 |loop a ih=>intro h;exact ih h
 |_=>intro _;rfl
theorem an4{rs:RF}:∀(n i:Nat){ps:List Root},JI rs i n=some ps→ps.length=n∧∀(j:Nat)(x:Root),ps[j]?=some x→rs (par (i+j))=some x:=by
 intro n
 induction n with
 |zero=>intro i ps h;simp only [JI,Option.some.injEq] at h;subst h;exact ⟨rfl,by simp⟩
 |succ n ih=>
  intro i ps h
  simp only [JI] at h
  split at h
  case h_2=>simp at h
  case h_1 x hx=>
  cases hr:JI rs (i+1) n with
  |none=>rw [hr] at h;simp at h
  |some ps'=>
   rw [hr] at h
   simp only [Option.map_some,Option.some.injEq] at h
   subst h
   obtain ⟨h1,h2⟩:=ih _ hr
   refine ⟨by simp [h1],fun j y hj=>?_⟩
   cases j with
   |zero=>simp only [List.getElem?_cons_zero,Option.some.injEq] at hj;subst hj;exact hx
   |succ j=>have:=h2 j y (by simpa using hj);rw [show i+(j+1)=i+1+j by omega];exact this
theorem aAP{R:Type}(k:K)(d:k.den)(m:Mask)(c:(k':K)→k'.den→Mask→Option R):jc k d m [] c=c k d m:=by cases k<;>rfl
theorem atX{w0 w:World}{M0:BS}{n:Nat}{C0 C:Ctx}{st:St}{a:Act}(hT:iy P V)(R:Rel w0 M0 n C0 C st a w):∀(l:List ResultVar)(ts:List TypeId){vals:List (AV×Option K)},Bj V st.tmps st.roots l ts=some vals →
  ∃vs:List Value,vs.length=vals.length∧(∀(i:Nat)(x:AV×Option K)(v:Value),vals[i]?=some x→vs[i]?=some v→bW w C st.roots v x.1)∧∀(g:ResultVar→Sem Value),(∀t,g (.tmp t)=pure (a.tmps.getD t undef))→(∀t T,g (.cell t T)=(do loadVar T (←asAddr (a.tmps.getD t undef))))→(List.mapM g l).run P w=.ok vs w:=by
 intro l
 induction l with
 |nil=>intro ts vals h;simp only [Bj,Option.some.injEq] at h;subst h;exact ⟨[],rfl,by simp,fun _ _ _=>rfl⟩
 |cons r l ih=>
  intro ts vals h
  have step:∀(x:AV×Option K)(v:Value),(Bj V st.tmps st.roots l ts.tail).map (x::·)=some vals→bW w C st.roots v x.1→(∀(g:ResultVar→Sem Value),(∀t,g (.tmp t)=pure (a.tmps.getD t undef))→(∀t T,g (.cell t T)=(do loadVar T (←asAddr (a.tmps.getD t undef))))→(g r).run P w=.ok v w) →
    ∃vs:List Value,vs.length=vals.length∧(∀(i:Nat)(x:AV×Option K)(v:Value),vals[i]?=some x→vs[i]?=some v→bW w C st.roots v x.1)∧∀(g:ResultVar→Sem Value),(∀t,g (.tmp t)=pure (a.tmps.getD t undef))→(∀t T,g (.cell t T)=(do loadVar T (←asAddr (a.tmps.getD t undef))))→(List.mapM g (r::l)).run P w=.ok vs w:=by
   intro x v hm hv hrun
   cases hr:Bj V st.tmps st.roots l ts.tail with
   |none=>rw [hr] at hm;simp at hm
   |some vals'=>
    rw [hr] at hm
    simp only [Option.map_some,Option.some.injEq] at hm
    subst hm
    obtain ⟨vs,h1,h2,h3⟩:=ih _ hr
    refine ⟨v::vs,by simp [h1],fun i y u hy hu=>?_,fun g hg hg2=>by simp only [List.mapM_cons,Sem.run_bind,hrun g hg hg2,Result.andThen_ok,h3 g hg hg2,Sem.run_pure]⟩
    cases i with
    |zero=>simp only [List.getElem?_cons_zero,Option.some.injEq] at hy hu;subst hy;subst hu;exact hv
    |succ i=>exact h2 i y u (by simpa using hy) (by simpa using hu)
  cases r with
  |tmp t=>
   simp only [Bj] at h
   exact step _ _ h (R.tm t) (fun g hg _=>by rw [hg];rfl)
  |cell t T=>
   simp only [Bj] at h
   split at h
   case h_2=>simp at h
   case h_1 k q hk e1=>
   split at h
   case h_2=>simp at h
   case h_1 y hy=>
   split at h
   case isFalse=>simp at h
   case isTrue hc=>
   obtain ⟨hmem,hkk⟩:=hc
   obtain ⟨ti,hti,hki⟩:=Env.yU hk
   have hty:=hT.ty _ _ hti
   have hx:=R.tm t
   rw [e1] at hx
   obtain ⟨⟨b,off,hv,hbo,hroot⟩,_⟩:=hx.cell (by simp) rfl (by simp) (by simp)
   simp only [List.cons.injEq,and_true] at hv
   obtain ⟨rfl,rfl⟩:=hbo rfl
   obtain ⟨k',d,m,vs,b1,hp,hc2⟩:=iQ (p:=[]) (c:=fun k' d m=>some ((⟨k',d⟩:Σ k:K,k.den),m)) (R.mem.ok _ _ hy) (aAP _ _ _ _)
   simp only [Option.some.injEq,Prod.mk.injEq,Sigma.mk.injEq] at hc2
   obtain ⟨⟨rfl,hd⟩,rfl⟩:=hc2
   cases hd
   obtain ⟨k2,cs,g1,g2,g3⟩:=hroot y hy
   rw [hp.lc] at g3
   simp only [Option.some.injEq,Prod.mk.injEq] at g3
   obtain ⟨rfl,rfl⟩:=g3
   obtain ⟨F,he⟩:=hp.enc
   have hr:=akh R.mem hy hp
   have hm:y.k.isAgg=false→aaw q y.k [] y.d y.m≠.dead→(valOf y.k vs).cells = #[valOf y.k vs]:=fun hg hd=>he.cellV (ae4 hd) hg
   refine step _ (valOf y.k vs) h (bW.val hr.1 he.len hr.2 hm) ?_
   have hki:ti.k=y.k:=hki.trans hkk.symm
   have hrun:=JJ (P:=P) hty hp.lies (by rw [hki];exact he.len) (v:=valOf y.k vs) (by rw [hki];exact vB he.len)
   intro g _ hg2
   rw [hg2,hv]
   simpa [Instr.loadAt,Instr.sureAddr,asAddr] using hrun
theorem at7{fn:Func}{w0 w:World}{M0:BS}{n:Nat}{C0 C:Ctx}{st:St}{a:Act}(hT:iy P V)(R:Rel w0 M0 n C0 C st a w){ts:List TypeId}{vals:List (AV×Option K)}(h:Bj V st.tmps st.roots fn.results.toList ts=some vals) :
  ∃vs:List Value,vs.length=vals.length∧(∀(i:Nat)(x:AV×Option K)(v:Value),vals[i]?=some x→vs[i]?=some v→bW w C st.roots v x.1) ∧
   (results fn a.tmps).run P w=.ok (match vs with|[v]=>v|vs=>.tuple vs.toArray) w:=by
 obtain ⟨vs,h1,h2,h3⟩:=atX hT R _ _ h
 refine ⟨vs,h1,h2,?_⟩
 unfold results
 have he:fn.results=fn.results.toList.toArray:=by simp
 rw [he,List.mapM_toArray]
 simp only [Sem.run_bind,Sem.run_map]
 rw [h3 _ (fun t=>rfl) (fun t T=>rfl)]
 simp only [Result.andThen_ok,Sem.run_pure]
 cases vs with
 |nil=>rfl
 |cons v vl=>
  cases vl with
  |nil=>rfl
  |cons v2 vl=>simp
theorem Rel.NY{w0 w:World}{M0:BS}{n:Nat}{C0 C:Ctx}{s:St}{a:Act}{V:Env}(h:Rel w0 M0 n C0 C s a w):∃C',Rel w0 M0 n C0 C' (NY V s) a w:=by
 unfold Go.Abs.NY
 split
 ·exact ⟨C,h⟩
 ·exact Rel.aAN _ h
theorem ase{Γ:Glb}(hT:iy P V)(hE:aoC P Γ V){f:FuncId}{fn:Func}{F:FnI}(hf:P.funcs[f]?=some fn)(hb:fn.body=some F.body)(hres:fn.results.toList=F.results)
  (hdst:Et fn.ntmps F.body=true) (hL:sU V F.loops F.body) (rw:List Nat):Contract P Γ f ⟨rw,fun ci=>.mat (bL V F ci) .ret,false⟩:=by
 intro w C ci co vals hM hptr hsz hvals hgl hG
 have hE:aeZ P Γ V w (Bg C ci.roots) C:=⟨hE,fun b hb=>⟨hgl.1 b hb,fun ⟨i,x,hx,hF⟩=>(hM.apart (par i) x b hx hF).1 (hgl.1 b hb),hM.ro b (.inl (hgl.1 b hb))⟩,hgl.2⟩
 suffices hold:Calls P f vals w fun e w'=>match e with
   |.returned v=>∃C',U2 w C ci co v w' C'
   |_=>False from hold.mono fun e w' h=>by
  cases e with
  |returned v=>obtain ⟨C',h⟩:=h;exact ⟨C',h,fun h=>nomatch h⟩
  |_=>exact h
 refine calls_of_wp hf hb ?_
 have hG:bL V F ci=some co:=by
  obtain ⟨o,ho⟩:∃o,bL V F ci=o:=⟨_,rfl⟩
  have hG:(Tre.mat (bL V F ci) Tre.ret).run some=some co:=hG
  rw [ho] at hG ⊢
  cases o with
  |none=>cases hG
  |some x=>exact hG
 unfold bL at hG
 have hn:fn.ntmps≤(vals++Array.replicate (fn.ntmps-vals.size) undef).size:=by simp;omega
 have hinit:Rel w (Bg C ci.roots) (vals++Array.replicate (fn.ntmps-vals.size) undef).size C C (aA6 ci) { tmps:=vals++Array.replicate (fn.ntmps-vals.size) undef,defers:=[] } w:=by
  have hroots:(aA6 ci).roots=adP ci.roots:=av9 _
  refine ⟨⟨.refl _,rfl,fun _=>rfl⟩,by rw [hroots];exact hM,fun t=>?_,.refl _ _,fun q x b hq hb=>?_,fun q x hq p hp h1=>?_,rfl,rfl,fun _ _ _ _=>rfl,fun b hb=>.inl hb⟩
  ·rw [hroots]
   show bW w C _ _ (aeV (ao7 0 ci.args) t)
   rw [azQ]
   simp only [Nat.zero_le,if_true,Nat.sub_zero]
   cases ht:ci.args[t]? with
   |none=>exact bW.dead
   |some av=>
    simp only [Option.getD_some]
    have hlt:t<vals.size:=by rw [hsz];exact (List.getElem?_eq_some_iff.1 ht).1
    have:(vals++Array.replicate (fn.ntmps-vals.size) undef).getD t undef=vals[t]:=by
     rw [Array.getD_eq_getD_getElem?,Array.getElem?_append_left hlt,Array.getElem?_eq_getElem hlt];rfl
    rw [this]
    exact hvals t _ av (Array.getElem?_eq_getElem hlt) ht
  ·rw [hroots] at hq
   obtain ⟨q1,q2⟩:=q
   match q1,hq with
   |0,hq=>exact .inr ⟨q2,x,hq,hb⟩
   |q1+1,hq=>cases hq
  ·rw [hroots] at hq
   obtain ⟨q1,q2⟩:=q
   match q1,hq with
   |0,hq=>have:=hptr x (List.mem_of_getElem? hq) p hp;omega
   |q1+1,hq=>cases hq
 refine ays hT hE F.body (avE hn _ hdst) hL (fun e s' a' w' C' hc R'=>?_) hinit hG
 have hfin:(match Bj V (NY V s').tmps (NY V s').roots F.results F.types with
   |none=>none
   |some vals=>bif (NY V s').pins 1||aoF vals then none else
    adM vals [] (NY V s').roots [] fun r rs fs _=>match JI rs 0 ci.roots.length with
     |none=>none
     |some ps=>bif uV ps.length fs.length ps&&uV ps.length fs.length fs then some (⟨one r,ps,fs⟩:au) else none)=some co→bodyPost P fn (fun e w'=>match e with
   |.returned v=>∃C',U2 w C ci co v w' C'
   |_=>False) .ret a' w':=by
  clear hc
  obtain ⟨C',R'⟩:=R'.NY
  generalize NY V s'=s' at R'
  intro hc
  split at hc
  case h_1=>simp at hc
  case h_2 _ rv hrv=>
  cases hchk:(s'.pins 1||aoF rv) with
  |true=>rw [hchk] at hc;simp at hc
  |false=>
  rw [hchk] at hc
  simp only [cond_false] at hc
  simp only [Bool.or_eq_false_iff] at hchk
  rw [←hres] at hrv
  obtain ⟨vl,hsl1,hsl2,hsl3⟩:=at7 hT R' hrv
  refine ⟨R'.defers,_,hsl3,?_⟩
-- the state as the start of the results' way
  have hp1:∀q y,s'.roots q=some y→∀p∈bf y.k y.d,p.1≠1:=by
   intro q y hy p hp h1
   have:=R'.pins q y hy p hp (by omega)
   rw [h1,hchk.1] at this;cases this
  have hsub:∀q y,cmb s'.roots [] q=some y→s'.roots q=some y:=by
   intro q y h
   unfold cmb at h
   split at h
   ·simp at h
   ·exact h
  have hM0:Moved w' C' s'.roots C' s'.roots [] []:=by
   refine ⟨rfl,rfl,fun _=>⟨rfl,rfl⟩,⟨fun q y h=>R'.mem.ok q y (hsub q y h),fun q q' y y' h h'=>R'.mem.disj q q' y y' (hsub q y h) (hsub q' y' h'),fun q y b h=>R'.mem.apart q y b (hsub q y h),R'.mem.ro,fun q y h p hp z hz=>R'.mem.ptr q y (hsub q y h) p hp z (hsub p z hz)⟩,
    fun b vs hl _ _ hb=>mJ R'.mem (fun _=>False) rfl rfl (fun _ _=>rfl) (fun _ _=>rfl) (fun q y _ h=>hsub q y h) (fun _ _=>rfl) hl (fun _ _ h=>h) hb,
    fun q y b h hb=>⟨q,y,hsub q y h,hb⟩,fun q y h=>hp1 q y (hsub q y h),fun _=>rfl⟩
  obtain ⟨tv,rs2,fs2,ks2,C2,hc,M2,S2,T2⟩:=an5 rv vl hM0 hchk.2 hsl1.symm hsl2 hc
  split at hc
  case h_1=>simp at hc
  case h_2 _ ps hps=>
  obtain ⟨hpl,hps2⟩:=an4 _ _ hps
  cases hchk3:(uV ps.length fs2.length ps&&uV ps.length fs2.length fs2) with
  |false=>rw [hchk3] at hc;simp at hc
  |true=>
  rw [hchk3] at hc
  simp only [cond_true,Option.some.injEq] at hc
  subst hc
  have hout:∀q y,Pg ⟨one tv,ps,fs2⟩ q=some y→cmb rs2 fs2 q=some y:=by
   rintro ⟨q1,q2⟩ y hq
   match q1,hq with
   |0,hq=>have:=hps2 q2 y hq;rw [Nat.zero_add] at this;exact this
   |1,hq=>exact hq
   |q1+2,hq=>cases hq
  have hval:∀b vs,b.eG=true→hit [] b=false→AVC w' C2 (cmb rs2 fs2) b vs→AVC w' C2 (Pg ⟨one tv,ps,fs2⟩) b vs:=
   fun b vs hl _ hb=>mJ M2.mem (fun _=>False) rfl rfl (fun _ _=>rfl) (fun _ _=>rfl) (fun q y _ h=>hout q y h) (fun _ _=>rfl) hl (fun _ _ h=>h) hb
  refine ⟨C2,fun b hb=>(by rw [M2.Z];exact R'.ext.Z b hb),M2.S.trans R'.ext.S,fun i=>(M2.pars i).1.trans (R'.ext.θ i),
   ⟨fun q y h=>M2.mem.ok q y (hout q y h),fun q q' y y' h h'=>M2.mem.disj q q' y y' (hout q y h) (hout q' y' h'),fun q y b h=>M2.mem.apart q y b (hout q y h),M2.mem.ro,fun q y h p hp z hz=>M2.mem.ptr q y (hout q y h) p hp z (hout p z hz)⟩,
   ?_,fun i x hx hm=>?_,R'.kept,fun q y b hq hb=>?_,fun b hb=>R'.zn b (by rw [←M2.Z];exact hb)⟩
  ·have hT2:=ae0.step hval _ _ T2
   rw [Yl] at hT2
   show bW w' C2 _ _ (one tv)
   cases tv with
   |tnil=>
    have:vl=[]:=hT2
    subst this
    exact .inr ⟨[],rfl,rfl⟩
   |tcons x y=>
    obtain ⟨v,l,rfl,h1,h2⟩:=hT2
    cases y with
    |tnil=>
     have:l=[]:=h2
     subst this
     exact .inl h1
    |tcons x2 y2=>
     obtain ⟨v2,l2,rfl,h3,h4⟩:=h2
     exact .inr ⟨v::v2::l2,rfl,v,_,rfl,h1,v2,l2,rfl,h3,h4⟩
    |_=>exact h2.elim
   |_=>exact hT2.elim
  ·have h1:=hps2 i x hx
   rw [Nat.zero_add,M2.rs1 i] at h1
   rw [(M2.pars i).2]
   exact R'.parρ i x h1 hm
  ·obtain ⟨q0,y0,h1,h2⟩:=M2.foot q y b (hout q y hq) hb
   exact R'.foot q0 y0 b h1 h2
 cases e with
 |exit _=>simp at hc
 |normal=>exact hfin hc
 |ret=>exact hfin hc
end
end Go.Abs
namespace Go.Abs
def anm:K→List Value→Option (List Value)
 |.int ik,.int k n::l=>bif decide (k=ik)&&decide (n=0) then some l else none
 |.bool,.bool false::l=>some l
 |.str,.string ⟨⟨[]⟩⟩::l=>some l
 |.ptr,.pointer none::l=>some l
 |.fn,.nilFunc::l=>some l
 |.sl _,.slice none 0 0::l=>some l
 |.unit,l=>some l
 |.pair a b,l=>match anm a l with
  |some l=>anm b l
  |none=>none
 |_,_=>none
theorem aw2:∀{k:K}{l l':List Value},anm k l=some l'→l=k.zeroCells++l':=by
 intro k
 induction k with
 |pair a b iha ihb=>
  intro l l' h
  simp only [anm] at h
  split at h
  ·rename_i m hm
   rw [iha hm,ihb h];simp [K.zeroCells]
  ·cases h
 |int ik=>
  intro l l' h
  unfold anm at h
  split at h<;>first|(cases h;done)|skip
  all_goals try (rename_i heq;cases heq)
  cases hc:(decide (_=ik)&&decide (_=(0:Int))) with
  |false=>rw [hc] at h;cases h
  |true=>
   rw [hc] at h
   simp only [cond_true,Option.some.injEq] at h
   simp only [Bool.and_eq_true,decide_eq_true_eq] at hc
   obtain ⟨rfl,rfl⟩:=hc
   subst h
   rfl
 |unit=>intro l l' h;cases h;rfl
 |_=>
  intro l l' h
  unfold anm at h
  split at h<;>first|(cases h;done)|skip
  all_goals try (rename_i heq;cases heq)
  all_goals (cases h;first|rfl|simp [K.zeroCells])
def fieldsB(P:Program):List Field→K→Nat→Bool
 |[],.unit,_=>true
 |f::fs,.pair a b,off=>Nat.beq f.offset off&&!Nat.beq a.size 0&&(match P.info? f.type with
  |some i=>Nat.beq i.size a.size&&decide (arW P f.type=some a.isAgg)
  |none=>false)&&fieldsB P fs b (off+a.size)
 |_,_,_=>false
theorem acr{P:Program}:∀(fs:List Field){k:K}{off:Nat},fieldsB P fs k off=true→w9 P fs k off:=by
 intro fs
 induction fs with
 |nil=>intro k off h;cases k<;>first|trivial|cases h
 |cons f fs ih=>
  intro k off h
  cases k<;>first|(cases h;done)|skip
  rename_i a b
  simp only [fieldsB,Bool.and_eq_true,Bool.not_eq_true'] at h
  obtain ⟨⟨⟨h1,h2⟩,h3⟩,h4⟩:=h
  refine ⟨Nat.eq_of_beq_eq_true h1,(fun h0=>by rw [h0] at h2;cases h2),?_,ih h4⟩
  split at h3
  ·rename_i i hi;simp only [Bool.and_eq_true,decide_eq_true_eq] at h3;exact ⟨i,hi,Nat.eq_of_beq_eq_true h3.1,h3.2⟩
  ·cases h3
def aAk(P:Program)(V:Env)(ti:TI)(d:TypeDesc):Bool:=
 match ti.k,d with
 |.int ik,.int k=>decide (k=ik)
 |.bool,.bool=>true
 |.str,.string=>true
 |.ptr,.pointer _=>true
 |.fn,.func ..=>true
 |.sl e,.slice t=>Nat.beq t ti.elem&&(match V.ti ti.elem with
  |some te=>decide (te.k=e)&&!Nat.beq te.k.size 0
  |none=>false)
 |.unit,.struct fs=>fieldsB P fs.toList .unit 0
 |.pair a b,.struct fs=>fieldsB P fs.toList (.pair a b) 0
 |_,_=>false
theorem avw{P:Program}{V:Env}{ti:TI}{d:TypeDesc}(h:aAk P V ti d=true):DOK P V ti d:=by
 unfold aAk at h
 unfold DOK
 cases hk:ti.k<;>simp only [hk] at h ⊢ <;> cases d<;>simp only [] at h<;>first|(cases h;done)|skip
 ·rw [of_decide_eq_true h]
 ·rfl
 ·rfl
 ·exact ⟨_,rfl⟩
 ·exact ⟨_,_,_,rfl⟩
 ·simp only [Bool.and_eq_true] at h
  obtain ⟨h1,h2⟩:=h
  refine ⟨by rw [Nat.eq_of_beq_eq_true h1],?_⟩
  split at h2
  ·rename_i te hte
   simp only [Bool.and_eq_true,decide_eq_true_eq,Bool.not_eq_true'] at h2
   exact ⟨te,hte,h2.1,(fun h0=>by rw [h0] at h2;cases h2.2)⟩
  ·cases h2
 ·exact ⟨_,rfl,acr _ h⟩
 ·exact ⟨_,rfl,acr _ h⟩
def aCF(P:Program):List Field→K→Nat→Bool
 |[],.unit,_=>true
 |f::fs,.pair (.int k) b,off=>!(f.name =="_")&&Nat.beq f.offset off&&(match P.underlying f.type with
  |some (.int k')=>decide (k'=k)
  |_=>false)&&aCF P fs b (off+1)
 |_,_,_=>false
theorem ayG{P:Program}:∀(fs:List Field){k:K}{off:Nat},aCF P fs k off=true→EqF P fs k off:=by
 intro fs
 induction fs with
 |nil=>intro k off h;cases k<;>first|trivial|cases h
 |cons f fs ih=>
  intro k off h
  cases k<;>first|(cases h;done)|skip
  rename_i a b
  cases a<;>first|(cases h;done)|skip
  simp only [aCF,Bool.and_eq_true,Bool.not_eq_true'] at h
  obtain ⟨⟨⟨h1,h2⟩,h3⟩,h4⟩:=h
  refine ⟨by simpa using h1,Nat.eq_of_beq_eq_true h2,?_,ih h4⟩
  split at h3
  ·rename_i k' hk';rw [hk',of_decide_eq_true h3]
  ·cases h3
def eqB(P:Program)(T:Nat)(k:K):Bool:=!k.ints||((match P.underlying T with
 |some (.struct fs)=>aCF P fs.toList k 0
 |_=>false)&&!P.stoodInHeld T&&!P.eqGuardType P.depth T)
theorem aAI{P:Program}{T:Nat}{k:K}(h:eqB P T k=true)(hk:k.ints=true):aEw P T k:=by
 unfold eqB at h
 rw [hk,Bool.not_true,Bool.false_or] at h
 simp only [Bool.and_eq_true,Bool.not_eq_true'] at h
 obtain ⟨⟨h1,h2⟩,h3⟩:=h
 refine ⟨?_,h2,h3⟩
 split at h1
 ·rename_i fs hfs;exact ⟨fs,hfs,ayG _ h1⟩
 ·cases h1
def tyB(P:Program)(V:Env)(T:Nat)(ti:TI):Bool:=
 match P.info? T,P.underlying T with
 |some i,some d=>Nat.beq i.size ti.k.size&&Nat.beq i.bytes ti.bytes&&(match i.zero with
  |some z=>(match anm ti.k z.cells.toList with
   |some []=>true
   |_=>false)
  |none=>false)&&aAk P V ti d&&eqB P T ti.k
 |_,_=>false
theorem aCk{P:Program}{V:Env}{T:Nat}{ti:TI}(h:tyB P V T ti=true):aj5 P V T ti:=by
 unfold tyB at h
 split at h
 ·rename_i i d hi hd
  simp only [Bool.and_eq_true] at h
  obtain ⟨⟨⟨⟨h1,h2⟩,h3⟩,h4⟩,h5⟩:=h
  split at h3
  ·rename_i z hz
   split at h3
   ·rename_i hz2
    have:=aw2 hz2
    rw [List.append_nil] at this
    exact ⟨⟨i,z,hi,Nat.eq_of_beq_eq_true h1,Nat.eq_of_beq_eq_true h2,hz,this⟩,⟨d,hd,avw h4⟩,aAI h5⟩
   ·cases h3
  ·cases h3
 ·cases h
def arN(P:Program)(V:Env):List (Nat×TI)→Bool
 |[]=>true
 | (t,ti)::l=>tyB P V t ti&&arN P V l
theorem avi{α:Type}{t:Nat}{x:α}:∀(l:List (Nat×α)),iA t l=some x→(t,x)∈l:=by
 intro l
 induction l with
 |nil=>intro h;cases h
 |cons y l ih=>
  intro h
  obtain ⟨t',y⟩:=y
  simp only [iA] at h
  by_cases ht:t=t'
  ·rw [beq_iff.2 ht] at h
   simp only [cond_true,Option.some.injEq] at h
   subst h;subst ht;simp
  ·rw [iB ht] at h
   exact List.mem_cons_of_mem _ (ih h)
theorem azV{P:Program}{V:Env}:∀(l:List (Nat×TI)),arN P V l=true→∀t ti,(t,ti)∈l→aj5 P V t ti:=by
 intro l
 induction l with
 |nil=>intro _ t ti h;cases h
 |cons x l ih=>
  intro h t ti hm
  obtain ⟨t0,ti0⟩:=x
  simp only [arN,Bool.and_eq_true] at h
  rcases List.mem_cons.1 hm with he|hm
  ·cases he;exact aCk h.1
  ·exact ih h.2 t ti hm
theorem aCm{P:Program}{V:Env}(h:arN P V V.τ=true)(hm:P.follows .mixedOrders=true):iy P V:=
 ⟨fun _ _ hti=>azV _ h _ _ (avi _ hti),hm⟩
theorem aDR{P:Program}{τ:List (Nat×TI)}{E E':List (Nat×Ctr)}{Z Z':List (Nat×List Frz)}{t:Nat}{ti:TI}(h:tyB P ⟨τ,E,Z⟩ t ti=true):tyB P ⟨τ,E',Z'⟩ t ti=true:=h
theorem aCl{P:Program}{τ:List (Nat×TI)}{E:List (Nat×Ctr)}{Z:List (Nat×List Frz)}(h:arN P ⟨τ,[],[]⟩ τ=true):arN P ⟨τ,E,Z⟩ τ=true:=by
 have key:∀l,arN P ⟨τ,[],[]⟩ l=true→arN P ⟨τ,E,Z⟩ l=true:=by
  intro l
  induction l with
  |nil=>intro _;rfl
  |cons x l ih=>
   intro h
   obtain ⟨t,ti⟩:=x
   simp only [arN,Bool.and_eq_true] at h ⊢
   exact ⟨aDR h.1,ih h.2⟩
 exact key τ h
theorem aI{P:Program}{Γ:Glb}{τ:List (Nat×TI)}{Z:List (Nat×List Frz)}:aoC P Γ ⟨τ,[],Z⟩:=fun f q h=>by cases h
theorem ak{P:Program}{Γ:Glb}{τ:List (Nat×TI)}{E:List (Nat×Ctr)}{Z:List (Nat×List Frz)}{f:Nat}{q:Ctr}(h:Contract P Γ f q)(he:Enters P f)(hE:aoC P Γ ⟨τ,E,Z⟩):aoC P Γ ⟨τ,(f,q)::E,Z⟩:=by
 intro g q' hg
 simp only [Env.ctr,iA] at hg
 by_cases hfg:g=f
 ·rw [beq_iff.2 hfg] at hg
  simp only [cond_true,Option.some.injEq] at hg
  subst hg;subst hfg;exact ⟨h,he⟩
 ·rw [iB hfg] at hg
  exact hE g q' hg
theorem Contract.weaken{P:Program}{Γ:Glb}{f:FuncId}{q q':Ctr}(h:Contract P Γ f q)(hq:∀ci co,(q'.G ci).run some=some co→(q.G ci).run some=some co)(hs:q'.soft=false:=by rfl):Contract P Γ f q':=
 fun w C ci co vals h1 h2 h3 h4 hg h5=>(h w C ci co vals h1 h2 h3 h4 hg (hq ci co h5)).mono fun e w' k=>by
  cases e with
  |returned v=>obtain ⟨C',k,_⟩:=k;exact ⟨C',k,fun h=>by rw [hs] at h;cases h⟩
  |_=>exact k
end Go.Abs
namespace Go.Abs
open Go.ChangeShapes Go.WideShapes Go.RowKit
def K.wf:(k:K)→k.den→Prop
 |.int ik,n=>(Lit.int ik n).wf=true
 |.str,s=>s.size≤maxLen
 |.sl e,xs=>xs.length≤maxLen∧∀x∈xs,e.wf x
 |.pair a b,d=>a.wf d.1∧b.wf d.2
 |_,_=>True
def kF(P:Program):K→TypeId ⊕ (List Field×Nat)→Bool
 |.int ik,.inl T=>match P.underlying T with
  |some (.int k)=>decide (k=ik)
  |_=>false
 |.bool,.inl T=>match P.underlying T with
  |some .bool=>true
  |_=>false
 |.str,.inl T=>match P.underlying T with
  |some .string=>true
  |_=>false
 |.sl e,.inl T=>match P.underlying T with
  |some (.slice t)=>Nat.beq (P.cellsOf t) e.size&&Nat.blt 0 e.size&&kF P e (.inl t)
  |_=>false
 |.pair a b,.inl T=>match P.underlying T with
  |some (.struct fs)=>Nat.beq (P.cellsOf T) (K.pair a b).size&&(match fs.toList with
   |f::l=>Nat.beq f.offset 0&&Nat.beq (P.cellsOf f.type) a.size&&kF P a (.inl f.type)&&kF P b (.inr (l,a.size))
   |[]=>false)
  |_=>false
 |.pair a b,.inr (f::l,off)=>Nat.beq f.offset off&&Nat.beq (P.cellsOf f.type) a.size&&kF P a (.inl f.type)&&kF P b (.inr (l,off+a.size))
 |.unit,.inr ([],_)=>true
 |_,_=>false
section
variable {P : Program} {w : World} {H : Type} {enc : TypeId × Value → H} {held : Bool} {θ : aC → Nat} {S : BS}
theorem ahe{a:Addr}{n:Nat}{cs:List Value}(h:w.cells? 0 a n=some cs)(hn:0<n):∃c T fz,w.heap[a.block]?=some (.cells c T fz)∧a.spot=none∧a.off+n≤c.size∧cs=sub c a.off n:=by
 obtain ⟨_,hl,hc⟩:=World.cells?_some h
 have h0:=hc 0 hn
 have e0:a.add 0=a:=by simp [Addr.add]
 rw [e0] at h0
 have hsome:∃v,cs[0]?=some v:=⟨cs[0]'(by omega),List.getElem?_eq_getElem _⟩
 obtain ⟨v0,hv0⟩:=hsome
 rw [hv0] at h0
 unfold World.cell? at h0
 split at h0
 case h_2=>cases h0
 case h_1 c T fz hb=>
 split at h0
 ·cases h0
 ·rename_i hs
  have hs:a.spot=none:=by cases hh:a.spot with
   |none=>rfl
   |some x=>rw [hh] at hs;exact absurd rfl hs
  have hget:∀i,i<n→c[a.off+i]?=cs[i]?:=by
   intro i hi
   have:=hc i hi
   rw [←this]
   unfold World.cell?
   have hblk:(a.add i).block=a.block:=by unfold Addr.add;split<;>rfl
   have hsp:(a.add i).spot=none:=by unfold Addr.add;split<;>first|exact hs|rfl
   have hoff:(a.add i).off=a.off+i:=by unfold Addr.add;split<;>simp_all
   rw [hblk,hb]
   simp only [hsp,hoff,Option.isSome_none,Bool.false_eq_true,if_false]
  have hsize:a.off+n≤c.size:=by
   have:=hget (n-1) (by omega)
   rw [List.getElem?_eq_getElem (by omega)] at this
   have:=(Array.getElem?_eq_some_iff.1 this).1
   omega
  refine ⟨c,T,fz,hb,hs,hsize,?_⟩
  apply List.ext_getElem?
  intro i
  by_cases hi:i<n
  ·rw [←hget i hi]
   unfold sub
   rw [List.getElem?_take_of_lt hi,List.getElem?_drop,Array.getElem?_toList]
  ·rw [List.getElem?_eq_none (by omega),List.getElem?_eq_none (by rw [rJ hsize];omega)]
theorem aCi:∀(k:K),
  (∀(T:TypeId)(n:Nat)(cs:List Value)(x:DataW H×List MemPlace),kF P k (.inl T)=true→DataW.trod enc P w 0 (fun _=>true) held n T cs=some x →
   ∃d:k.den,Enc w θ (fun b=>b<w.heap.size) S k (.imm true) d cs noB∧k.wf d) ∧
  (∀(fs:List Field)(off n:Nat)(cs:List Value),kF P k (.inr (fs,off))=true→cs.length=off+k.size →
   (∀f∈fs,∃x,DataW.trod enc P w 0 (fun _=>true) held n f.type ((cs.drop f.offset).take (P.cellsOf f.type))=some x) →
   ∃d:k.den,Enc w θ (fun b=>b<w.heap.size) S k (.imm true) d (cs.drop off) noB∧k.wf d):=by
 intro k
 induction k with
 |int ik=>
  refine ⟨fun T n cs x h ht=>?_,fun fs off n cs h=>by simp [kF] at h⟩
  simp only [kF] at h
  split at h
  ·rename_i k hu
   have:=of_decide_eq_true h
   subst this
   obtain ⟨n,rfl,_,hw⟩:=DataW.trod_int hu ht
   exact ⟨n,rfl,hw⟩
  ·cases h
 |bool=>
  refine ⟨fun T n cs x h ht=>?_,fun fs off n cs h=>by simp [kF] at h⟩
  simp only [kF] at h
  split at h
  ·rename_i hu
   obtain ⟨b,rfl,_⟩:=DataW.trod_bool hu ht
   exact ⟨b,rfl,trivial⟩
  ·cases h
 |str=>
  refine ⟨fun T n cs x h ht=>?_,fun fs off n cs h=>by simp [kF] at h⟩
  simp only [kF] at h
  split at h
  ·rename_i hu
   obtain ⟨s,rfl,_,hw⟩:=DataW.trod_string hu ht
   exact ⟨s,rfl,hw⟩
  ·cases h
 |ptr=>exact ⟨fun T n cs x h=>by simp [kF] at h,fun fs off n cs h=>by simp [kF] at h⟩
 |fn=>exact ⟨fun T n cs x h=>by simp [kF] at h,fun fs off n cs h=>by simp [kF] at h⟩
 |unit=>
  refine ⟨fun T n cs x h=>by simp [kF] at h,fun fs off n cs h hl _=>?_⟩
  refine ⟨(),?_,trivial⟩
  show cs.drop off=[]
  have:cs.length=off:=hl
  exact List.drop_eq_nil_of_le (by omega)
 |sl e ih=>
  refine ⟨fun T n cs x h ht=>?_,fun fs off n cs h=>by simp [kF] at h⟩
  simp only [kF] at h
  split at h
  case h_2=>cases h
  case h_1 t hu=>
  simp only [Bool.and_eq_true] at h
  obtain ⟨⟨h1,h2⟩,h3⟩:=h
  have h1:=Nat.eq_of_beq_eq_true h1
  have h2:0<e.size:=Nat.le_of_ble_eq_true h2
  rcases DataW.trod_slice hu ht with ⟨rfl,_⟩|⟨a,len,cap,elems,rest,m,rfl,rfl,_,_,hlc,hcm,hel,helem,hsp,_⟩
  ·exact ⟨[],.inr (.inl ⟨by simp,rfl,none,rfl⟩),by show (0:Nat)≤maxLen;unfold maxLen;omega,by simp⟩
  ·obtain ⟨hrl,hrest⟩:=hsp rfl
   by_cases hc0:cap=0
   ·have hl0:len=0:=by omega
    subst hc0;subst hl0
    exact ⟨[],.inr (.inl ⟨by simp,rfl,some a,rfl⟩),by show (0:Nat)≤maxLen;unfold maxLen;omega,by simp⟩
   ·-- every cell up to the capacity
    have hall:∀i,i<cap→∃cs' x',w.cells? 0 (a.add (i*e.size)) e.size=some cs'∧DataW.trod enc P w 0 (fun _=>true) held m t cs'=some x':=by
     intro i hi
     have key:∃x',(w.cells? 0 (a.add (i*P.cellsOf t)) (P.cellsOf t)).bind (DataW.trod enc P w 0 (fun _=>true) held m t)=some x':=by
      by_cases hil:i<len
      ·rw [helem i hil]
       exact ⟨elems[i]'(by omega),List.getElem?_eq_getElem _⟩
      ·have:=hrest (i-len) (by omega)
       rw [show len+(i-len)=i by omega] at this
       rw [this]
       exact ⟨rest[i-len]'(by omega),List.getElem?_eq_getElem _⟩
     obtain ⟨x',hx'⟩:=key
     rw [h1] at hx'
     cases hcs:w.cells? 0 (a.add (i*e.size)) e.size with
     |none=>rw [hcs] at hx';cases hx'
     |some cs'=>rw [hcs] at hx';exact ⟨cs',x',rfl,hx'⟩
    have hblk:∀i,(a.add i).block=a.block:=fun i=>by unfold Addr.add;split<;>rfl
    obtain ⟨cs0,x0,hc0',_⟩:=hall 0 (by omega)
    rw [Nat.zero_mul,show a.add 0=a by simp [Addr.add]] at hc0'
    obtain ⟨c,U,fz,hb,hspot,_,_⟩:=ahe hc0' h2
    have hoff:∀i,(a.add i).off=a.off+i:=fun i=>by unfold Addr.add;split<;>simp_all
    have hcell:∀i,i<cap→a.off+i*e.size+e.size≤c.size∧∃x',DataW.trod enc P w 0 (fun _=>true) held m t (sub c (a.off+i*e.size) e.size)=some x':=by
     intro i hi
     obtain ⟨cs',x',g1,g2⟩:=hall i hi
     obtain ⟨c',U',fz',hb',_,hs',rfl⟩:=ahe g1 h2
     rw [hblk,hb] at hb'
     cases hb'
     rw [hoff] at hs' g2
     exact ⟨hs',x',g2⟩
    have hd:∀i,i<len→∃d:e.den,Enc w θ (fun b=>b<w.heap.size) S e (.imm true) d (sub c (a.off+i*e.size) e.size) noB∧e.wf d:=by
     intro i hi
     obtain ⟨_,x',hx'⟩:=hcell i (by omega)
     exact ih.1 t m _ x' h3 hx'
    have hlist:∃ds:List e.den,ds.length=len∧∀i d,ds[i]?=some d→Enc w θ (fun b=>b<w.heap.size) S e (.imm true) d (sub c (a.off+i*e.size) e.size) noB∧e.wf d:=by
     refine ⟨List.ofFn fun i:Fin len=>(hd i.1 i.2).choose,by simp,fun i d hi=>?_⟩
     rw [List.getElem?_ofFn] at hi
     split at hi
     ·rename_i hil
      cases hi
      exact (hd i hil).choose_spec
     ·cases hi
    obtain ⟨ds,hdl,hds⟩:=hlist
    have hlast:=(hcell (cap-1) (by omega)).1
    refine ⟨ds,.inr (.inr ⟨by simp,a.block,a.off,cap,c,U,fz,?_,hb,by omega,?_,.inl (by have:=(Array.getElem?_eq_some_iff.1 hb).1;exact this),fun _=>noB,fun i=>⟨fun _ h=>h.elim,fun h=>h⟩,fun _ _ _ _ h=>h.elim,fun i d hi=>(hds i d hi).1⟩),by show ds.length≤maxLen;omega,fun d hd'=>?_⟩
    ·rw [hdl]
     obtain ⟨ab,ao,asp⟩:=a
     simp only at hspot
     subst hspot
     rfl
    ·have:cap=(cap-1)+1:=by omega
     rw [this,Nat.add_mul,Nat.one_mul]
     omega
    ·obtain ⟨i,hi⟩:=List.mem_iff_getElem?.1 hd'
     exact (hds i d hi).2
 |pair a b iha ihb=>
  have tail:∀(f:Field)(l:List Field)(off n:Nat)(cs:List Value),f.offset=off→P.cellsOf f.type=a.size→kF P a (.inl f.type)=true→kF P b (.inr (l,off+a.size))=true→cs.length=off+(a.size+b.size) →
    (∀g∈f::l,∃x,DataW.trod enc P w 0 (fun _=>true) held n g.type ((cs.drop g.offset).take (P.cellsOf g.type))=some x) →
    ∃d:(K.pair a b).den,Enc w θ (fun b=>b<w.heap.size) S (.pair a b) (.imm true) d (cs.drop off) noB∧(K.pair a b).wf d:=by
   intro f l off n cs h1 h2 h3 h4 hl hf
   obtain ⟨x,hx⟩:=hf f (by simp)
   rw [h1,h2] at hx
   obtain ⟨d1,e1,w1⟩:=iha.1 _ _ _ _ h3 hx
   obtain ⟨d2,e2,w2⟩:=ihb.2 l (off+a.size) n cs h4 (by omega) (fun g hg=>hf g (by simp [hg]))
   refine ⟨(d1,d2),⟨(cs.drop off).take a.size,(cs.drop off).drop a.size,noB,noB,(List.take_append_drop _ _).symm,fun _ h=>h,fun _ h=>h,fun _ h=>h.elim,e1,?_⟩,w1,w2⟩
   rw [List.drop_drop]
   exact e2
  refine ⟨fun T n cs x h ht=>?_,fun fs off n cs h hl hf=>?_⟩
  ·simp only [kF] at h
   split at h
   case h_2=>cases h
   case h_1 fs hu=>
   simp only [Bool.and_eq_true] at h
   obtain ⟨h1,h2⟩:=h
   have h1:=Nat.eq_of_beq_eq_true h1
   split at h2
   case h_2=>cases h2
   case h_1 f l hfl=>
   simp only [Bool.and_eq_true] at h2
   obtain ⟨⟨⟨g1,g2⟩,g3⟩,g4⟩:=h2
   obtain ⟨xs,m,rfl,_,hcl,hxl,hall⟩:=DataW.trod_struct hu ht
   have:=tail f l 0 m cs (Nat.eq_of_beq_eq_true g1) (Nat.eq_of_beq_eq_true g2) g3 (by rw [Nat.zero_add];exact g4) (by rw [hcl,h1];simp [K.size]) (fun g hg=>?_)
   ·rw [List.drop_zero] at this
    exact this
   ·rw [←hfl] at hg
    obtain ⟨i,hi⟩:=List.mem_iff_getElem?.1 hg
    rw [Array.getElem?_toList] at hi
    have hlt:=(Array.getElem?_eq_some_iff.1 hi).1
    rw [hall i g hi]
    exact ⟨xs[i]'(by omega),List.getElem?_eq_getElem _⟩
  ·cases fs with
   |nil=>simp [kF] at h
   |cons f l=>
    simp only [kF,Bool.and_eq_true] at h
    obtain ⟨⟨⟨g1,g2⟩,g3⟩,g4⟩:=h
    exact tail f l off n cs (Nat.eq_of_beq_eq_true g1) (Nat.eq_of_beq_eq_true g2) g3 g4 (by rw [hl];simp [K.size]) hf
end
abbrev Args:List K→Type
 |[]=>Unit
 |k::l=>k.den×Args l
def avs:(l:List K)→Args l→List AV
 |[],_=>[]
 |k::l,d=>.imm true k d.1::avs l d.2
def wfs:(l:List K)→Args l→Prop
 |[],_=>True
 |k::l,d=>k.wf d.1∧wfs l d.2
theorem avj:∀(l:List K)(d:Args l),(avs l d).length=l.length:=by
 intro l
 induction l with
 |nil=>intro d;rfl
 |cons k l ih=>intro d;simp only [avs,List.length_cons,ih]
section
variable {P : Program} {H : Type} {enc : TypeId × Value → H}
def alR(P:Program)(x:TypeId×K):Bool:=kF P x.2 (.inl x.1)&&x.2.plain&&P.readableRec x.1&&decide (x.1<P.types.size)
theorem azU{W:World}{C:Ctx}{rs:RF}(hZ:C.Z=fun b=>b<W.heap.size){base:Nat}{k:K}{T:TypeId}{v:Value}{d:DataW H}{p:List MemPlace}(hr:kF P k (.inl T)=true)(hp:k.plain=true)(hok:Value.okWide P W .any base T v)
  (h:DataW.Trod enc P W 0 (fun _=>true) true T v d p):∃dd:k.den,bW W C rs v (.imm true k dd)∧k.wf dd:=by
 obtain ⟨n,hn⟩:=h
 obtain ⟨dd,he,hw⟩:=(aCi (θ:=C.θ) (S:=C.S) k).1 T n _ _ hr hn
 refine ⟨dd,?_,hw⟩
 rw [←hZ] at he
 cases k with
 |pair a b=>
  simp only [kF] at hr
  split at hr
  case h_2=>cases hr
  case h_1 fs hu=>
  simp only [Value.okWide,hu] at hok
  obtain ⟨cs,rfl,_⟩:=hok
  exact .inl (.inr (.inl ⟨rfl,cs.toList,by simp,hp,he⟩))
 |unit=>simp [kF] at hr
 |ptr=>simp [kF] at hr
 |fn=>simp [kF] at hr
 |int ik=>
  have hv:∃n,v=.int ik n:=by
   simp only [kF] at hr
   split at hr
   ·rename_i k hu;have:=of_decide_eq_true hr;subst this;exact okWide_int hu hok
   ·cases hr
  obtain ⟨n,rfl⟩:=hv
  exact .inl (.inr (.inr ⟨rfl,⟨hp,by simpa [Value.cells] using he⟩,rfl⟩))
 |bool=>
  have hv:∃n,v=.bool n:=by
   simp only [kF] at hr
   split at hr
   ·rename_i hu;exact okWide_bool hu hok
   ·cases hr
  obtain ⟨n,rfl⟩:=hv
  exact .inl (.inr (.inr ⟨rfl,⟨hp,by simpa [Value.cells] using he⟩,rfl⟩))
 |str=>
  have hv:∃n,v=.string n:=by
   simp only [kF] at hr
   split at hr
   ·rename_i hu;exact okWide_string hu hok
   ·cases hr
  obtain ⟨n,rfl⟩:=hv
  exact .inl (.inr (.inr ⟨rfl,⟨hp,by simpa [Value.cells] using he⟩,rfl⟩))
 |sl e=>
  have hv:∃a l c,v=.slice a l c:=by
   simp only [kF] at hr
   split at hr
   ·rename_i hu;exact okWide_slice hu hok
   ·cases hr
  obtain ⟨a,l,c,rfl⟩:=hv
  exact .inl (.inr (.inr ⟨rfl,⟨hp,by simpa [Value.cells] using he⟩,rfl⟩))
theorem trodAll_back(laid:laidOutB P=true){W W':World}(hb:Below W.heap.size W W'):∀(ks:List (TypeId×K)),ks.all (alR P)=true→∀{vs:List Value}{ds:List (DataW H)}{p:List MemPlace},(∀x∈p,x.block<W.heap.size) →
  DataW.TrodAll enc P W 0 (fun _=>true) true (ks.map (·.1)) vs ds p→DataW.TrodAll enc P W' 0 (fun b=>decide (b<W.heap.size)) true (ks.map (·.1)) vs ds p∧ds.length=ks.length:=by
 intro ks
 induction ks with
 |nil=>intro _ vs ds p _ h;obtain ⟨rfl,rfl,rfl⟩:=trodAll_nil h;exact ⟨rfl,rfl⟩
 |cons x ks ih=>
  intro hk vs ds p hlt h
  rw [List.all_cons,Bool.and_eq_true] at hk
  obtain ⟨v,vs',d,ds',p1,q1,rfl,rfl,rfl,h1,h2⟩:=trodAll_cons h
  have hx:=hk.1
  simp only [alR,Bool.and_eq_true,decide_eq_true_eq] at hx
  obtain ⟨g1,g2⟩:=ih hk.2 (fun y hy=>hlt y (by simp [hy])) h2
  exact ⟨⟨p1,q1,Below.trod laid hx.1.2 hx.2 h1 hb (fun y hy=>hlt y (by simp [hy])),g1,rfl⟩,by simp [g2]⟩
theorem arM{W:World}{C:Ctx}{rs:RF}(hZ:C.Z=fun b=>b<W.heap.size){base:Nat}:∀(ks:List (TypeId×K)),ks.all (alR P)=true→∀{vs:List Value}{ds:List (DataW H)}{p:List MemPlace},
  (∀(j:Nat) t v,(ks.map (·.1))[j]?=some t→vs[j]?=some v→Value.okWide P W .any base t v)→DataW.TrodAll enc P W 0 (fun _=>true) true (ks.map (·.1)) vs ds p →
  vs.length=ks.length∧∃dd:Args (ks.map (·.2)),wfs _ dd∧∀(i:Nat)(v:Value)(a:AV),vs[i]?=some v→(avs _ dd)[i]?=some a→bW W C rs v a:=by
 intro ks
 induction ks with
 |nil=>
  intro _ vs ds p _ h
  obtain ⟨rfl,rfl,rfl⟩:=trodAll_nil h
  exact ⟨rfl,(),trivial,fun i v a h=>by simp at h⟩
 |cons x ks ih=>
  intro hk vs ds p hok h
  rw [List.all_cons,Bool.and_eq_true] at hk
  obtain ⟨v,vs',d,ds',p1,q1,rfl,rfl,rfl,h1,h2⟩:=trodAll_cons h
  have hx:=hk.1
  simp only [alR,Bool.and_eq_true,decide_eq_true_eq] at hx
  obtain ⟨g1,dd,g2,g3⟩:=ih hk.2 (fun j t v ht hv=>hok (j+1) t v (by simpa using ht) (by simpa using hv)) h2
  obtain ⟨d0,e1,e2⟩:=azU (rs:=rs) hZ hx.1.1.1 hx.1.1.2 (hok 0 x.1 v rfl rfl) h1
  refine ⟨by simp [g1],(d0,dd),⟨e2,g2⟩,fun i v' a hv ha=>?_⟩
  cases i with
  |zero=>
   simp only [List.getElem?_cons_zero,Option.some.injEq] at hv
   subst hv
   have ha:some (AV.imm true x.2 d0)=some a:=ha
   cases ha
   exact e1
  |succ i=>exact g3 i v' a (by simpa using hv) ha
theorem azp{Γ:Glb}{f:FuncId}{fn:Func}{rw:List Nat}{G:aap→Tre au}{sf:Bool}(hc:Contract P Γ f ⟨rw,G,sf⟩)(laid:laidOutB P=true)(ks:List (TypeId×K))(hp:fn.params.toList=ks.map (·.1))(hk:ks.all (alR P)=true){rt:TypeId}
  (hr:fn.resultTypes = #[rt]) (hrt:P.underlying rt=some .bool) {s:ChangeSpec} (hv:s.vars=[]) (hs:∀ds:List (DataW H),ds.length=ks.length→s.fn H ds=⟨[.lit (.bool true)],ds,[]⟩)
  (hG:∀dd:Args (ks.map (·.2)),wfs _ dd→∃z,(G ⟨avs _ dd,[]⟩).run some=some ⟨.imm z .bool true,[],[]⟩) {W:World} {base:Nat} {args:Array Value} {ds gs:List (DataW H)} {before:List MemPlace}
  (hok:∀(j:Nat) t v,fn.params[j]?=some t→args[j]?=some v→Value.okWide P W .any base t v) (hW:DataW.Whole enc P fn.params.toList s.vars false W args.toList ds gs before) (hg0:(∀b∈Γ.blocks,b<W.heap.size)∧Γ.holds W) :
  Calls P f args W fun e W'=>∃v,e=.returned v∧s.post enc P fn false true false false W args v W':=by
 have hW':=hW
 obtain ⟨p,q,hA,hV,rfl,hfz,hnd⟩:=hW
 rw [hv] at hV
 obtain ⟨rfl,rfl⟩:=trodVars_none hV
 rw [hp] at hA
 have hlt:∀x∈p,x.block<W.heap.size:=fun x hx=>hW'.lt x (by simp [hx])
 have C0:Ctx:=⟨fun _=>0,fun _=>[],fun _=>noB,fun b=>b<W.heap.size,noB⟩
 have hok':∀(j:Nat) t v,(ks.map (·.1))[j]?=some t→args.toList[j]?=some v→Value.okWide P W .any base t v:=fun j t v ht hv=>hok j t v (by rw [←hp] at ht;rw [←Array.getElem?_toList];exact ht) (by rw [←Array.getElem?_toList];exact hv)
 obtain ⟨hlen,dd,hwf,hval⟩:=arM (C:=⟨fun _=>0,fun _=>[],fun _=>noB,fun b=>b<W.heap.size,noB⟩) (rs:=adP []) rfl ks hk hok' hA
 obtain ⟨z,hg⟩:=hG dd hwf
 refine (hc W ⟨fun _=>0,fun _=>[],fun _=>noB,fun b=>b<W.heap.size,noB⟩ ⟨avs _ dd,[]⟩ _ args ?_ (by simp) (by rw [avj,List.length_map,←hlen,Array.length_toList]) (fun i v a hv ha=>hval i v a (by rw [Array.getElem?_toList];exact hv) ha) hg0 hg).mono fun e W' he=>?_
 ·have hno:∀q:aC,adP [] q=none:=by rintro ⟨q1,q2⟩;match q1 with
   |0=>simp [adP]
   |q1+1=>rfl
  exact ⟨(fun q y h=>by rw [hno] at h;cases h),(fun q q' y y' h=>by rw [hno] at h;cases h),(fun q y b h=>by rw [hno] at h;cases h),(fun b h=>h.elim id fun h=>h.elim),(fun q y h=>by rw [hno] at h;cases h)⟩
 ·cases e with
  |returned v=>
   obtain ⟨C',hpost,_⟩:=he
   have hvb:=hpost.val.bool
   subst hvb
   have hb:Below W.heap.size W W':=⟨hpost.kept.os,hpost.kept.tape,hpost.kept.output,hpost.kept.size,fun b hb=>hpost.kept.block b hb (fun ⟨i,x,h,_⟩=>by simp at h)⟩
   obtain ⟨hback,hdl⟩:=trodAll_back laid hb ks hk hlt hA
   refine ⟨_,rfl,ds,[],p++[],[],p,[],hW',?_,?_,?_,hb.frame _,fun h=>by cases h⟩
   ·rw [List.append_nil,hs ds hdl,hr]
    exact trodAll_mk1 (shut_bool hrt _)
   ·rw [List.append_nil,hs ds hdl,hp]
    exact hback
   ·rw [List.append_nil,hs ds hdl,hv]
    rfl
  |_=>exact he.elim
end
end Go.Abs
namespace Go.Abs
section
variable {R R' : Type} {r : R'} {g : R → Option R'}
def bg(k:K)(a:AV)(c:Bool→k.den→Tre R):Tre R:=match a with
 |.imm z k' d=>if h:k'=k then c z (h ▸ d) else .fail
 |_=>.fail
theorem fG{k:K}{a:AV}{c:Bool→k.den→Tre R}(h:(bg k a c).run g=some r):∃z d,a=.imm z k d∧(c z d).run g=some r:=by
 unfold bg at h
 split at h
 ·split at h
  ·rename_i hk;subst hk;exact ⟨_,_,rfl,h⟩
  ·cases h
 ·cases h
def akf(k:K)(a:AV)(c:Bool→k.den→Tre R):Tre R:=match a with
 |.iptr z k' d [.idx 0]=>if h:k'=.sl k then (match (h ▸ d:(K.sl k).den) with
   |[x]=>c z x
   |_=>.fail) else .fail
 |_=>.fail
theorem ar2{k:K}{a:AV}{c:Bool→k.den→Tre R}(h:(akf k a c).run g=some r):∃z d,a=.iptr z (.sl k) [d] [.idx 0]∧(c z d).run g=some r:=by
 unfold akf at h
 split at h
 ·split at h
  ·rename_i hk;subst hk
   split at h
   ·rename_i x hx
    exact ⟨_,x,by rw [←hx],h⟩
   ·cases h
  ·cases h
 ·cases h
def ay(z0:Bool)(k:K)(a:AV)(c:k.den→Tre R):Tre R:=match a with
 |.imm z k' d=>if h:k'=k then (if z=z0 then c (h ▸ d) else .fail) else .fail
 |_=>.fail
theorem cu{z0:Bool}{k:K}{a:AV}{c:k.den→Tre R}(h:(ay z0 k a c).run g=some r):∃d,a=.imm z0 k d∧(c d).run g=some r:=by
 unfold ay at h
 split at h
 ·split at h
  ·rename_i hk
   subst hk
   split at h
   ·rename_i hz;subst hz;exact ⟨_,rfl,h⟩
   ·cases h
  ·cases h
 ·cases h
def aCv(e:K)(a:AV)(c:Bool→List e.den→Tre R):Tre R:=match a with
 |.nn z e' d=>if h:e'=e then c z (h ▸ d) else .fail
 |_=>.fail
theorem ayl{e:K}{a:AV}{c:Bool→List e.den→Tre R}(h:(aCv e a c).run g=some r):∃z d,a=.nn z e d∧(c z d).run g=some r:=by
 unfold aCv at h
 split at h
 ·split at h
  ·rename_i hk;subst hk;exact ⟨_,_,rfl,h⟩
  ·cases h
 ·cases h
def dF(q:aC)(p:Path)(a:AV)(c:Tre R):Tre R:=match a with
 |.ref q' p'=>if q'=q∧p'=p then c else .fail
 |_=>.fail
theorem Qi{q:aC}{p:Path}{a:AV}{c:Tre R}(h:(dF q p a c).run g=some r):a=.ref q p∧c.run g=some r:=by
 unfold dF at h
 split at h
 ·split at h
  ·rename_i hk;obtain ⟨rfl,rfl⟩:=hk;exact ⟨rfl,h⟩
  ·cases h
 ·cases h
def firstIdx:Path→Nat
 |.idx n::_=>n
 |_::p=>firstIdx p
 |[]=>0
def axu:Path→Path→Bool
 |[],[]=>true
 |.fst::t,.fst::p=>axu t p
 |.snd::t,.snd::p=>axu t p
 |_,_=>false
def atv:Path→Path→Bool
 |.fst::t,.fst::p=>atv t p
 |.snd::t,.snd::p=>atv t p
 |.idx _::t,.idx _::p=>axu t p
 |_,_=>false
def axh:Path→Nat→Path
 |.idx _::t,n=>.idx n::t
 |s::t,n=>s::axh t n
 |[],_=>[]
theorem alE:∀(t p:Path),axu t p=true→p=t
 |[],[],_=>rfl
 |.fst::t,.fst::p,h=>by rw [alE t p h]
 |.snd::t,.snd::p,h=>by rw [alE t p h]
theorem alF:∀(t p:Path),atv t p=true→p=axh t (firstIdx p)
 |.fst::t,.fst::p,h=>congrArg (Step.fst::·) (alF t p h)
 |.snd::t,.snd::p,h=>congrArg (Step.snd::·) (alF t p h)
 |.idx _::t,.idx n::p,h=>congrArg (Step.idx n::·) (alE t p h)
def aau(q:aC)(t:Path)(a:AV)(c:Nat→Tre R):Tre R:=match a with
 |.ref r p=>bif req r q&&atv t p then c (firstIdx p) else .fail
 |_=>.fail
theorem ar4{q:aC}{t:Path}{a:AV}{c:Nat→Tre R}(h:(aau q t a c).run g=some r):∃n,a=.ref q (axh t n)∧(c n).run g=some r:=by
 unfold aau at h
 split at h
 case h_2=>cases h
 rename_i r' p'
 cases hk:(req r' q&&atv t p') with
 |false=>rw [hk] at h;cases h
 |true=>
  rw [hk] at h
  simp only [Bool.and_eq_true] at hk
  have hr:=dx.1 hk.1
  subst hr
  exact ⟨_,congrArg (AV.ref r') (alF t p' hk.2),h⟩
def az7(q:aC)(p:Path)(a:AV)(c:Nat→Nat→Tre R):Tre R:=match a with
 |.slc q' p' lo n=>if q'=q∧p'=p then c lo n else .fail
 |_=>.fail
theorem avg{q:aC}{p:Path}{a:AV}{c:Nat→Nat→Tre R}(h:(az7 q p a c).run g=some r):∃lo n,a=.slc q p lo n∧(c lo n).run g=some r:=by
 unfold az7 at h
 split at h
 ·split at h
  ·rename_i hk;obtain ⟨rfl,rfl⟩:=hk;exact ⟨_,_,rfl,h⟩
  ·cases h
 ·cases h
def dR(q:aC)(p:Path)(a:AV)(c:Tre R):Tre R:=match a with
 |.ptr q' p'=>if q'=q∧p'=p then c else .fail
 |_=>.fail
theorem Qh{q:aC}{p:Path}{a:AV}{c:Tre R}(h:(dR q p a c).run g=some r):a=.ptr q p∧c.run g=some r:=by
 unfold dR at h
 split at h
 ·split at h
  ·rename_i hk;obtain ⟨rfl,rfl⟩:=hk;exact ⟨rfl,h⟩
  ·cases h
 ·cases h
def Ua(f:Nat)(caps:List aC)(a:AV)(c:Tre R):Tre R:=match a with
 |.fn f' caps'=>if f'=f∧caps'=caps then c else .fail
 |_=>.fail
theorem CJ{f:Nat}{caps:List aC}{a:AV}{c:Tre R}(h:(Ua f caps a c).run g=some r):a=.fn f caps∧c.run g=some r:=by
 unfold Ua at h
 split at h
 ·split at h
  ·rename_i hk;obtain ⟨rfl,rfl⟩:=hk;exact ⟨rfl,h⟩
  ·cases h
 ·cases h
def aw7(a:AV)(c:Tre R):Tre R:=match a with
 |.nil=>c
 |_=>.fail
theorem avf{a:AV}{c:Tre R}(h:(aw7 a c).run g=some r):a=.nil∧c.run g=some r:=by
 unfold aw7 at h
 split at h
 ·exact ⟨rfl,h⟩
 ·cases h
def aat(a:AV)(c:AV→AV→Tre R):Tre R:=match a with
 |.pair x y=>c x y
 |_=>.fail
theorem ar3{a:AV}{c:AV→AV→Tre R}(h:(aat a c).run g=some r):∃x y,a=.pair x y∧(c x y).run g=some r:=by
 unfold aat at h
 split at h
 ·exact ⟨_,_,rfl,h⟩
 ·cases h
def aD{α:Type}(l:List α)(c:α→List α→Tre R):Tre R:=match l with
 |x::y=>c x y
 |_=>.fail
theorem ahd{α:Type}{l:List α}{c:α→List α→Tre R}(h:(aD l c).run g=some r):∃x y,l=x::y∧(c x y).run g=some r:=by
 unfold aD at h
 split at h
 ·exact ⟨_,_,rfl,h⟩
 ·cases h
def aN{α:Type}(l:List α)(c:Tre R):Tre R:=match l with
 |[]=>c
 |_=>.fail
theorem aas{α:Type}{l:List α}{c:Tre R}(h:(aN l c).run g=some r):l=[]∧c.run g=some r:=by
 unfold aN at h
 split at h
 ·exact ⟨rfl,h⟩
 ·cases h
def wQ(mem:Bool)(k:K)(x:Root)(c:Mask→k.den→Tre R):Tre R:=
 if h:x.k=k then (bif Bool.beq x.mem mem then c x.m (h ▸ x.d) else .fail) else .fail
 where Bool.beq:Bool→Bool→Bool
 |true,b=>b
 |false,b=>!b
theorem aoH{mem:Bool}{k:K}{x:Root}{c:Mask→k.den→Tre R}(h:(wQ mem k x c).run g=some r):∃m d,x=⟨mem,k,m,d⟩∧(c m d).run g=some r:=by
 obtain ⟨mem',k',m',d'⟩:=x
 unfold wQ at h
 split at h
 ·rename_i hk
  have hk:k'=k:=hk
  subst hk
  cases mem'<;>cases mem<;>first|exact ⟨_,_,rfl,h⟩|cases h
 ·cases h
def aZ(mem:Bool)(k:K)(o:Option Root)(c:Mask→k.den→Tre R):Tre R:=match o with
 |some x=>wQ mem k x c
 |none=>.fail
theorem gQ{mem:Bool}{k:K}{o:Option Root}{c:Mask→k.den→Tre R}(h:(aZ mem k o c).run g=some r):∃m d,o=some ⟨mem,k,m,d⟩∧(c m d).run g=some r:=by
 unfold aZ at h
 split at h
 ·obtain ⟨m,d,hx,h2⟩:=aoH h;exact ⟨m,d,by rw [hx],h2⟩
 ·cases h
def asM(m0 m:Mask)(c:Tre R):Tre R:=if m=m0 then c else .fail
theorem uI{m0 m:Mask}{c:Tre R}(h:(asM m0 m c).run g=some r):m=m0∧c.run g=some r:=by
 unfold asM at h
 split at h
 ·exact ⟨‹_›,h⟩
 ·cases h
def kr(m:Mask)(c:Bool→Tre R):Tre R:=match m with
 |.imm z=>c z
 |_=>.fail
theorem KX{m:Mask}{c:Bool→Tre R}(h:(kr m c).run g=some r):∃z,m=.imm z∧(c z).run g=some r:=by
 unfold kr at h
 split at h
 ·exact ⟨_,rfl,h⟩
 ·cases h
end
section
variable {σ β : Type}
def runN (step:σ→Tre (σ ⊕ β)):Nat→σ→Option β
 |0,_=>none
 |n+1,x=>(step x).run fun
  |.inl y=>runN step n y
  |.inr b=>some b
theorem Ph(step:σ→Tre (σ ⊕ β))(n:Nat)(x:σ):runN step (n+1) x=((step x).run some).bind fun
  |.inl y=>runN step n y
  |.inr b=>some b:=Tre.run_bind _ _
theorem azq(step:σ→Tre (σ ⊕ β)):∀(n:Nat)(x:σ)(b:β),runN step n x=some b→runN step (n+1) x=some b:=by
 intro n
 induction n with
 |zero=>intro x b h;cases h
 |succ n ih=>
  intro x b h
  rw [Ph] at h ⊢
  cases hs:(step x).run some with
  |none=>rw [hs] at h;cases h
  |some y=>
   rw [hs] at h
   cases y with
   |inl y=>exact ih y b h
   |inr y=>exact h
theorem ajV(step:σ→Tre (σ ⊕ β)){n m:Nat}(hnm:n≤m){x:σ}{b:β}(h:runN step n x=some b):runN step m x=some b:=by
 induction hnm with
 |refl=>exact h
 |step _ ih=>exact azq step _ _ _ ih
open Classical in
def aL (step:σ→Tre (σ ⊕ β)) (x:σ):Option β:=
 match runN step 1000000000000 x with
 |some b=>some b
 |none=>if h:∃b,∃n,runN step n x=some b then some (Classical.choose h) else none
theorem Yn{step:σ→Tre (σ ⊕ β)}{x:σ}{b:β}:aL step x=some b ↔ ∃n,runN step n x=some b:=by
 unfold aL
 generalize hN:(1000000000000:Nat)=N
 cases hr:runN step N x with
 |some b'=>
  constructor
  ·intro h;cases h;exact ⟨N,hr⟩
  ·rintro ⟨n,hn⟩
   have h1:=ajV step (Nat.le_max_left n N) hn
   have h2:=ajV step (Nat.le_max_right n N) hr
   rw [h1] at h2
   exact h2.symm
 |none=>
  constructor
  ·intro h
   dsimp only at h
   split at h
   ·rename_i hx
    simp only [Option.some.injEq] at h
    rw [←h]
    exact Classical.choose_spec hx
   ·cases h
  ·rintro ⟨n,hn⟩
   have hx:∃b,∃n,runN step n x=some b:=⟨b,n,hn⟩
   dsimp only
   rw [dif_pos hx]
   obtain ⟨m,hm⟩:=Classical.choose_spec hx
   have h1:=ajV step (Nat.le_max_left n m) hn
   have h2:=ajV step (Nat.le_max_right n m) hm
   rw [h1] at h2
   exact h2.symm
theorem atz(step:σ→Tre (σ ⊕ β))(x:σ):aL step x=((step x).run some).bind fun
  |.inl y=>aL step y
  |.inr b=>some b:=by
 apply Option.ext
 intro b
 rw [Yn]
 constructor
 ·rintro ⟨n,hn⟩
  cases n with
  |zero=>cases hn
  |succ n=>
   rw [Ph] at hn
   cases hs:(step x).run some with
   |none=>rw [hs] at hn;cases hn
   |some y=>
    rw [hs] at hn
    cases y with
    |inl y=>exact Yn.2 ⟨n,hn⟩
    |inr y=>exact hn
 ·intro h
  cases hs:(step x).run some with
  |none=>rw [hs] at h;cases h
  |some y=>
   rw [hs] at h
   cases y with
   |inl y=>
    obtain ⟨n,hn⟩:=Yn.1 h
    exact ⟨n+1,by rw [Ph,hs];exact hn⟩
   |inr y=>exact ⟨1,by rw [Ph,hs];exact h⟩
variable {V : Env} {A : List (Nat × bA)}
def bR(kp kx:Keep)(c:St→Option (Ex×St))(e:Ex)(s:St):Option (Ex×St):=match e with
 |.normal=>c (restrict kp s)
 |e=>some (e,restrict kx s)
def bS(mk:σ→St)(out:β→Ex×St)(c:St→Option (Ex×St)):σ ⊕ β→Option (Ex×St)
 |.inl y=>c (mk y)
 |.inr b=>some (out b)
theorem ay5{L:bA}{body:Code}{mk:σ→St}{out:β→Ex×St}{step:σ→Tre (σ ⊕ β)}
  (hstep:∀(x:σ)(c:St→Option (Ex×St)),den V A body (mk x) (bR L.kp L.kx c)=(step x).run (bS mk out c)):∀(n:Nat)(x:σ)(b:β),runN step n x=some b→iter L (fun s (c:Ex→St→Option (Ex×St))=>den V A body s c) n (mk x) (fun e s'=>some (e,s'))=some (out b):=by
 intro n
 induction n with
 |zero=>intro x b h;cases h
 |succ n ih=>
  intro x b h
  rw [Ph] at h
  have h1:=hstep x fun s=>iter L (fun s (c:Ex→St→Option (Ex×St))=>den V A body s c) n s (fun e s'=>some (e,s'))
  rw [Tre.run_bind] at h1
  refine Eq.trans (Eq.trans ?_ h1) ?_
  ·rfl
  cases hs:(step x).run some with
  |none=>rw [hs] at h;cases h
  |some y=>
   rw [hs] at h
   cases y with
   |inl y=>exact ih y b h
   |inr y=>cases h;rfl
def bO (T:List (Nat×AV)) (U:List (aC×Option Root)):St:=⟨aeV T,adN U,Nv (adN U) (U.map (·.1))⟩
def allT(tm:TF):List (Nat×AV)→Prop
 |[]=>True
 | (t,v)::l=>tm t=v∧allT tm l
def az3(rs:RF):List (aC×Option Root)→Prop
 |[]=>True
 | (q,x)::l=>rs q=x∧az3 rs l
theorem aCd{tm:TF}:∀(l:List Nat)(t:Nat),t∈l→aeV (ZK tm l) t=tm t:=by
 intro l
 induction l with
 |nil=>intro t h;cases h
 |cons x l ih=>
  intro t h
  simp only [ZK,aeV]
  by_cases he:t=x
  ·rw [beq_iff.2 he];subst he;rfl
  ·rw [iB he]
   exact ih t ((List.mem_cons.1 h).resolve_left he)
theorem atZ{rs:RF}:∀(l:List aC)(q:aC),q∈l→adN (keepR rs l) q=rs q:=by
 intro l
 induction l with
 |nil=>intro t h;cases h
 |cons x l ih=>
  intro t h
  simp only [keepR,adN]
  by_cases he:t=x
  ·rw [dx.2 he];subst he;rfl
  ·rw [iF he]
   exact ih t ((List.mem_cons.1 h).resolve_left he)
theorem ay7{tm:TF}:∀(T:List (Nat×AV)),allT tm T→ZK tm (T.map (·.1))=T:=by
 intro T
 induction T with
 |nil=>intro _;rfl
 |cons x T ih=>intro h;obtain ⟨t,v⟩:=x;obtain ⟨h1,h2⟩:=h;simp only [List.map_cons,ZK,ih h2,h1]
theorem apb{rs:RF}:∀(U:List (aC×Option Root)),az3 rs U→keepR rs (U.map (·.1))=U:=by
 intro U
 induction U with
 |nil=>intro _;rfl
 |cons x U ih=>intro h;obtain ⟨t,v⟩:=x;obtain ⟨h1,h2⟩:=h;simp only [List.map_cons,keepR,ih h2,h1]
theorem aqV{rs rs':RF}:∀(l:List aC),(∀q∈l,rs' q=rs q)→Nv rs' l=Nv rs l:=by
 intro l
 induction l with
 |nil=>intro _;rfl
 |cons x l ih=>
  intro h
  funext n
  simp only [Nv]
  rw [h x (by simp),ih fun q hq=>h q (by simp [hq])]
theorem anr{kp:Keep}{s:St}:∀(T:List (Nat×AV)),(∀t∈T.map (·.1),t∈kp.1)→allT (restrict kp s).tmps T→allT s.tmps T:=by
 intro T
 induction T with
 |nil=>intro _ _;trivial
 |cons x T ih=>
  intro hm h
  obtain ⟨t,v⟩:=x
  refine ⟨?_,ih (fun u hu=>hm u (by simp at hu ⊢;exact .inr hu)) h.2⟩
  rw [←h.1]
  exact (aCd _ t (hm t (by simp))).symm
theorem ant{kp:Keep}{s:St}:∀(U:List (aC×Option Root)),(∀q∈U.map (·.1),q∈kp.2)→az3 (restrict kp s).roots U→az3 s.roots U:=by
 intro U
 induction U with
 |nil=>intro _ _;trivial
 |cons x U ih=>
  intro hm h
  obtain ⟨t,v⟩:=x
  refine ⟨?_,ih (fun u hu=>hm u (by simp at hu ⊢;exact .inr hu)) h.2⟩
  rw [←h.1]
  exact (atZ _ t (hm t (by simp))).symm
theorem aM{kp:Keep}{s:St}{T:List (Nat×AV)}{U:List (aC×Option Root)}(h1:kp.1=T.map (·.1))(h2:kp.2=U.map (·.1))(hT:allT (restrict kp s).tmps T)(hU:az3 (restrict kp s).roots U):restrict kp s=bO T U:=by
 have hT':=anr T (by rw [h1];exact fun _ h=>h) hT
 have hU':=ant U (by rw [h2];exact fun _ h=>h) hU
 unfold restrict bO
 rw [h1,h2,ay7 T hT',apb U hU']
 have:Nv s.roots (U.map (·.1))=Nv (adN U) (U.map (·.1)):=by
  refine aqV _ fun q hq=>?_
  have h3:=apb U hU'
  rw [←atZ (rs:=s.roots) (U.map (·.1)) q hq,h3]
 rw [this]
def fK:Code→List Code
 |.seq a b=>fK a++fK b
 |.cond _ a b=>fK a++fK b
 |.block _ a=>fK a
 |.loop a=>a::fK a
 |_=>[]
theorem alI:∀(c:Code),(∀a∈fK c,∀i L,fq a=some i→iA i A=some L→bP V A a L)→sU V A c:=by
 intro c
 induction c with
 |seq a b iha ihb=>intro h;exact ⟨iha fun x hx=>h x (by simp [fK,hx]),ihb fun x hx=>h x (by simp [fK,hx])⟩
 |cond x a b iha ihb=>intro h;exact ⟨iha fun x hx=>h x (by simp [fK,hx]),ihb fun x hx=>h x (by simp [fK,hx])⟩
 |block id a ih=>intro h;exact ih h
 |loop a ih=>intro h;exact ⟨ih fun x hx=>h x (by simp [fK,hx]),h a (by simp [fK])⟩
 |_=>intro _;trivial
def aR(c:Code)(n:Nat):Code:=(fK c).getD n .skip
theorem atB{c:Code}(h:(fK c).length=0):sU V A c:=alI c fun a ha=>by rw [List.eq_nil_of_length_eq_zero h] at ha;cases ha
theorem atA{c:Code}{n:Nat}(hn:(fK c).length=n)(h:∀k,k<n→∀i L,fq (aR c k)=some i→iA i A=some L→bP V A (aR c k) L):sU V A c:=by
 refine alI c fun a ha=>?_
 obtain ⟨k,hk,rfl⟩:=List.mem_iff_getElem.1 ha
 have:=h k (by omega)
 unfold aR at this
 rw [List.getD_eq_getElem?_getD,List.getElem?_eq_getElem hk] at this
 exact this
theorem aza{a:Code}{id:Nat}{L:bA}(h1:fq a=some id)(h2:iA id A=some L)(h:bP V A a L):∀i L',fq a=some i→iA i A=some L'→bP V A a L':=by
 intro i L' h3 h4
 rw [h1] at h3
 cases h3
 rw [h2] at h4
 cases h4
 exact h
theorem fP{a:Code}{L:bA} (h:∀(s:St)(e:Ex)(s':St),(L.sm (restrict L.kp s)).run some=some (e,s') →
  ∃(σ β:Type) (mk:σ→St) (out:β→Ex×St) (step:σ→Tre (σ ⊕ β)) (x:σ) (b:β),restrict L.kp s=mk x∧aL step x=some b∧out b=(e,s') ∧
   ∀(x:σ)(c:St→Option (Ex×St)),den V A a (mk x) (bR L.kp L.kx c)=(step x).run (bS mk out c)):bP V A a L:=by
 intro s e s' hs
 obtain ⟨σ,β,mk,out,step,x,b,h1,h2,h3,h4⟩:=h s e s' hs
 obtain ⟨n,hn⟩:=Yn.1 h2
 refine ⟨n,?_⟩
 rw [h1,←h3]
 exact ay5 h4 n x b hn
theorem xL{α:Type}{b:Bool}{t f:Tre α}{x y:α}(h1:t.run some=some x)(h2:f.run some=some y):(Tre.cond b t f).run some=some (cond b x y):=by cases b<;>assumption
theorem ajR{ρ γ δ:Type}{o:Option ρ}{out:ρ→γ}{x:δ}{c:γ→Option δ}(h:(Tre.mat o fun y=>Tre.ret (out y)).run c=some x):∃y,o=some y∧c (out y)=some x:=by
 rw [Tre.jl] at h
 cases o with
 |none=>cases h
 |some y=>exact ⟨y,rfl,h⟩
theorem iE{β δ α:Type}{o:Option β}{k:β→Tre α}{x:δ}{c:α→Option δ}(h:(Tre.mat o k).run c=some x):∃y,o=some y∧(k y).run c=some x:=by
 rw [Tre.jl] at h
 cases o with
 |none=>cases h
 |some y=>exact ⟨y,rfl,h⟩
theorem aCh{α δ:Type}{b:Bool}{A B:Tre α}{c:α→Option δ}{x:δ}(hb:b=true)(h:(cond b A B).run c=some x):A.run c=some x:=by subst hb;exact h
theorem azS{α δ:Type}{b:Bool}{A B:Tre α}{c:α→Option δ}{x:δ}(hb:b=false)(h:(cond b A B).run c=some x):B.run c=some x:=by subst hb;exact h
theorem bB{ρ:Type}{t:Tre ρ}{out:ρ→au}{d:Option au}{co:au}(hd:d=t.run fun y=>some (out y))(h:(Tre.mat (t.run some) fun y=>Tre.ret (out y)).run some=some co):(Tre.mat d Tre.ret).run some=some co:=by
 obtain ⟨y,h1,h2⟩:=ajR h
 rw [hd,Tre.run_bind t,h1]
 exact h2
theorem sW{ρ:Type}{t:Tre ρ}{out:ρ→au}{d:Option au}{co:au}{y:ρ}(hd:d=t.run fun y=>some (out y))(hs:t.run some=some y)(h:(Tre.ret (out y):Tre au).run some=some co):(Tre.mat d Tre.ret).run some=some co:=by
 rw [hd,Tre.run_bind t,hs]
 exact h
theorem nR{ρ:Type}{t:Tre ρ}{out:ρ→au}{d:Option au}{co:au}{o:Option ρ}(hd:d=t.run fun y=>some (out y))(hs:∀y,o=some y→t.run some=some y)(h:(Tre.mat o fun y=>Tre.ret (out y)).run some=some co):(Tre.mat d Tre.ret).run some=some co:=by
 obtain ⟨y,h1,h2⟩:=ajR h
 exact sW hd (hs y h1) h2
theorem akB{ρ:Type}{t:Tre ρ}{out:ρ→au}{k:ρ→Tre au}{d:Option au}{co:au}(hd:d=t.run fun y=>some (out y))(h:(Tre.mat (t.run some) k).run some=some co)(hk:∀x,(k x).run some=some (out x)):(Tre.mat d Tre.ret).run some=some co:=by
 obtain ⟨y,h1,h2⟩:=iE h
 rw [hk] at h2
 rw [hd,Tre.run_bind t,h1]
 exact h2
theorem apS{P:Program}{Γ:Glb}{f:FuncId}{q0 q1 q:Ctr}{e:K}(h0:Contract P Γ f q0)(h1:Contract P Γ f q1) (hq:∀ci co,(q.G ci).run some=some co→∃z d,ci=⟨[.imm z (.sl e) d],[]⟩ ∧
  (q1.G ⟨[.nn z e d],[]⟩).run some=some co∧(d=[]→(q0.G ⟨[.nil],[]⟩).run some=some co)) (hs:q.soft=false:=by rfl):Contract P Γ f q:=by
 intro w C ci co vals hM hptr hsz hvals hgl hG
 obtain ⟨z,d,rfl,g1,g0⟩:=hq ci co hG
 obtain ⟨v,rfl⟩:∃v,vals = #[v]:=by
  match vals,hsz with
  |⟨[v]⟩,_=>exact ⟨v,rfl⟩
 have hv:=hvals 0 v _ rfl rfl
 obtain ⟨hA,hc⟩:=hv.cell (by simp) rfl (by simp) (by simp)
 have key:(v=.slice none 0 0∧d=[])∨∃a n c,v=.slice (some a) n c:=by
  rcases hA.2 with ⟨h,_⟩|⟨_,rfl,a,h⟩|⟨_,b,off,cap,c,T,fz,h,_⟩
  ·cases h
  ·simp only [List.cons.injEq,and_true] at h
   cases a with
   |none=>exact .inl ⟨h,rfl⟩
   |some a=>exact .inr ⟨a,_,_,h⟩
  ·simp only [List.cons.injEq,and_true] at h
   exact .inr ⟨_,_,_,h⟩
 have one:∀{av:AV},bW w C (adP []) v av→∀(i:Nat)(v':Value)(a:AV),(#[v]:Array Value)[i]?=some v'→[av][i]?=some a→bW w C (adP []) v' a:=by
  intro av hav i v' a h1 h2
  cases i with
  |zero=>simp only [List.getElem?_cons_zero,Option.some.injEq] at h2;subst h2;simp at h1;subst h1;exact hav
  |succ i=>simp at h2
 have conv:∀{args:List AV}{sf:Bool}{e':Ending}{w':World},(match e' with
   |.returned v=>∃C',U2 w C ⟨args,[]⟩ co v w' C'∧(sf=true→aj4 w C ⟨args,[]⟩ co w' C')
   |_=>False)→(match e' with
   |.returned v=>∃C',U2 w C ⟨[.imm z (.sl e) d],[]⟩ co v w' C'∧(q.soft=true→aj4 w C ⟨[.imm z (.sl e) d],[]⟩ co w' C')
   |_=>False):=by
  intro args sf e' w' h
  cases e' with
  |returned v=>obtain ⟨C',hp,_⟩:=h;exact ⟨C',⟨hp.Z,hp.S,hp.θ,hp.mem,hp.val,hp.ρ,hp.kept,hp.foot,hp.zn⟩,fun h=>by rw [hs] at h;cases h⟩
  |_=>exact h
 rcases key with ⟨rfl,hd⟩|⟨a,n,c,rfl⟩
 ·refine Calls.mono ?_ (fun e' w' h=>conv (args:=[.nil]) (sf:=q0.soft) h)
  exact h0 w C ⟨[.nil],[]⟩ co #[.slice none 0 0] hM (by simp) rfl (one (.inl (.inr (.inr ⟨rfl,rfl,rfl⟩)))) hgl (g0 hd)
 ·refine Calls.mono ?_ (fun e' w' h=>conv (args:=[.nn z e d]) (sf:=q1.soft) h)
  exact h1 w C ⟨[.nn z e d],[]⟩ co #[.slice (some a) n c] hM (by simp) rfl (one (.inl (.inr (.inr ⟨rfl,⟨hA.1,hA.2,a,n,c,rfl⟩,rfl⟩)))) hgl g1
def _root_.Go.Abs.AV.isRef:AV→Bool
 |.ref _ _=>true
 |_=>false
end
end Go.Abs
namespace Go.Abs
theorem dS{n:Int}(h1:-9223372036854775808≤n)(h2:n≤9223372036854775807):aJ .i64 n=n:=Go.IntWalk.i64_in n ⟨h1,h2⟩
theorem aQ{i:Nat}(h:i<4611686018427387904):aJ .i64 ((i:Int)+1)=((i+1:Nat):Int):=by
 rw [dS (by omega) (by omega)];rfl
theorem OV{n:Int}(h1:0≤n)(h2:n≤18446744073709551615):aJ .u64 n=n:=by
 unfold aJ IntKind.wrap
 simp only [IntKind.signed,IntKind.bits,Bool.false_and,Bool.false_eq_true,if_false]
 exact Int.emod_eq_of_lt h1 (by omega)
theorem OW(n:Int):0≤aJ .u64 n:=by
 unfold aJ IntKind.wrap
 simp only [IntKind.signed,IntKind.bits,Bool.false_and,Bool.false_eq_true,if_false]
 exact Int.emod_nonneg _ (by decide)
def inR(n a b:Int):Bool:=decide (a≤n)&&decide (n≤b)
theorem gX{n a b:Int}:inR n a b=true↔a≤n∧n≤b:=by simp [inR]
theorem ay3{n a b:Int}:inR n a b=false↔n<a∨b<n:=by
 cases h:inR n a b with
 |true=>rw [gX] at h;simp;omega
 |false=>
  simp only [true_iff]
  have:¬(a≤n∧n≤b):=fun h2=>by rw [gX.2 h2] at h;cases h
  omega
def akg{α:Type}(b:Bool)(x:α):Option α:=cond b (some x) none
theorem rW{α:Type}{b:Bool}{x y:α}(h:akg b x=some y):b=true∧x=y:=by
 cases b with
 |true=>exact ⟨rfl,Option.some.inj h⟩
 |false=>cases h
theorem gY{α:Type}{b:Bool}{x:α}(h:b=true):akg b x=some x:=by rw [h];rfl
def lim{α:Type}(n:Nat)(x:α):Option α:=if n≤1048576 then some x else none
theorem Pb{α:Type}{n:Nat}{x y:α}(h:lim n x=some y):n≤1048576∧x=y:=by
 unfold lim at h
 split at h
 ·exact ⟨‹_›,Option.some.inj h⟩
 ·cases h
theorem Dl{α:Type}{n:Nat}{x:α}(h:n≤1048576):lim n x=some x:=if_pos h
abbrev fQ{α:Type}(xs:List α):Option (List α):=lim xs.length xs
section
variable {σ β α γ ρ R : Type} {step : σ → Tre (σ ⊕ β)}
theorem lJ{x y:σ}(h:(step x).run some=some (.inl y)):aL step x=aL step y:=by rw [atz,h];rfl
theorem fE{x:σ}{b:β}(h:(step x).run some=some (.inr b)):aL step x=some b:=by rw [atz,h];rfl
theorem dW{xs:List α}{i:Nat}{x:α}{k:α→Tre ρ}{e:Tre ρ}{c:ρ→Option R}(h:xs[i]?=some x) :
  (Tre.cond (decide ((i:Int)<(xs.length:Int))) (.ite (0≤(i:Int)∧(i:Int)<(xs.length:Int)) (.mat xs[(i:Int).toNat]? k)) e).run c=(k x).run c:=by
 have hi:i<xs.length:=(List.getElem?_eq_some_iff.1 h).1
 rw [Tre.aA,show decide ((i:Int)<(xs.length:Int))=true from by simp;omega,cond_true,Tre.run_ite,if_pos ⟨by omega,by omega⟩,Tre.jl,Int.toNat_natCast,h]
 rfl
theorem dM{xs:List α}{i:Nat}{x:α}{k:α→Tre ρ}{c:ρ→Option R}(h:xs[i]?=some x) :
  (Tre.ite (0≤(i:Int)∧(i:Int)<(xs.length:Int)) (.mat xs[(i:Int).toNat]? k)).run c=(k x).run c:=by
 have hi:i<xs.length:=(List.getElem?_eq_some_iff.1 h).1
 rw [Tre.run_ite,if_pos ⟨by omega,by omega⟩,Tre.jl,Int.toNat_natCast,h]
 rfl
theorem dB{n:Int}{t e:Tre ρ}{c:ρ→Option R}:(Tre.cond (decide (n<n)) t e).run c=e.run c:=by
 rw [Tre.aA,show decide (n<n)=false from by simp];rfl
theorem ah{o:Option α}{x:α}{k:α→Tre ρ}{c:ρ→Option R}(h:o=some x):(Tre.mat o k).run c=(k x).run c:=by rw [Tre.jl,h];rfl
def nH(f:Nat→γ→α→γ ⊕ β)(fin:γ→β):Nat→γ→List α→β
 |_,acc,[]=>fin acc
 |i,acc,x::l=>match f i acc x with
  |.inl a=>nH f fin (i+1) a l
  |.inr b=>b
theorem kN{xs:List α}(st:Nat→γ→σ)(f:Nat→γ→α→γ ⊕ β)(fin:γ→β)(I:Nat→γ→Prop)
  (hs:∀i acc x,xs[i]?=some x→I i acc→(step (st i acc)).run some=some (match f i acc x with
   |.inl a=>.inl (st (i+1) a)
   |.inr b=>.inr b)∧∀a,f i acc x=.inl a→I (i+1) a)
  (he:∀acc,I xs.length acc→(step (st xs.length acc)).run some=some (.inr (fin acc))):∀(l:List α)(i:Nat)(acc:γ),xs.drop i=l→i≤xs.length→I i acc→aL step (st i acc)=some (nH f fin i acc l):=by
 intro l
 induction l with
 |nil=>
  intro i acc hl hi hI
  have:i=xs.length:=by have:=List.drop_eq_nil_iff.1 hl;omega
  subst this
  exact fE (he acc hI)
 |cons x l ih=>
  intro i acc hl hi hI
  have hx:xs[i]?=some x:=by
   have:=congrArg (·[0]?) hl
   simpa using this
  have hi':i<xs.length:=(List.getElem?_eq_some_iff.1 hx).1
  obtain ⟨h1,h2⟩:=hs i acc x hx hI
  simp only [nH]
  cases hf:f i acc x with
  |inl a=>
   rw [hf] at h1
   rw [lJ h1]
   exact ih (i+1) a (by rw [←List.drop_drop,hl];rfl) (by omega) (h2 a hf)
  |inr b=>
   rw [hf] at h1
   exact fE h1
theorem aaE{xs:List α}(st:Nat→γ→σ)(f:Nat→γ→α→γ ⊕ β)(fin:γ→β)
  (hs:∀i acc x,xs[i]?=some x→(step (st i acc)).run some=some (match f i acc x with
   |.inl a=>.inl (st (i+1) a)
   |.inr b=>.inr b))
  (he:∀acc,(step (st xs.length acc)).run some=some (.inr (fin acc))) (acc:γ):aL step (st 0 acc)=some (nH f fin 0 acc xs):=
 kN (xs:=xs) st f fin (fun _ _=>True) (fun i a x h _=>⟨hs i a x h,fun _ _=>trivial⟩) (fun a _=>he a) xs 0 acc rfl (Nat.zero_le _) trivial
def Gq(f:Nat→α→Option β)(fin:β):Nat→List α→β
 |_,[]=>fin
 |i,x::l=>match f i x with
  |some b=>b
  |none=>Gq f fin (i+1) l
theorem vF{step:Int→Tre (Int ⊕ β)}{xs:List α}(f:Nat→α→Option β)(fin:β)
  (hs:∀(i:Nat) x,xs[i]?=some x→(step (i:Int)).run some=some (match f i x with
   |none=>.inl ((i+1:Nat):Int)
   |some b=>.inr b)) (he:(step (xs.length:Int)).run some=some (.inr fin)):aL step 0=some (Gq f fin 0 xs):=by
 have key:∀(l:List α)(i:Nat),xs.drop i=l→i≤xs.length→aL step (i:Int)=some (Gq f fin i l):=by
  intro l
  induction l with
  |nil=>
   intro i hl hi
   have:i=xs.length:=by have:=List.drop_eq_nil_iff.1 hl;omega
   subst this
   exact fE he
  |cons x l ih=>
   intro i hl hi
   have hx:xs[i]?=some x:=by
    have:=congrArg (·[0]?) hl
    simpa using this
   have hi':i<xs.length:=(List.getElem?_eq_some_iff.1 hx).1
   have h1:=hs i x hx
   simp only [Gq]
   cases hf:f i x with
   |none=>
    rw [hf] at h1
    rw [lJ h1]
    exact ih (i+1) (by rw [←List.drop_drop,hl];rfl) (by omega)
   |some b=>
    rw [hf] at h1
    exact fE h1
 exact key xs 0 rfl (Nat.zero_le _)
theorem ayJ{p:α→Bool}{b c:β}:∀(l:List α)(i:Nat),Gq (fun _ x=>cond (p x) none (some b)) c i l=cond (l.all p) c b:=by
 intro l
 induction l with
 |nil=>intro i;rfl
 |cons x l ih=>
  intro i
  simp only [Gq,List.all_cons]
  cases p x with
  |true=>simp only [cond_true,Bool.true_and];exact ih _
  |false=>rfl
def nI(p:α→Bool):Nat→List α→Int
 |_,[]=>-1
 |i,x::l=>cond (p x) (i:Int) (nI p (i+1) l)
theorem NZ{p:α→Bool}:∀(l:List α)(i:Nat),(match Gq (β:=Int ⊕ Unit) (fun i x=>cond (p x) (some (.inl (i:Int))) none) (.inr ()) i l with
  |.inl n=>n
  |.inr _=>-1)=nI p i l:=by
 intro l
 induction l with
 |nil=>intro i;rfl
 |cons x l ih=>
  intro i
  simp only [Gq,nI]
  cases p x with
  |true=>rfl
  |false=>exact ih _
theorem as9{p:α→Bool}:∀(l:List α)(i:Nat),decide (nI p i l ≥ 0)=l.any p:=by
 intro l
 induction l with
 |nil=>intro i;rfl
 |cons x l ih=>
  intro i
  simp only [nI,List.any_cons]
  rcases Bool.eq_false_or_eq_true (p x) with hp|hp
  ·simp [hp]
  ·have:=ih (i+1)
   simp only [hp,cond_false,Bool.false_or]
   exact this
end
def eqR{α:Type} [DecidableEq α] (n:Nat) (x y:α):Option Bool:=if n≤1048576∧x=y then some true else none
theorem aAJ{α:Type} [DecidableEq α] {n:Nat} {x y:α} {b:Bool} (h:eqR n x y=some b):n≤1048576∧x=y∧b=true:=by
 unfold eqR at h
 split at h
 ·rename_i hh;exact ⟨hh.1,hh.2,(Option.some.inj h).symm⟩
 ·cases h
theorem acp{α:Type} [DecidableEq α] {n:Nat} {x:α} (h:n≤1048576):eqR n x x=some true:=if_pos ⟨h,rfl⟩
def aCe(m:Int):Int:=aJ .i64 (F7 .i64 1 m-1)
def inP(m x:Int):Bool:=inR x 0 (aCe m)
theorem ayL{α β:Type}(fin:List α→β):∀(l:List α)(i:Nat)(acc:List α),acc.length=i+l.length→nH (fun i acc x=>(.inl (acc.set i x):List α ⊕ β)) fin i acc l=fin (acc.take i++l):=by
 intro l
 induction l with
 |nil=>intro i acc h;simp only [nH,List.append_nil];rw [List.take_of_length_le (by simp at h;omega)]
 |cons x l ih=>
  intro i acc h
  simp only [nH]
  simp only [List.length_cons] at h
  rw [ih (i+1) (acc.set i x) (by simp;omega)]
  congr 1
  rw [List.take_set,List.take_add_one]
  have hi:i<acc.length:=by omega
  rw [List.getElem?_eq_getElem hi]
  rw [List.set_append]
  simp [List.length_take,Nat.min_eq_left (Nat.le_of_lt hi)]
end Go.Abs
namespace Go.Abs
theorem Dj{n:Nat}(h:n<9223372036854775808):aJ .i64 (n:Int)=n:=dS (by omega) (by omega)
theorem Iz{n:Nat}(h:n<18446744073709551616):(BitVec.ofInt 64 (n:Int)).toNat=n:=by
 rw [BitVec.ofInt_natCast,BitVec.toNat_ofNat,Nat.mod_eq_of_lt h]
theorem mV{a b:Nat}(ha:a<2 ^ 63)(hb:b<2 ^ 63):iD .i64 (a:Int) (b:Int)=((a^^^b:Nat):Int):=by
 have hx:a^^^b<2 ^ 63:=Nat.xor_lt_two_pow ha hb
 have:(BitVec.ofInt 64 (a:Int)^^^BitVec.ofInt 64 (b:Int)).toNat=a^^^b:=by
  rw [BitVec.toNat_xor,Iz (by omega),Iz (by omega)]
 unfold iD
 show aJ .i64 (((BitVec.ofInt 64 (a:Int)^^^BitVec.ofInt 64 (b:Int)).toNat:Nat):Int)=_
 rw [this,Dj (by omega)]
theorem as6{a b:Nat}(ha:a<2 ^ 63)(hb:b<2 ^ 63):Rj .i64 (a:Int) (b:Int)=((a&&&b:Nat):Int):=by
 have hx:a&&&b<2 ^ 63:=Nat.and_lt_two_pow _ hb
 have:(BitVec.ofInt 64 (a:Int)&&&BitVec.ofInt 64 (b:Int)).toNat=a&&&b:=by
  rw [BitVec.toNat_and,Iz (by omega),Iz (by omega)]
 unfold Rj
 show aJ .i64 (((BitVec.ofInt 64 (a:Int)&&&BitVec.ofInt 64 (b:Int)).toNat:Nat):Int)=_
 rw [this,Dj (by omega)]
theorem aA9{a j:Nat}(hj:j≤64):OU .i64 (a:Int) (j:Int)=((a >>> j:Nat):Int):=by
 unfold OU
 rw [Int.toNat_natCast,show min j (IntKind.bits .i64)=j from Nat.min_eq_left hj,Nat.shiftRight_eq_div_pow,Int.fdiv_eq_ediv_of_nonneg _ (by exact_mod_cast Nat.zero_le _)]
 push_cast
 rfl
def nO(x j:Int):Bool:=decide (Rj .i64 (OU .i64 x j) 1=1)
theorem vC{a j:Nat}(ha:a<2 ^ 63)(hj:j≤64):nO (a:Int) (j:Int)=a.testBit j:=by
 have h1:a >>> j<2 ^ 63:=by rw [Nat.shiftRight_eq_div_pow];exact Nat.lt_of_le_of_lt (Nat.div_le_self _ _) ha
 unfold nO
 rw [aA9 hj,show (1:Int)=((1:Nat):Int) from rfl,as6 h1 (by decide),Nat.and_one_is_mod,Nat.testBit_eq_decide_div_mod_eq,Nat.shiftRight_eq_div_pow]
 rw [Bool.eq_iff_iff]
 simp only [decide_eq_true_eq]
 omega
inductive Sp (l:List Nat):Nat→Prop
 |zero:Sp l 0
 |add {r v:Nat}:r∈l→Sp l v→Sp l (r^^^v)
theorem Sp.mem{l:List Nat}{r:Nat}(h:r∈l):Sp l r:=by
 have:=Sp.add h (Sp.zero)
 rwa [Nat.xor_zero] at this
theorem Sp.xor{l:List Nat}{a b:Nat}(ha:Sp l a)(hb:Sp l b):Sp l (a^^^b):=by
 induction ha with
 |zero=>rwa [Nat.zero_xor]
 |add h _ ih=>rw [Nat.xor_assoc];exact .add h ih
theorem Sp.trans{l l':List Nat}(h:∀r∈l,Sp l' r){v:Nat}(hv:Sp l v):Sp l' v:=by
 induction hv with
 |zero=>exact .zero
 |add hr _ ih=>exact (h _ hr).xor ih
def Lo(r p:Nat):Prop:=r.testBit p=true∧∀q,q<p→r.testBit q=false
theorem Lo.uniq{r p q:Nat}(h1:Lo r p)(h2:Lo r q):p=q:=by
 rcases Nat.lt_trichotomy p q with h|h|h
 ·have:=h2.2 p h;rw [h1.1] at this;cases this
 ·exact h
 ·have:=h1.2 q h;rw [h2.1] at this;cases this
def Red(c:Nat)(E:List (Nat×Nat)):Prop:=(∀a∈E,a.1<c∧Lo a.2 a.1)∧E.Pairwise fun a b=>a.1<b.1∧a.2.testBit b.1=false
def comb(f:Nat→Bool):List (Nat×Nat)→Nat
 |[]=>0
 |a::l=>cond (f a.1) (a.2^^^comb f l) (comb f l)
theorem aAd(f g:Nat→Bool):∀l:List (Nat×Nat),comb (fun x=>f x ^^ g x) l=comb f l^^^comb g l:=by
 intro l
 induction l with
 |nil=>exact (Nat.xor_self 0).symm
 |cons a l ih=>
  simp only [comb,ih]
  cases f a.1<;>cases g a.1<;>simp only [Bool.false_xor,Bool.true_xor,Bool.not_true,Bool.not_false,cond_true,cond_false]
  ·rw [←Nat.xor_assoc,←Nat.xor_assoc,Nat.xor_comm a.2]
  ·rw [Nat.xor_assoc]
  ·rw [Nat.xor_assoc a.2,Nat.xor_comm (comb f l) (a.2^^^comb g l),←Nat.xor_assoc,←Nat.xor_assoc,Nat.xor_self,Nat.zero_xor,Nat.xor_comm]
theorem ae8(f:Nat→Bool):∀l:List (Nat×Nat),(∀a∈l,f a.1=false)→comb f l=0:=by
 intro l h
 induction l with
 |nil=>rfl
 |cons a l ih=>simp only [comb,h a (.head _),cond_false];exact ih fun x hx=>h x (.tail _ hx)
theorem aay(f:Nat→Bool){p:Nat}:∀l:List (Nat×Nat),(∀a∈l,a.2.testBit p=false)→(comb f l).testBit p=false:=by
 intro l h
 induction l with
 |nil=>simp [comb]
 |cons a l ih=>
  have:=ih fun x hx=>h x (.tail _ hx)
  simp only [comb]
  cases f a.1
  ·exact this
  ·simp [Nat.testBit_xor,this,h a (.head _)]
theorem Red.tail{c:Nat}{a:Nat×Nat}{l:List (Nat×Nat)}(h:Red c (a::l)):Red c l:=⟨fun x hx=>h.1 x (.tail _ hx),(List.pairwise_cons.1 h.2).2⟩
theorem aAc{c:Nat}:∀(E:List (Nat×Nat)),Red c E→∀a∈E,comb (fun p=>p == a.1) E=a.2:=by
 intro E
 induction E with
 |nil=>intro _ a ha;cases ha
 |cons b l ih=>
  intro h a ha
  have hp:=(List.pairwise_cons.1 h.2).1
  simp only [comb]
  cases ha with
  |head=>
   rw [ae8 _ l fun x hx=>by have:=(hp x hx).1;simp;omega]
   simp
  |tail _ ha=>
   have:(b.1 == a.1)=false:=by have:=(hp a ha).1;simp;omega
   rw [this]
   exact ih h.tail a ha
theorem Sp.comb{c:Nat}{E:List (Nat×Nat)}(h:Red c E){v:Nat}(hv:Sp (E.map (·.2)) v):∃f,v=Abs.comb f E:=by
 induction hv with
 |zero=>exact ⟨fun _=>false,(ae8 _ _ fun _ _=>rfl).symm⟩
 |add hr _ ih=>
  obtain ⟨f,rfl⟩:=ih
  obtain ⟨a,ha,rfl⟩:=List.mem_map.1 hr
  exact ⟨_,by rw [aAd (fun p=>p == a.1) f,aAc E h a ha]⟩
theorem aAa{c:Nat}(f:Nat→Bool):∀(E:List (Nat×Nat)),Red c E→∀a∈E,(comb f E).testBit a.1=f a.1:=by
 intro E
 induction E with
 |nil=>intro _ a ha;cases ha
 |cons b l ih=>
  intro h a ha
  have hp:=(List.pairwise_cons.1 h.2).1
  simp only [comb]
  cases ha with
  |head=>
   have h0:(comb f l).testBit b.1=false:=aay f l fun x hx=>(h.1 x (.tail _ hx)).2.2 _ (hp x hx).1
   cases hf:f b.1
   ·exact h0
   ·simp [Nat.testBit_xor,h0,(h.1 b (.head _)).2.1]
  |tail _ ha=>
   have hb:=(hp a ha).2
   have:=ih h.tail a ha
   cases f b.1
   ·exact this
   ·simp [Nat.testBit_xor,this,hb]
theorem aAb{c:Nat}(f:Nat→Bool):∀(E:List (Nat×Nat)),Red c E→comb f E=0∨∃a∈E,Lo (comb f E) a.1:=by
 intro E
 induction E with
 |nil=>intro _;exact .inl rfl
 |cons b l ih=>
  intro h
  have hp:=(List.pairwise_cons.1 h.2).1
  have hb:=(h.1 b (.head _)).2
  simp only [comb]
  cases f b.1
  ·rcases ih h.tail with h0|⟨a,ha,hl⟩
   ·exact .inl h0
   ·exact .inr ⟨a,.tail _ ha,hl⟩
  ·refine .inr ⟨b,.head _,?_,fun q hq=>?_⟩
   ·have h0:(comb f l).testBit b.1=false:=aay f l fun x hx=>(h.1 x (.tail _ hx)).2.2 _ (hp x hx).1
    simp [Nat.testBit_xor,h0,hb.1]
   ·have h0:(comb f l).testBit q=false:=aay f l fun x hx=>(h.1 x (.tail _ hx)).2.2 _ (Nat.lt_trans hq (hp x hx).1)
    simp [Nat.testBit_xor,h0,hb.2 q hq]
theorem Red.apart{c:Nat}:∀{E:List (Nat×Nat)},Red c E→∀{a b:Nat×Nat},a∈E→b∈E→a.1≠b.1→a.2.testBit b.1=false:=by
 intro E
 induction E with
 |nil=>intro _ a b ha;cases ha
 |cons x l ih=>
  intro h a b ha hb hne
  have hp:=(List.pairwise_cons.1 h.2).1
  cases ha with
  |head=>
   cases hb with
   |head=>exact absurd rfl hne
   |tail _ hb=>exact (hp b hb).2
  |tail _ ha=>
   cases hb with
   |head=>exact (h.1 a (.tail _ ha)).2.2 _ (hp a ha).1
   |tail _ hb=>exact ih h.tail ha hb hne
theorem Red.find{c:Nat}{E:List (Nat×Nat)}(h:Red c E){v p:Nat}(hv:Sp (E.map (·.2)) v)(hl:Lo v p):∃a∈E,a.1=p:=by
 obtain ⟨f,rfl⟩:=hv.comb h
 rcases aAb f E h with h0|⟨a,ha,hl'⟩
 ·rw [h0] at hl;have:=hl.1;simp at this
 ·exact ⟨a,ha,hl'.uniq hl⟩
theorem Red.sub{c c':Nat}{E E':List (Nat×Nat)}(h:Red c E)(h':Red c' E')(hs:∀v,Sp (E.map (·.2)) v↔Sp (E'.map (·.2)) v):∀a∈E,a∈E':=by
 intro a ha
 have ha1:=(h.1 a ha).2
 have hin:∀b∈E,∃b'∈E',b'.1=b.1:=fun b hb=>h'.find ((hs _).1 (.mem (List.mem_map.2 ⟨b,hb,rfl⟩))) (h.1 b hb).2
 obtain ⟨a',ha',he⟩:=hin a ha
 have ha1':=(h'.1 a' ha').2
 have hw:Sp (E.map (·.2)) (a.2^^^a'.2):=(Sp.mem (List.mem_map.2 ⟨a,ha,rfl⟩)).xor ((hs _).2 (.mem (List.mem_map.2 ⟨a',ha',rfl⟩)))
 obtain ⟨g,hg⟩:=hw.comb h
 have hz:∀b∈E,g b.1=false:=by
  intro b hb
  rw [←aAa g E h b hb,←hg,Nat.testBit_xor]
  by_cases hab:a.1=b.1
  ·rw [←hab,ha1.1,←he,ha1'.1];rfl
  ·obtain ⟨b',hb',he'⟩:=hin b hb
   rw [h.apart ha hb hab,←he',h'.apart ha' hb' (by rw [he,he'];exact hab)];rfl
 rw [ae8 g E hz] at hg
 have h2:a.2=a'.2:=by
  have h3:=congrArg (· ^^^ a'.2) hg
  simp only [Nat.xor_assoc,Nat.xor_self,Nat.xor_zero,Nat.zero_xor] at h3
  exact h3
 have:a=a':=Prod.ext he.symm h2
 rw [this]
 exact ha'
theorem azK:∀(E E':List (Nat×Nat)),(E.Pairwise fun a b=>a.1<b.1)→(E'.Pairwise fun a b=>a.1<b.1)→(∀a∈E,a∈E')→(∀a∈E',a∈E)→E=E':=by
 intro E
 induction E with
 |nil=>
  intro E' _ _ _ h
  cases E' with
  |nil=>rfl
  |cons b l=>have:=h b (.head _);cases this
 |cons a l ih=>
  intro E' hE hE' h1 h2
  cases E' with
  |nil=>have:=h1 a (.head _);cases this
  |cons b l'=>
   have hp:=List.pairwise_cons.1 hE
   have hp':=List.pairwise_cons.1 hE'
   have hab:a=b:=by
    have i1:=h1 a (.head _)
    have i2:=h2 b (.head _)
    cases i1 with
    |head=>rfl
    |tail _ i1=>
     cases i2 with
     |head=>rfl
     |tail _ i2=>have:=hp'.1 a i1;have:=hp.1 b i2;omega
   subst hab
   congr 1
   refine ih l' hp.2 hp'.2 (fun x hx=>?_) (fun x hx=>?_)
   ·have:=h1 x (.tail _ hx)
    cases this with
    |head=>have:=hp.1 _ hx;omega
    |tail _ h=>exact h
   ·have:=h2 x (.tail _ hx)
    cases this with
    |head=>have:=hp'.1 _ hx;omega
    |tail _ h=>exact h
theorem Red.uniq{c c':Nat}{E E':List (Nat×Nat)}(h:Red c E)(h':Red c' E')(hs:∀v,Sp (E.map (·.2)) v↔Sp (E'.map (·.2)) v):E=E':=
 azK E E' (h.2.imp fun h=>h.1) (h'.2.imp fun h=>h.1) (h.sub h' hs) (h'.sub h fun v=>(hs v).symm)
def kK(rows E:List Nat):Prop:=∃P c,Red c P∧P.map (·.2)=E∧∀v,Sp rows v↔Sp E v
def ech (rows:List Nat):List Nat:=by
 classical
 exact if h:∃E,kK rows E then Classical.choose h else []
theorem kK.eq{rows E E':List Nat}(h:kK rows E)(h':kK rows E'):E=E':=by
 obtain ⟨P,c,hr,rfl,hs⟩:=h
 obtain ⟨P',c',hr',rfl,hs'⟩:=h'
 rw [hr.uniq hr' fun v=>(hs v).symm.trans (hs' v)]
theorem apY{rows E:List Nat}(h:kK rows E):ech rows=E:=by
 have hx:∃E,kK rows E:=⟨E,h⟩
 unfold ech
 rw [dif_pos hx]
 exact (Classical.choose_spec hx).eq h
def gU(c r x:Nat):Nat:=cond (x.testBit c) (x^^^r) x
theorem aoT{c r x:Nat}(hr:r.testBit c=true):(gU c r x).testBit c=false:=by
 unfold gU
 cases h:x.testBit c
 ·exact h
 ·simp [Nat.testBit_xor,h,hr]
theorem Yb{c r x q:Nat}(hr:r.testBit q=false):(gU c r x).testBit q=x.testBit q:=by
 unfold gU
 cases x.testBit c
 ·rfl
 ·simp [Nat.testBit_xor,hr]
theorem aco{c r x b:Nat}(hr:r<2 ^ b)(hx:x<2 ^ b):gU c r x<2 ^ b:=by
 unfold gU
 cases x.testBit c
 ·exact hx
 ·exact Nat.xor_lt_two_pow hx hr
structure Inv(orig:List Nat)(c:Nat)(E:List (Nat×Nat))(R:List Nat):Prop where
 red:Red c E
 low:∀x∈R,∀q,q<c→x.testBit q=false
 span:∀v,Sp orig v↔Sp (E.map (·.2)++R) v
theorem Inv.skip{orig:List Nat}{c:Nat}{E:List (Nat×Nat)}{R:List Nat}(h:Inv orig c E R)(hc:∀x∈R,x.testBit c=false):Inv orig (c+1) E R:=
 ⟨⟨fun a ha=>⟨Nat.lt_succ_of_lt (h.red.1 a ha).1,(h.red.1 a ha).2⟩,h.red.2⟩,fun x hx q hq=>by
  rcases Nat.lt_succ_iff_lt_or_eq.1 hq with h1|rfl
  ·exact h.low x hx q h1
  ·exact hc x hx,h.span⟩
theorem Inv.step{orig:List Nat}{c:Nat}{E:List (Nat×Nat)}{R R':List Nat}{r:Nat}(h:Inv orig c E R)(hr:r∈R)(hb:r.testBit c=true)
  (h1:∀y∈R',y=0∨∃x∈R,y=gU c r x) (h2:∀x∈R,x=r∨gU c r x∈R'):Inv orig (c+1) (E.map (fun a=>(a.1,gU c r a.2))++[(c,r)]) R':=by
 have hlow:=h.low r hr
 refine ⟨⟨?_,?_⟩,?_,?_⟩
 ·intro a ha
  rcases List.mem_append.1 ha with ha|ha
  ·obtain ⟨b,hb',rfl⟩:=List.mem_map.1 ha
   obtain ⟨i1,i2⟩:=h.red.1 b hb'
   refine ⟨Nat.lt_succ_of_lt i1,?_,fun q hq=>?_⟩
   ·dsimp only;rw [Yb (hlow _ i1)];exact i2.1
   ·dsimp only at hq ⊢;rw [Yb (hlow _ (Nat.lt_trans hq i1))];exact i2.2 q hq
  ·simp only [List.mem_singleton] at ha
   subst ha
   exact ⟨Nat.lt_succ_self _,hb,hlow⟩
 ·refine List.pairwise_append.2 ⟨?_,List.pairwise_singleton _ _,?_⟩
  ·refine List.pairwise_map.2 ((List.pairwise_iff_forall_sublist.2 ?_))
   intro a b hs
   have hmem:a∈E∧b∈E:=⟨hs.subset (.head _),hs.subset (.tail _ (.head _))⟩
   have:=List.pairwise_iff_forall_sublist.1 h.red.2 hs
   exact ⟨this.1,by dsimp only;rw [Yb (hlow _ (h.red.1 b hmem.2).1)];exact this.2⟩
  ·intro a ha b hb'
   simp only [List.mem_singleton] at hb'
   subst hb'
   obtain ⟨x,hx,rfl⟩:=List.mem_map.1 ha
   exact ⟨(h.red.1 x hx).1,aoT hb⟩
 ·intro y hy q hq
  rcases h1 y hy with rfl|⟨x,hx,rfl⟩
  ·simp
  ·rcases Nat.lt_succ_iff_lt_or_eq.1 hq with h3|rfl
   ·rw [Yb (hlow _ h3)];exact h.low x hx q h3
   ·exact aoT hb
 ·have hr1:Sp (E.map (·.2)++R) r:=.mem (List.mem_append_right _ hr)
  have key:∀{L:List Nat}{x:Nat},Sp L r→Sp L x→Sp L (gU c r x):=by
   intro L x i1 i2
   unfold gU
   cases x.testBit c
   ·exact i2
   ·exact i2.xor i1
  have key2:∀{L:List Nat}{x:Nat},Sp L r→Sp L (gU c r x)→Sp L x:=by
   intro L x i1 i2
   unfold gU at i2
   cases hx:x.testBit c
   ·rw [hx] at i2;exact i2
   ·rw [hx] at i2
    have:=Sp.xor i2 i1
    simp only [cond_true] at this
    rwa [Nat.xor_assoc,Nat.xor_self,Nat.xor_zero] at this
  have hmap:(E.map (fun a=>(a.1,gU c r a.2))++[(c,r)]).map (·.2)=E.map (fun a=>gU c r a.2)++[r]:=by simp [List.map_map,Function.comp_def]
  rw [hmap]
  intro v
  rw [h.span v]
  have hr2:Sp (E.map (fun a=>gU c r a.2)++[r]++R') r:=.mem (by simp)
  constructor
  ·refine Sp.trans fun x hx=>?_
   rcases List.mem_append.1 hx with hx|hx
   ·obtain ⟨a,ha,rfl⟩:=List.mem_map.1 hx
    exact key2 hr2 (.mem (List.mem_append_left _ (List.mem_append_left _ (List.mem_map.2 ⟨a,ha,rfl⟩))))
   ·rcases h2 x hx with rfl|h3
    ·exact hr2
    ·exact key2 hr2 (.mem (List.mem_append_right _ h3))
  ·refine Sp.trans fun x hx=>?_
   rcases List.mem_append.1 hx with hx|hx
   ·rcases List.mem_append.1 hx with hx|hx
    ·obtain ⟨a,ha,rfl⟩:=List.mem_map.1 hx
     exact key hr1 (.mem (List.mem_append_left _ (List.mem_map.2 ⟨a,ha,rfl⟩)))
    ·simp only [List.mem_singleton] at hx
     subst hx
     exact hr1
   ·rcases h1 x hx with rfl|⟨y,hy,rfl⟩
    ·exact .zero
    ·exact key hr1 (.mem (List.mem_append_right _ hy))
theorem Inv.done{orig:List Nat}{c:Nat}{E:List (Nat×Nat)}{R:List Nat}(h:Inv orig c E R)(hz:∀x∈R,x=0):kK orig (E.map (·.2)):=by
 refine ⟨E,c,h.red,rfl,fun v=>(h.span v).trans ⟨?_,?_⟩⟩
 ·refine Sp.trans fun x hx=>?_
  rcases List.mem_append.1 hx with hx|hx
  ·exact .mem hx
  ·rw [hz x hx];exact .zero
 ·exact Sp.trans fun x hx=>.mem (List.mem_append_left _ hx)
theorem Inv.start(orig:List Nat):Inv orig 0 [] orig:=⟨⟨fun a ha=>by (cases ha),.nil⟩,fun _ _ q hq=>absurd hq (Nat.not_lt_zero q),fun _=>Iff.rfl⟩
theorem Ir{x b:Nat}(h:x<2 ^ b)(hq:∀q,q<b→x.testBit q=false):x=0:=by
 refine Nat.eq_of_testBit_eq fun q=>?_
 rw [Nat.zero_testBit]
 by_cases h1:q<b
 ·exact hq q h1
 ·exact Nat.testBit_lt_two_pow (Nat.lt_of_lt_of_le h (Nat.pow_le_pow_right (by decide) (by omega)))
abbrev up(l:List Nat):List Int:=l.map fun n:Nat=>(n:Int)
theorem X5{l:List Nat}{i x:Nat}(h:l[i]?=some x):(up l)[i]?=some (x:Int):=by simp [up,h]
theorem X6(l:List Nat)(i x:Nat):(up l).set i (x:Int)=up (l.set i x):=by simp [up,List.map_set]
theorem mo(l:List Nat):(up l).length=l.length:=by simp [up]
def zF(g:Nat→Nat→Nat)(i:Nat)(l:List Nat):List Nat:=l.mapIdx fun j x=>if j<i then g j x else x
theorem adF(g:Nat→Nat→Nat)(i:Nat)(l:List Nat):(zF g i l).length=l.length:=by simp [zF]
theorem ajT{g:Nat→Nat→Nat}{i j x:Nat}{l:List Nat}(h:l[j]?=some x):(zF g i l)[j]?=some (if j<i then g j x else x):=by simp [zF,h]
theorem azi(g:Nat→Nat→Nat)(l:List Nat):zF g 0 l=l:=by
 refine List.ext_getElem? fun j=>?_
 simp [zF]
theorem atW{g:Nat→Nat→Nat}{i x:Nat}{l:List Nat}(h:l[i]?=some x):(zF g i l).set i (g i x)=zF g (i+1) l:=by
 refine List.ext_getElem? fun j=>?_
 have hi:i<l.length:=(List.getElem?_eq_some_iff.1 h).1
 rw [List.getElem?_set]
 by_cases hj:i=j
 ·subst hj
  rw [if_pos rfl,adF,if_pos hi,ajT h,if_pos (Nat.lt_succ_self _)]
 ·rw [if_neg hj]
  unfold zF
  rw [List.getElem?_mapIdx,List.getElem?_mapIdx]
  congr 1
  funext y
  by_cases h1:j<i
  ·rw [if_pos h1,if_pos (by omega)]
  ·rw [if_neg h1,if_neg (by omega)]
theorem aBB(g:Nat→Nat→Nat)(l:List Nat):zF g l.length l=l.mapIdx g:=by
 refine List.ext_getElem? fun j=>?_
 unfold zF
 rw [List.getElem?_mapIdx,List.getElem?_mapIdx]
 cases h:l[j]? with
 |none=>rfl
 |some x=>simp [(List.getElem?_eq_some_iff.1 h).1]
theorem apq{β:Type}{step:(Int×List Int)→Tre ((Int×List Int) ⊕ β)}(g:Nat→Nat→Nat)(l:List Nat)(fin:List Int→β)
  (hs:∀(i:Nat) x,l[i]?=some x→(step ((i:Int),up (zF g i l))).run some=some (.inl (((i+1:Nat):Int),up (zF g (i+1) l))))
  (he:(step ((l.length:Int),up (zF g l.length l))).run some=some (.inr (fin (up (zF g l.length l))))):aL step (0,up l)=some (fin (up (l.mapIdx g))):=by
 have key:∀(n i:Nat),i+n=l.length→aL step ((i:Int),up (zF g i l))=some (fin (up (l.mapIdx g))):=by
  intro n
  induction n with
  |zero=>
   intro i hi
   have:i=l.length:=hi
   subst this
   rw [←aBB]
   exact fE he
  |succ n ih=>
   intro i hi
   have h1:i<l.length:=by omega
   rw [lJ (hs i l[i] (List.getElem?_eq_getElem h1))]
   exact ih (i+1) (by omega)
 have:=key l.length 0 (by omega)
 rw [azi] at this
 exact this
theorem aqO(f:Nat→Nat)(l:List Nat):l.mapIdx (fun _ x=>f x)=l.map f:=by
 refine List.ext_getElem? fun i=>?_
 simp
theorem aqP{A B:List Nat}{r k:Nat}{f:Nat→Nat}{g:Nat→Nat→Nat}(hk:A.length=k)(hg:∀i x,i≠k→g i x=f x)(hr:g k r=r):(A++r::B).mapIdx g=A.map f++r::B.map f:=by
 subst hk
 refine List.ext_getElem? fun i=>?_
 rw [List.getElem?_mapIdx]
 rcases Nat.lt_trichotomy i A.length with h|h|h
 ·rw [List.getElem?_append_left h,List.getElem?_append_left (by simpa using h),List.getElem?_map]
  congr 1
  funext x
  exact hg i x (by omega)
 ·subst h
  rw [List.getElem?_append_right (Nat.le_refl _),List.getElem?_append_right (by simp)]
  simp [hr]
 ·rw [List.getElem?_append_right (by omega),List.getElem?_append_right (by simp;omega),List.length_map]
  obtain ⟨n,hn⟩:∃n,i-A.length=n+1:=⟨i-A.length-1,by omega⟩
  rw [hn,List.getElem?_cons_succ,List.getElem?_cons_succ,List.getElem?_map]
  congr 1
  funext x
  exact hg i x (by omega)
theorem yT{α:Type}(p:α→Bool):∀(l:List α)(i:Nat),(nI p i l = -1∧∀x∈l,p x=false)∨∃k x,l[k]?=some x∧p x=true∧nI p i l=((i+k:Nat):Int):=by
 intro l
 induction l with
 |nil=>intro i;exact .inl ⟨rfl,fun x hx=>by cases hx⟩
 |cons a l ih=>
  intro i
  simp only [nI]
  cases ha:p a
  ·rcases ih (i+1) with ⟨h1,h2⟩|⟨k,x,h1,h2,h3⟩
   ·exact .inl ⟨h1,fun x hx=>by
     cases hx with
     |head=>exact ha
     |tail _ hx=>exact h2 x hx⟩
   ·exact .inr ⟨k+1,x,h1,h2,by rw [cond_false,h3];congr 1;omega⟩
  ·exact .inr ⟨0,a,rfl,ha,rfl⟩
theorem aq0{α ρ R:Type}{xs:List α}{i:Nat}{x:α}{k:α→Tre ρ}{c:ρ→Option R}(h:xs[i]?=some x) :
  (Tre.ite (0≤(i:Int)∧(i:Int)<(xs.length:Int)) (.mat xs[i]? k)).run c=(k x).run c:=by
 have hi:i<xs.length:=(List.getElem?_eq_some_iff.1 h).1
 rw [Tre.run_ite,if_pos ⟨by omega,by omega⟩,Tre.jl,h]
 rfl
def Dr(b:Nat)(xs:List Int):Bool:=decide (xs.length≤1048576)&&xs.all fun x=>decide (0≤x)&&decide (x<((2 ^ b:Nat):Int))
theorem agj{b:Nat}{xs:List Int}(h:Dr b xs=true):∃ns:List Nat,xs=up ns∧ns.length≤1048576∧(∀n∈ns,n<2 ^ b)∧xs.map Int.toNat=ns:=by
 unfold Dr at h
 simp only [Bool.and_eq_true,decide_eq_true_eq,List.all_eq_true] at h
 refine ⟨xs.map Int.toNat,?_,by simpa using h.1,?_,rfl⟩
 ·unfold up
  rw [List.map_map]
  exact ((List.map_congr_left (g:=id) fun x hx=>Int.toNat_of_nonneg (h.2 x hx).1).trans (List.map_id _)).symm
 ·intro n hn
  obtain ⟨x,hx,rfl⟩:=List.mem_map.1 hn
  have:=h.2 x hx
  omega
theorem Pe{b:Nat}{ns:List Nat}(h1:ns.length≤1048576)(h2:∀n∈ns,n<2 ^ b):Dr b (up ns)=true:=by
 unfold Dr
 simp only [Bool.and_eq_true,decide_eq_true_eq,List.all_eq_true]
 refine ⟨by simpa using h1,fun x hx=>?_⟩
 obtain ⟨n,hn,rfl⟩:=List.mem_map.1 hx
 have:=h2 n hn
 omega
def NW (xs:List Int):List Int:=up (ech (xs.map Int.toNat))
theorem up_toNat(ns:List Nat):(up ns).map Int.toNat=ns:=by
 unfold up
 rw [List.map_map]
 exact (List.map_congr_left (g:=id) fun x _=>rfl).trans (List.map_id _)
theorem aqW{b c:Nat}(h:b≤c):2 ^ b≤2 ^ c:=Nat.pow_le_pow_right (by decide) h
theorem aCf{m:Nat}(h:m≤62):aCe (m:Int)=((2 ^ m-1:Nat):Int):=by
 have h1:=aqW h
 have h2:0<2 ^ m:=Nat.two_pow_pos m
 unfold aCe F7
 rw [Int.toNat_natCast,show min m (IntKind.bits .i64)=m from Nat.min_eq_left (by show m≤64;omega),Int.one_mul]
 have h3:(2:Int) ^ m=((2 ^ m:Nat):Int):=by push_cast;rfl
 rw [h3]
 show aJ .i64 (aJ .i64 _-1)=_
 rw [Dj (by omega),show ((2 ^ m:Nat):Int)-1=((2 ^ m-1:Nat):Int) from by omega,Dj (by omega)]
theorem axo{m:Nat}{x:Int}(h:m≤62)(hx:inP (m:Int) x=true):∃n:Nat,x=(n:Int)∧n<2 ^ m:=by
 unfold inP at hx
 rw [gX,aCf h] at hx
 have h2:0<2 ^ m:=Nat.two_pow_pos m
 exact ⟨x.toNat,by omega,by omega⟩
def aCc(a:Int)(xs:List Int):Int:=nH (β:=Int) (fun (i:Nat) acc x=>.inl (cond (nO a (i:Int)) (iD .i64 acc x) acc)) id 0 0 xs
def marks(k:Int)(n:Nat):List Int:=(List.range' 0 n).map fun i:Nat=>k+(i:Int)
theorem asF{α β:Type}(k:Int)(fin:List Int→β):∀(l:List α)(i:Nat)(acc:List Int),acc.length=i+l.length→nH (fun i acc _=>(.inl (acc.set i (k+(i:Int))):List Int ⊕ β)) fin i acc l=fin (acc.take i++(List.range' i l.length).map fun i:Nat=>k+(i:Int)):=by
 intro l
 induction l with
 |nil=>intro i acc h;simp only [nH,List.length_nil,List.range'_zero,List.map_nil,List.append_nil];rw [List.take_of_length_le (by simp at h;omega)]
 |cons x l ih=>
  intro i acc h
  simp only [nH]
  simp only [List.length_cons] at h
  rw [ih (i+1) (acc.set i (k+(i:Int))) (by simp;omega)]
  congr 1
  rw [List.take_set,List.take_add_one]
  have hi:i<acc.length:=by omega
  rw [List.getElem?_eq_getElem hi,List.set_append,List.length_cons,List.range'_succ]
  simp [List.length_take,Nat.min_eq_left (Nat.le_of_lt hi)]
end Go.Abs
namespace Go.Abs
end Go.Abs
namespace Go.Abs
end Go.Abs
namespace Go.Abs
def oV:List Nat→List Nat
 |[]=>[0]
 |x::l=>oV l++(oV l).map (x ^^^ ·)
theorem ana:∀l:List Nat,(oV l).length=2 ^ l.length:=by
 intro l
 induction l with
 |nil=>rfl
 |cons x l ih=>simp only [oV,List.length_append,List.length_map,ih,List.length_cons,Nat.pow_succ];omega
theorem au1:∀l:List Nat,0∈oV l:=by
 intro l
 induction l with
 |nil=>simp [oV]
 |cons x l ih=>exact List.mem_append.2 (.inl ih)
theorem ab9(a b:Nat):a^^^(a^^^b)=b:=by rw [←Nat.xor_assoc,Nat.xor_self,Nat.zero_xor]
theorem awS:∀{l:List Nat}{r v:Nat},r∈l→v∈oV l→r^^^v∈oV l:=by
 intro l
 induction l with
 |nil=>intro r v hr;cases hr
 |cons x l ih=>
  intro r v hr hv
  simp only [oV,List.mem_append,List.mem_map] at hv ⊢
  cases hr with
  |head=>
   rcases hv with hv|⟨w,hw,rfl⟩
   ·exact .inr ⟨v,hv,rfl⟩
   ·exact .inl (by rw [ab9];exact hw)
  |tail _ hr=>
   rcases hv with hv|⟨w,hw,rfl⟩
   ·exact .inl (ih hr hv)
   ·exact .inr ⟨r^^^w,ih hr hw,by rw [←Nat.xor_assoc,Nat.xor_comm x r,Nat.xor_assoc]⟩
theorem Sp.sums{l:List Nat}{v:Nat}(h:Sp l v):v∈oV l:=by
 induction h with
 |zero=>exact au1 l
 |add hr _ ih=>exact awS hr ih
theorem aj1:∀{l:List Nat}{v:Nat},v∈oV l→Sp l v:=by
 intro l
 induction l with
 |nil=>intro v hv;simp only [oV,List.mem_singleton] at hv;subst hv;exact .zero
 |cons x l ih=>
  intro v hv
  simp only [oV,List.mem_append,List.mem_map] at hv
  have hs:∀{w},Sp l w→Sp (x::l) w:=fun h=>h.trans fun r hr=>Sp.mem (.tail _ hr)
  rcases hv with hv|⟨w,hw,rfl⟩
  ·exact hs (ih hv)
  ·exact .add (.head _) (hs (ih hw))
theorem au2{p:Nat}:∀{l:List Nat}{v:Nat},(∀r∈l,r.testBit p=false)→v∈oV l→v.testBit p=false:=by
 intro l
 induction l with
 |nil=>intro v _ hv;simp only [oV,List.mem_singleton] at hv;subst hv;simp
 |cons x l ih=>
  intro v h hv
  simp only [oV,List.mem_append,List.mem_map] at hv
  rcases hv with hv|⟨w,hw,rfl⟩
  ·exact ih (fun r hr=>h r (.tail _ hr)) hv
  ·rw [Nat.testBit_xor,h x (.head _),ih (fun r hr=>h r (.tail _ hr)) hw];rfl
theorem Red.nodup{c:Nat}:∀{E:List (Nat×Nat)},Red c E→(oV (E.map (·.2))).Nodup:=by
 intro E
 induction E with
 |nil=>intro _;simp [oV]
 |cons a l ih=>
  intro h
  have hp:=(List.pairwise_cons.1 h.2).1
  have hl:∀r∈l.map (·.2),r.testBit a.1=false:=by
   intro r hr
   obtain ⟨b,hb,rfl⟩:=List.mem_map.1 hr
   exact ((h.1 b (.tail _ hb)).2).2 a.1 (hp b hb).1
  have ha:a.2.testBit a.1=true:=(h.1 a (.head _)).2.1
  simp only [List.map_cons,oV]
  rw [List.nodup_append]
  refine ⟨ih h.tail,?_,?_⟩
  ·rw [List.nodup_iff_pairwise_ne]
   refine List.pairwise_map.2 ((List.nodup_iff_pairwise_ne.1 (ih h.tail)).imp ?_)
   intro x y hxy hne
   exact hxy (by rw [←ab9 a.2 x,hne,ab9])
  ·intro x hx y hy hxy
   obtain ⟨w,hw,rfl⟩:=List.mem_map.1 hy
   have h1:=au2 hl hx
   have h2:=au2 hl hw
   rw [hxy,Nat.testBit_xor,ha,h2] at h1
   cases h1
theorem aBt{α:Type} [DecidableEq α]:∀{l l':List α},l.Nodup→(∀x∈l,x∈l')→l.length≤l'.length:=by
 intro l
 induction l with
 |nil=>intro l' _ _;exact Nat.zero_le _
 |cons x l ih=>
  intro l' hn hs
  rw [List.nodup_cons] at hn
  have hx:=hs x (.head _)
  have:=ih (l':=l'.erase x) hn.2 (fun y hy=>by
   have hne:y≠x:=by rintro rfl;exact hn.1 hy
   exact (List.mem_erase_of_ne hne).2 (hs y (.tail _ hy)))
  rw [List.length_erase_of_mem hx] at this
  have hpos:0<l'.length:=List.length_pos_of_mem hx
  simp only [List.length_cons]
  omega
theorem kK.le{rows E:List Nat}(h:kK rows E):E.length≤rows.length:=by
 obtain ⟨P,c,hr,rfl,hs⟩:=h
 have:=aBt hr.nodup (fun x hx=>((hs x).2 (aj1 hx)).sums)
 rw [ana,ana] at this
 exact (Nat.pow_le_pow_iff_right (by decide)).1 this
theorem Sp.map{rows:List Nat}{f:Nat→Nat}(h0:f 0=0)(hf:∀a b,f (a^^^b)=f a^^^f b){v:Nat}(h:Sp rows v):Sp (rows.map f) (f v):=by
 induction h with
 |zero=>rw [h0];exact .zero
 |add hr _ ih=>rw [hf];exact .add (List.mem_map.2 ⟨_,hr,rfl⟩) ih
end Go.Abs
namespace Go.Abs
def uy(h:Nat):Nat→List Nat→Nat
 |_,[]=>0
 |i,x::l=>cond (h.testBit i) x 0^^^uy h (i+1) l
theorem apB{h:Nat}:∀(l:List Nat)(i:Nat),(∀q,i≤q→h.testBit q=false)→uy h i l=0:=by
 intro l
 induction l with
 |nil=>intro i _;rfl
 |cons x l ih=>
  intro i hq
  simp only [uy]
  rw [hq i (Nat.le_refl i),ih (i+1) fun q h=>hq q (by omega),cond_false,Nat.xor_self]
theorem ag5(l:List Nat)(i:Nat):uy 0 i l=0:=apB l i fun q _=>Nat.zero_testBit q
theorem aCp(x a b:Nat):a^^^b=(x^^^a)^^^(x^^^b):=by
 rw [Nat.xor_comm x a,Nat.xor_assoc,←Nat.xor_assoc x x b,Nat.xor_self,Nat.zero_xor]
theorem auU(a b:Nat):∀(l:List Nat)(i:Nat),uy (a^^^b) i l=uy a i l^^^uy b i l:=by
 intro l
 induction l with
 |nil=>intro i;exact (Nat.xor_self 0).symm
 |cons x l ih=>
  intro i
  simp only [uy]
  rw [ih,Nat.testBit_xor]
  cases a.testBit i<;>cases b.testBit i
  ·simp only [Bool.xor_false,cond_false,Nat.zero_xor]
  ·simp only [Bool.false_xor,cond_true,cond_false,Nat.zero_xor]
   rw [Nat.xor_comm,Nat.xor_assoc,Nat.xor_comm (uy b (i+1) l)]
  ·simp only [Bool.xor_false,cond_true,cond_false,Nat.zero_xor]
   rw [Nat.xor_assoc]
  ·simp only [Bool.xor_self,cond_true,cond_false,Nat.zero_xor]
   exact aCp x _ _
theorem auT:∀(l:List Nat)(i j:Nat){x:Nat},l[j]?=some x→uy (2 ^ (i+j)) i l=x:=by
 intro l
 induction l with
 |nil=>intro i j x h;simp at h
 |cons y l ih=>
  intro i j x h
  simp only [uy]
  cases j with
  |zero=>
   simp only [List.getElem?_cons_zero,Option.some.injEq] at h
   subst h
   rw [Nat.add_zero,Nat.testBit_two_pow_self,cond_true,apB l (i+1) fun q hq=>by rw [Nat.testBit_two_pow];exact decide_eq_false (by omega),Nat.xor_zero]
  |succ j=>
   simp only [List.getElem?_cons_succ] at h
   rw [Nat.testBit_two_pow,decide_eq_false (by omega),cond_false,Nat.zero_xor,show i+(j+1)=i+1+j by omega]
   exact ih (i+1) j h
theorem awV{a b:Nat}(ha:a<2 ^ 63)(hb:b≤62):∀(ns:List Nat)(i acc:Nat),i+ns.length≤64→acc<2 ^ b→(∀n∈ns,n<2 ^ b) →
  nH (β:=Int) (fun (i:Nat) acc x=>.inl (cond (nO (a:Int) (i:Int)) (iD .i64 acc x) acc)) id i (acc:Int) (up ns)=((acc^^^uy a i ns:Nat):Int):=by
 intro ns
 have hp:=aqW hb
 induction ns with
 |nil=>intro i acc _ _ _;simp [uy,nH,up]
 |cons n ns ih=>
  intro i acc hi hacc hn
  simp only [List.length_cons] at hi
  have h1:=hn n (.head _)
  show nH _ id (i+1) (cond (nO (a:Int) (i:Int)) (iD .i64 (acc:Int) (n:Int)) (acc:Int)) (up ns)=_
  rw [vC ha (by omega)]
  simp only [uy]
  cases a.testBit i
  ·rw [cond_false,cond_false,Nat.zero_xor]
   exact ih (i+1) acc (by omega) hacc fun x hx=>hn x (.tail _ hx)
  ·rw [cond_true,cond_true,mV (by omega) (by omega),ih (i+1) (acc^^^n) (by omega) (Nat.xor_lt_two_pow hacc h1) fun x hx=>hn x (.tail _ hx),Nat.xor_assoc]
theorem azP{a b:Nat}{ns:List Nat}(ha:a<2 ^ 63)(hb:b≤62)(hl:ns.length≤64)(hn:∀n∈ns,n<2 ^ b):aCc (a:Int) (up ns)=((uy a 0 ns:Nat):Int):=by
 have:=awV ha hb ns 0 0 (by omega) (Nat.two_pow_pos b) hn
 rw [Nat.zero_xor] at this
 exact this
structure acf(N:Nat)(S:List Nat):Prop where
 len:S.length=N
 head:∀i x,S[i]?=some x→x&&&(2 ^ N-1)=2 ^ i
theorem acf.bit{N:Nat}{S:List Nat}(h:acf N S){i x q:Nat}(hx:S[i]?=some x)(hq:q<N):x.testBit q=decide (i=q):=by
 have:=congrArg (·.testBit q) (h.head i x hx)
 simpa [Nat.testBit_and,Nat.testBit_two_pow_sub_one,Nat.testBit_two_pow,hq] using this
theorem acf.back{N:Nat}{S:List Nat}(h:acf N S){v:Nat}(hv:Sp S v):uy (v&&&(2 ^ N-1)) 0 S=v:=by
 induction hv with
 |zero=>rw [Nat.zero_and,ag5]
 |add hr _ ih=>
  obtain ⟨i,hi⟩:=List.getElem?_of_mem hr
  rw [Nat.and_xor_distrib_right,auU,ih,h.head i _ hi]
  have:=auT S 0 i hi
  rw [Nat.zero_add] at this
  rw [this]
theorem am7:∀(l:List (Nat×Nat))(lo b:Nat),(l.Pairwise fun a b=>a.1<b.1)→(∀a∈l,lo≤a.1∧a.1<b)→l.length≤b-lo:=by
 intro l
 induction l with
 |nil=>intro lo b _ _;exact Nat.zero_le _
 |cons a l ih=>
  intro lo b h hb
  obtain ⟨h1,h2⟩:=List.pairwise_cons.1 h
  have:=ih (a.1+1) b h2 fun x hx=>⟨h1 x hx,(hb x (.tail _ hx)).2⟩
  have h0:=hb a (.head _)
  simp only [List.length_cons]
  omega
theorem aeQ:∀(l:List (Nat×Nat))(lo:Nat),(l.Pairwise fun a b=>a.1<b.1)→(∀a∈l,lo≤a.1∧a.1<lo+l.length)→∀(i:Nat)(a:Nat×Nat),l[i]?=some a→a.1=lo+i:=by
 intro l
 induction l with
 |nil=>intro lo _ _ i a h;simp at h
 |cons b l ih=>
  intro lo h hb i a ha
  obtain ⟨h1,h2⟩:=List.pairwise_cons.1 h
  simp only [List.length_cons] at hb
  have h0:=hb b (.head _)
  have hl:=am7 l (b.1+1) (lo+(l.length+1)) h2 fun x hx=>⟨h1 x hx,(hb x (.tail _ hx)).2⟩
  have hb0:b.1=lo:=by omega
  cases i with
  |zero=>simp only [List.getElem?_cons_zero,Option.some.injEq] at ha;subst ha;exact hb0
  |succ i=>
   simp only [List.getElem?_cons_succ] at ha
   rw [ih (lo+1) h2 (fun x hx=>⟨by have:=h1 x hx;omega,by have:=(hb x (.tail _ hx)).2;omega⟩) i a ha]
   omega
theorem acf.full{N:Nat}{S rows E:List Nat}(h:acf N S)(hs:∀r∈rows,Sp S r)(he:kK rows E)(hl:E.length=N):E=S:=by
 obtain ⟨P,c,hr,rfl,hsp⟩:=he
 rw [List.length_map] at hl
 have hin:∀a∈P,Sp S a.2:=fun a ha=>Sp.trans hs ((hsp a.2).2 (Sp.mem (List.mem_map.2 ⟨a,ha,rfl⟩)))
 have hpos:∀a∈P,a.1<N:=fun a ha=>by
  refine Nat.lt_of_not_le fun hge=>?_
  have h0:a.2&&&(2 ^ N-1)=0:=by
   refine Nat.eq_of_testBit_eq fun q=>?_
   rw [Nat.testBit_and,Nat.testBit_two_pow_sub_one,Nat.zero_testBit]
   by_cases hq:q<N
   ·rw [(hr.1 a ha).2.2 q (by omega)];rfl
   ·rw [decide_eq_false hq,Bool.and_false]
  have h1:=h.back (hin a ha)
  rw [h0,ag5] at h1
  have h2:=(hr.1 a ha).2.1
  rw [←h1,Nat.zero_testBit] at h2
  cases h2
 have hidx:=aeQ P 0 (hr.2.imp fun h=>h.1) fun a ha=>⟨Nat.zero_le _,by have:=hpos a ha;omega⟩
 refine List.ext_getElem? fun i=>?_
 rw [List.getElem?_map]
 cases ha:P[i]? with
 |none=>
  have hi:=List.getElem?_eq_none_iff.1 ha
  rw [List.getElem?_eq_none_iff.2 (show S.length≤i by have:=h.len;omega)]
  rfl
 |some a=>
  have hi:i<P.length:=(List.getElem?_eq_some_iff.1 ha).1
  have ham:=List.mem_of_getElem? ha
  have ha1:a.1=i:=by rw [hidx i a ha];omega
  have hiS:i<S.length:=by have:=h.len;omega
  have hx:S[i]?=some S[i]:=List.getElem?_eq_getElem hiS
  have hhead:a.2&&&(2 ^ N-1)=2 ^ i:=by
   refine Nat.eq_of_testBit_eq fun q=>?_
   rw [Nat.testBit_and,Nat.testBit_two_pow_sub_one,Nat.testBit_two_pow]
   by_cases hq:q<N
   ·rw [decide_eq_true hq,Bool.and_true]
    by_cases hqi:i=q
    ·subst hqi;rw [decide_eq_true rfl,←ha1];exact (hr.1 a ham).2.1
    ·have hb:P[q]?=some P[q]:=List.getElem?_eq_getElem (by omega)
     have hb1:P[q].1=q:=by rw [hidx q _ hb];omega
     have:=hr.apart ham (List.mem_of_getElem? hb) (by omega)
     rw [hb1] at this
     rw [this,decide_eq_false hqi]
   ·rw [decide_eq_false hq,Bool.and_false,decide_eq_false (by omega)]
  have h1:=h.back (hin a ham)
  have h2:=auT S 0 i hx
  rw [Nat.zero_add] at h2
  rw [hhead,h2] at h1
  rw [hx,Option.map_some,h1]
theorem acf.ech{N:Nat}{S:List Nat}(h:acf N S):kK S S:=by
 refine ⟨(List.range N).zip S,N,⟨fun a ha=>?_,?_⟩,?_,fun v=>Iff.rfl⟩
 ·obtain ⟨i,hi⟩:=List.getElem?_of_mem ha
  rw [List.getElem?_zip_eq_some] at hi
  obtain ⟨h1,h2⟩:=hi
  have hiN:i<N:=by have:=(List.getElem?_eq_some_iff.1 h1).1;simpa using this
  rw [List.getElem?_range hiN,Option.some.injEq] at h1
  refine ⟨by omega,by rw [h.bit h2 (by omega)];exact decide_eq_true h1,fun q hq=>by rw [h.bit h2 (by omega)];exact decide_eq_false (by omega)⟩
 ·rw [List.pairwise_iff_getElem]
  intro i j hi hj hij
  simp only [List.length_zip,List.length_range,h.len,Nat.min_self] at hi hj
  simp only [List.getElem_zip,List.getElem_range]
  refine ⟨hij,?_⟩
  rw [h.bit (List.getElem?_eq_getElem (by have:=h.len;omega)) hj]
  exact decide_eq_false (by omega)
 ·exact List.map_snd_zip (by simp [h.len])
theorem kK.heads{N:Nat}{rows E A:List Nat}(h:kK rows E)(hA:kK (rows.map (· &&& (2 ^ N-1))) A)(hE:E.length=N)(hAl:A.length=N):acf N E:=by
 obtain ⟨P,c,hr,rfl,hs⟩:=h
 rw [List.length_map] at hE
 have hlow:∀a∈P,a.1<N:=by
  intro a ha
  refine Decidable.byContradiction fun hn=>?_
  have hz:∀q,q<N→a.2.testBit q=false:=fun q hq=>(hr.1 a ha).2.2 q (by omega)
  have hza:a.2&&&(2 ^ N-1)=0:=by
   refine Nat.eq_of_testBit_eq fun q=>?_
   rw [Nat.testBit_and,Nat.testBit_two_pow_sub_one,Nat.zero_testBit]
   by_cases hq:q<N
   ·rw [hz q hq];rfl
   ·simp [hq]
  have hA2:kK (((P.erase a).map (·.2)).map (· &&& (2 ^ N-1))) A:=by
   obtain ⟨Q,d,h1,h2,h3⟩:=hA
   refine ⟨Q,d,h1,h2,fun v=>Iff.trans ⟨fun hv=>?_,fun hv=>?_⟩ (h3 v)⟩
   ·refine Sp.trans (fun x hx=>?_) hv
    obtain ⟨y,hy,rfl⟩:=List.mem_map.1 hx
    obtain ⟨b,hb,rfl⟩:=List.mem_map.1 hy
    have:=((hs b.2).2 (Sp.mem (List.mem_map.2 ⟨b,List.mem_of_mem_erase hb,rfl⟩))).map (f:=(· &&& (2 ^ N-1))) (Nat.zero_and _) (fun a b=>Nat.and_xor_distrib_right)
    exact this
   ·have key:∀w,Sp (P.map (·.2)) w→Sp (((P.erase a).map (·.2)).map (· &&& (2 ^ N-1))) (w&&&(2 ^ N-1)):=by
     intro w hw
     induction hw with
     |zero=>rw [Nat.zero_and];exact .zero
     |add hx _ ih=>
      obtain ⟨b,hb,rfl⟩:=List.mem_map.1 hx
      rw [Nat.and_xor_distrib_right]
      by_cases hba:b=a
      ·rw [hba,hza,Nat.zero_xor];exact ih
      ·exact .add (List.mem_map.2 ⟨b.2,List.mem_map.2 ⟨b,(List.mem_erase_of_ne hba).2 hb,rfl⟩,rfl⟩) ih
    refine Sp.trans (fun x hx=>?_) hv
    obtain ⟨r,hr2,rfl⟩:=List.mem_map.1 hx
    exact key r ((hs r).1 (Sp.mem hr2))
  have:=hA2.le
  rw [List.length_map,List.length_map,List.length_erase_of_mem ha] at this
  have:=List.length_pos_of_mem ha
  omega
 have hsort:=hr.2.imp (S:=fun a b:Nat×Nat=>a.1<b.1) fun h=>h.1
 have hat:=aeQ P 0 hsort fun a ha=>⟨Nat.zero_le _,by have:=hlow a ha;omega⟩
 refine ⟨by rw [List.length_map];exact hE,fun i x hx=>?_⟩
 rw [List.getElem?_map] at hx
 obtain ⟨a,ha,rfl⟩:=Option.map_eq_some_iff.1 hx
 have hai:=hat i a ha
 have ham:=List.mem_of_getElem? ha
 have hiN:=hlow a ham
 refine Nat.eq_of_testBit_eq fun q=>?_
 rw [Nat.testBit_and,Nat.testBit_two_pow_sub_one,Nat.testBit_two_pow]
 by_cases hq:q<N
 ·obtain ⟨b,hb⟩:∃b,P[q]?=some b:=⟨_,List.getElem?_eq_getElem (by omega)⟩
  have hbq:=hat q b hb
  by_cases hiq:i=q
  ·subst hiq
   have:=(hr.1 a ham).2.1
   rw [show a.1=i by omega] at this
   simp [this,hq]
  ·have:=hr.apart ham (List.mem_of_getElem? hb) (by omega)
   rw [show b.1=q by omega] at this
   simp [this,hiq]
 ·have:i≠q:=by omega
  simp [hq,this]
end Go.Abs
namespace Go.Abs
end Go.Abs
namespace Go.Abs
abbrev K.n:K:=.int .i64
abbrev K.il:K:=.sl (.int .i64)
abbrev AV.i(x:Int):AV:=.imm true (.int .i64) x
section
variable {R R' : Type} {r : R'} {g : R → Option R'}
theorem bZ{k:K}{a:AV}{c:Bool→k.den→Tre R}{W:Prop}(h:∀z d,(c z d).run g=some r→a=.imm z k d→W)(e:(bg k a c).run g=some r):W:=
 let ⟨z,d,e1,e2⟩:=fG e
 h z d e2 e1
theorem aH{z0:Bool}{k:K}{a:AV}{c:k.den→Tre R}{W:Prop}(h:∀d,(c d).run g=some r→a=.imm z0 k d→W)(e:(ay z0 k a c).run g=some r):W:=
 let ⟨d,e1,e2⟩:=cu e
 h d e2 e1
theorem aEv{k:K}{a:AV}{c:Bool→k.den→Tre R}{W:Prop}(h:∀z d,(c z d).run g=some r→a=.iptr z (.sl k) [d] [.idx 0]→W)(e:(akf k a c).run g=some r):W:=
 let ⟨z,d,e1,e2⟩:=ar2 e
 h z d e2 e1
theorem tNn{e:K}{a:AV}{c:Bool→List e.den→Tre R}{W:Prop}(h:∀z d,(c z d).run g=some r→a=.nn z e d→W)(e:(aCv e a c).run g=some r):W:=
 let ⟨z,d,e1,e2⟩:=ayl e
 h z d e2 e1
theorem fu{q:aC}{p:Path}{a:AV}{c:Tre R}{W:Prop}(h:(c).run g=some r→a=.ref q p→W)(e:(dF q p a c).run g=some r):W:=
 let ⟨e1,e2⟩:=Qi e
 h e2 e1
theorem aye{q:aC}{t:Path}{a:AV}{c:Nat→Tre R}{W:Prop}(h:∀n,(c n).run g=some r→a=.ref q (axh t n)→W)(e:(aau q t a c).run g=some r):W:=
 let ⟨n,e1,e2⟩:=ar4 e
 h n e2 e1
theorem gL{q:aC}{p:Path}{a:AV}{c:Tre R}{W:Prop}(h:(c).run g=some r→a=.ptr q p→W)(e:(dR q p a c).run g=some r):W:=
 let ⟨e1,e2⟩:=Qh e
 h e2 e1
theorem tFn{f:Nat}{caps:List aC}{a:AV}{c:Tre R}{W:Prop}(h:(c).run g=some r→a=.fn f caps→W)(e:(Ua f caps a c).run g=some r):W:=
 let ⟨e1,e2⟩:=CJ e
 h e2 e1
theorem aHm{a:AV}{c:Tre R}{W:Prop}(h:(c).run g=some r→a=.nil→W)(e:(aw7 a c).run g=some r):W:=
 let ⟨e1,e2⟩:=avf e
 h e2 e1
theorem ayd{a:AV}{c:AV→AV→Tre R}{W:Prop}(h:∀x y,(c x y).run g=some r→a=.pair x y→W)(e:(aat a c).run g=some r):W:=
 let ⟨x,y,e1,e2⟩:=ar3 e
 h x y e2 e1
theorem aK{α:Type}{l:List α}{c:α→List α→Tre R}{W:Prop}(h:∀x y,(c x y).run g=some r→l=x::y→W)(e:(aD l c).run g=some r):W:=
 let ⟨x,y,e1,e2⟩:=ahd e
 h x y e2 e1
theorem bn{α:Type}{l:List α}{c:Tre R}{W:Prop}(h:(c).run g=some r→l=[]→W)(e:(aN l c).run g=some r):W:=
 let ⟨e1,e2⟩:=aas e
 h e2 e1
theorem tRt{mem:Bool}{k:K}{x:Root}{c:Mask→k.den→Tre R}{W:Prop}(h:∀m d,(c m d).run g=some r→x=⟨mem,k,m,d⟩→W)(e:(wQ mem k x c).run g=some r):W:=
 let ⟨m,d,e1,e2⟩:=aoH e
 h m d e2 e1
theorem bT{mem:Bool}{k:K}{o:Option Root}{c:Mask→k.den→Tre R}{W:Prop}(h:∀m d,(c m d).run g=some r→o=some ⟨mem,k,m,d⟩→W)(e:(aZ mem k o c).run g=some r):W:=
 let ⟨m,d,e1,e2⟩:=gQ e
 h m d e2 e1
theorem tM{m0 m:Mask}{c:Tre R}{W:Prop}(h:(c).run g=some r→m=m0→W)(e:(asM m0 m c).run g=some r):W:=
 let ⟨e1,e2⟩:=uI e
 h e2 e1
theorem zU{m:Mask}{c:Bool→Tre R}{W:Prop}(h:∀z,(c z).run g=some r→m=.imm z→W)(e:(kr m c).run g=some r):W:=
 let ⟨z,e1,e2⟩:=KX e
 h z e2 e1
end
theorem bV{V:Env}{A:List (Nat×bA)}{a:Code}{kp kx:Keep}{D:St→Tre (Ex×St)} (h:∀(s:St)(e:Ex)(s':St),(D (restrict kp s)).run some=some (e,s') →
  ∃(σ β:Type) (mk:σ→St) (out:β→Ex×St) (step:σ→Tre (σ ⊕ β)) (x:σ) (b:β),restrict kp s=mk x∧aL step x=some b∧out b=(e,s') ∧
   ∀(x:σ)(c:St→Option (Ex×St)),den V A a (mk x) (bR kp kx c)=(step x).run (bS mk out c)):bP V A a ⟨kp,kx,D⟩:=fP h
theorem bJ{V:Env}{A:List (Nat×bA)}{a:Code}{kp kx:Keep}{σ β:Type}{mk:σ→St}{out:β→Ex×St}{step:σ→Tre (σ ⊕ β)}{s:St}{e:Ex×St}{x:σ}
  (h4:∀(x:σ)(c:St→Option (Ex×St)),den V A a (mk x) (bR kp kx c)=(step x).run (bS mk out c)) (h:(Tre.mat (aL step x) fun y=>Tre.ret (out y)).run some=some e) (h1:restrict kp s=mk x) :
  ∃(σ β:Type) (mk:σ→St) (out:β→Ex×St) (step:σ→Tre (σ ⊕ β)) (x:σ) (b:β),restrict kp s=mk x∧aL step x=some b∧out b=e ∧
   ∀(x:σ)(c:St→Option (Ex×St)),den V A a (mk x) (bR kp kx c)=(step x).run (bS mk out c):=by
 obtain ⟨y,hy,hz⟩:=ajR h
 exact ⟨σ,β,mk,out,step,x,y,h1,hy,Option.some.inj hz,h4⟩
def fnI(fn:Func)(A:List (Nat×bA)):FnI:=⟨fn.body.getD .skip,fn.results.toList,fn.resultTypes.toList,A⟩
def dD(rw:List Nat)(G:List AV→List Root→Tre au):Ctr:=⟨rw,fun ci=>G ci.args ci.roots,false⟩
theorem aB{P:Program}{V:Env}{Γ:Glb}{fn:Func}{A:List (Nat×bA)}{G:List AV→List Root→Tre au}{f:FuncId}{rw:List Nat}(hT:iy P V)(hE:aoC P Γ V)(hf:P.funcs[f]?=some fn)(hL:sU V A (fn.body.getD .skip))
  (h:∀av rs co,(G av rs).run some=some co→(Tre.mat (bL V (fnI fn A) ⟨av,rs⟩) Tre.ret).run some=some co) (hb:fn.body=some (fn.body.getD .skip):=by kernel_rfl)
  (hd:Et fn.ntmps (fn.body.getD .skip)=true:=by kernel_rfl):Contract P Γ f (dD rw G):=
 (ase (F:=fnI fn A) hT hE hf hb rfl hd hL rw).weaken fun ci co h'=>h ci.args ci.roots co h'
theorem bN{V:Env}{A:List (Nat×bA)}{c:Code}(h:(fK c).length=0:=by kernel_rfl):sU V A c:=atB h
theorem bF{V:Env}{A:List (Nat×bA)}{a:Code}{id:Nat}{L:bA}(h:bP V A a L)(h1:fq a=some id:=by kernel_rfl)(h2:iA id A=some L:=by kernel_rfl):∀i L',fq a=some i→iA i A=some L'→bP V A a L':=aza h1 h2 h
theorem bD{V:Env}{A:List (Nat×bA)}{c:Code}{n:Nat}(h:∀k,k<n→∀i L,fq (aR c k)=some i→iA i A=some L→bP V A (aR c k) L)(hn:(fK c).length=n:=by kernel_rfl):sU V A c:=atA hn h
end Go.Abs
namespace Go.Abs
open Go.Sort
structure aw4 where
 g:List Int→List Int
 len:∀d,(g d).length=d.length
 cut:Option (List Int→Nat)
 le:∀n,cut=some n→∀d,n d≤d.length
def aw4.res(o:aw4)(d:List Int):AV:=match o.cut with
 |none=>.tnil
 |some n=>.slc (0,0) [] 0 (n d)
def aw4.val(o:aw4)(d:List Int)(a:Option Addr)(cap:Nat):Value:=match o.cut with
 |none=>.tuple #[]
 |some n=>.slice a (n d) cap
def aAe(zs:List Int):Nat:=(Lib.compact zs).length
def uK(zs:List Int):List Int:=Lib.compact zs++List.replicate (zs.length-(Lib.compact zs).length) 0
theorem aAf(zs:List Int):aAe zs≤zs.length:=by
 unfold aAe Lib.compact Lib.compactUpTo
 rw [List.length_map]
 refine Nat.le_trans (List.length_filter_le _ _) ?_
 simp
theorem afa(zs:List Int):(uK zs).length=zs.length:=by
 have:=aAf zs
 unfold aAe at this
 unfold uK
 rw [List.length_append,List.length_replicate];omega
end Go.Abs
namespace Go.Proofs.YtihiobjhogpmdaaGreat
open Go Go.Abs Go.Proofs
abbrev aP:K:=(.pair .n (.pair .n .unit))
abbrev bC:K:=(.pair .n (.pair .il .unit))
abbrev aU:K:=(.pair aP (.pair .il (.pair .n .unit)))
abbrev gG:K:=(.pair aP (.pair .n (.pair (.sl .il) .unit)))
def tau:List (Nat×TI):=[(24,⟨.il,24,2⟩),(2,⟨.n,8,0⟩),(30,⟨aP,16,0⟩),(32,⟨aU,48,0⟩),(46,⟨bC,32,0⟩),(77,⟨(.sl .il),24,24⟩),(108,⟨gG,48,0⟩),(3,⟨.n,8,0⟩),(26,⟨aU,48,0⟩),(43,⟨bC,32,0⟩),(23,⟨aP,16,0⟩),(116,⟨.il,24,3⟩),(1,⟨.fn,8,0⟩),(4,⟨.bool,1,0⟩),(5,⟨(.int .u8),1,0⟩),(9,⟨.str,16,0⟩),(12,⟨(.int .u64),8,0⟩),(13,⟨(.pair .str (.pair (.int .u64) .unit)),24,0⟩),(21,⟨(.int .i32),4,0⟩),(22,⟨aP,16,0⟩),(25,⟨aU,48,0⟩),(27,⟨.fn,8,0⟩),(29,⟨.fn,8,0⟩),(31,⟨aU,48,0⟩),(33,⟨.fn,8,0⟩),(34,⟨.fn,8,0⟩),(35,⟨.fn,8,0⟩),(36,⟨.fn,8,0⟩),(37,⟨.fn,8,0⟩),(38,⟨.fn,8,0⟩),(39,⟨.fn,8,0⟩),(41,⟨.fn,8,0⟩),(42,⟨bC,32,0⟩),(44,⟨.fn,8,0⟩),(45,⟨.fn,8,0⟩),(47,⟨.fn,8,0⟩),(48,⟨.fn,8,0⟩),(49,⟨.fn,8,0⟩),(50,⟨.fn,8,0⟩),(51,⟨.fn,8,0⟩),(52,⟨.ptr,8,0⟩),(54,⟨.fn,8,0⟩),(55,⟨.fn,8,0⟩),(56,⟨.fn,8,0⟩),(58,⟨.fn,8,0⟩),(59,⟨.fn,8,0⟩),(60,⟨.fn,8,0⟩),(61,⟨.fn,8,0⟩),(62,⟨.fn,8,0⟩),(63,⟨.fn,8,0⟩),(64,⟨.fn,8,0⟩),(65,⟨.ptr,8,0⟩),(66,⟨.fn,8,0⟩),(67,⟨.fn,8,0⟩),(68,⟨.fn,8,0⟩),(70,⟨.fn,8,0⟩),(71,⟨.fn,8,0⟩),(72,⟨.fn,8,0⟩),(73,⟨.fn,8,0⟩),(74,⟨.fn,8,0⟩),(75,⟨.fn,8,0⟩),(76,⟨.fn,8,0⟩),(78,⟨.fn,8,0⟩),(79,⟨.fn,8,0⟩),(80,⟨.fn,8,0⟩),(81,⟨.fn,8,0⟩),(82,⟨.fn,8,0⟩),(83,⟨.fn,8,0⟩),(84,⟨.fn,8,0⟩),(85,⟨.fn,8,0⟩),(86,⟨.fn,8,0⟩),(87,⟨.fn,8,0⟩),(89,⟨.fn,8,0⟩),(90,⟨.fn,8,0⟩),(91,⟨.fn,8,0⟩),(92,⟨(.int .u64),8,0⟩),(93,⟨.fn,8,0⟩),(94,⟨.fn,8,0⟩),(95,⟨.fn,8,0⟩),(96,⟨.fn,8,0⟩),(97,⟨.fn,8,0⟩),(98,⟨.fn,8,0⟩),(99,⟨.fn,8,0⟩),(100,⟨.fn,8,0⟩),(101,⟨.fn,8,0⟩),(102,⟨.fn,8,0⟩),(103,⟨.fn,8,0⟩),(104,⟨.fn,8,0⟩),(105,⟨.fn,8,0⟩),(106,⟨.fn,8,0⟩),(107,⟨gG,48,0⟩),(109,⟨.fn,8,0⟩),(110,⟨.fn,8,0⟩),(111,⟨.fn,8,0⟩),(112,⟨.fn,8,0⟩),(113,⟨.fn,8,0⟩),(114,⟨.fn,8,0⟩),(115,⟨.fn,8,0⟩),(117,⟨.fn,8,0⟩),(118,⟨.fn,8,0⟩),(119,⟨.fn,8,0⟩),(120,⟨.fn,8,0⟩),(121,⟨.fn,8,0⟩),(127,⟨.fn,8,0⟩),(128,⟨(.int .u32),4,0⟩),(131,⟨.fn,8,0⟩),(132,⟨.ptr,8,0⟩),(137,⟨.fn,8,0⟩)]
theorem aV{E:List (Nat×Ctr)}{Z:List (Nat×List Frz)}:iy Tryz.prog ⟨tau,E,Z⟩:=aCm (aCl (by kernel_rfl)) (by kernel_rfl)
theorem aHg:Go.Abs.Enters Tryz.prog 7:=⟨Tryz.f7,Tryz.func7,by kernel_rfl,by kernel_rfl⟩
theorem aHh:Go.Abs.Enters Tryz.prog 9:=⟨Tryz.f9,Tryz.func9,by kernel_rfl,by kernel_rfl⟩
theorem aAw:Go.Abs.Enters Tryz.prog 10:=⟨Tryz.f10,Tryz.func10,by kernel_rfl,by kernel_rfl⟩
theorem aAA:Go.Abs.Enters Tryz.prog 12:=⟨Tryz.f12,Tryz.func12,by kernel_rfl,by kernel_rfl⟩
theorem aF0:Go.Abs.Enters Tryz.prog 13:=⟨Tryz.f13,Tryz.func13,by kernel_rfl,by kernel_rfl⟩
theorem aF1:Go.Abs.Enters Tryz.prog 14:=⟨Tryz.f14,Tryz.func14,by kernel_rfl,by kernel_rfl⟩
theorem aAD:Go.Abs.Enters Tryz.prog 15:=⟨Tryz.f15,Tryz.func15,by kernel_rfl,by kernel_rfl⟩
theorem aF2:Go.Abs.Enters Tryz.prog 16:=⟨Tryz.f16,Tryz.func16,by kernel_rfl,by kernel_rfl⟩
theorem aF3:Go.Abs.Enters Tryz.prog 19:=⟨Tryz.f19,Tryz.func19,by kernel_rfl,by kernel_rfl⟩
theorem aF4:Go.Abs.Enters Tryz.prog 21:=⟨Tryz.f21,Tryz.func21,by kernel_rfl,by kernel_rfl⟩
theorem aF5:Go.Abs.Enters Tryz.prog 23:=⟨Tryz.f23,Tryz.func23,by kernel_rfl,by kernel_rfl⟩
theorem aF6:Go.Abs.Enters Tryz.prog 24:=⟨Tryz.f24,Tryz.func24,by kernel_rfl,by kernel_rfl⟩
theorem aF7:Go.Abs.Enters Tryz.prog 25:=⟨Tryz.f25,Tryz.func25,by kernel_rfl,by kernel_rfl⟩
theorem aF8:Go.Abs.Enters Tryz.prog 26:=⟨Tryz.f26,Tryz.func26,by kernel_rfl,by kernel_rfl⟩
theorem aDV:Go.Abs.Enters Tryz.prog 27:=⟨Tryz.f27,Tryz.func27,by kernel_rfl,by kernel_rfl⟩
theorem aF9:Go.Abs.Enters Tryz.prog 28:=⟨Tryz.f28,Tryz.func28,by kernel_rfl,by kernel_rfl⟩
theorem aGa:Go.Abs.Enters Tryz.prog 29:=⟨Tryz.f29,Tryz.func29,by kernel_rfl,by kernel_rfl⟩
theorem aGb:Go.Abs.Enters Tryz.prog 30:=⟨Tryz.f30,Tryz.func30,by kernel_rfl,by kernel_rfl⟩
theorem aGc:Go.Abs.Enters Tryz.prog 31:=⟨Tryz.f31,Tryz.func31,by kernel_rfl,by kernel_rfl⟩
theorem aGd:Go.Abs.Enters Tryz.prog 32:=⟨Tryz.f32,Tryz.func32,by kernel_rfl,by kernel_rfl⟩
theorem aGe:Go.Abs.Enters Tryz.prog 33:=⟨Tryz.f33,Tryz.func33,by kernel_rfl,by kernel_rfl⟩
theorem aGf:Go.Abs.Enters Tryz.prog 34:=⟨Tryz.f34,Tryz.func34,by kernel_rfl,by kernel_rfl⟩
theorem aGg:Go.Abs.Enters Tryz.prog 35:=⟨Tryz.f35,Tryz.func35,by kernel_rfl,by kernel_rfl⟩
theorem aGh:Go.Abs.Enters Tryz.prog 36:=⟨Tryz.f36,Tryz.func36,by kernel_rfl,by kernel_rfl⟩
theorem aDW:Go.Abs.Enters Tryz.prog 38:=⟨Tryz.f38,Tryz.func38,by kernel_rfl,by kernel_rfl⟩
theorem aGi:Go.Abs.Enters Tryz.prog 39:=⟨Tryz.f39,Tryz.func39,by kernel_rfl,by kernel_rfl⟩
theorem aGj:Go.Abs.Enters Tryz.prog 41:=⟨Tryz.f41,Tryz.func41,by kernel_rfl,by kernel_rfl⟩
theorem aGk:Go.Abs.Enters Tryz.prog 42:=⟨Tryz.f42,Tryz.func42,by kernel_rfl,by kernel_rfl⟩
theorem aGl:Go.Abs.Enters Tryz.prog 43:=⟨Tryz.f43,Tryz.func43,by kernel_rfl,by kernel_rfl⟩
theorem aGm:Go.Abs.Enters Tryz.prog 44:=⟨Tryz.f44,Tryz.func44,by kernel_rfl,by kernel_rfl⟩
theorem akw:Go.Abs.Enters Tryz.prog 45:=⟨Tryz.f45,Tryz.func45,by kernel_rfl,by kernel_rfl⟩
theorem aGn:Go.Abs.Enters Tryz.prog 46:=⟨Tryz.f46,Tryz.func46,by kernel_rfl,by kernel_rfl⟩
theorem aGo:Go.Abs.Enters Tryz.prog 47:=⟨Tryz.f47,Tryz.func47,by kernel_rfl,by kernel_rfl⟩
theorem aAE:Go.Abs.Enters Tryz.prog 48:=⟨Tryz.f48,Tryz.func48,by kernel_rfl,by kernel_rfl⟩
theorem aGp:Go.Abs.Enters Tryz.prog 49:=⟨Tryz.f49,Tryz.func49,by kernel_rfl,by kernel_rfl⟩
theorem aGq:Go.Abs.Enters Tryz.prog 50:=⟨Tryz.f50,Tryz.func50,by kernel_rfl,by kernel_rfl⟩
theorem aGr:Go.Abs.Enters Tryz.prog 51:=⟨Tryz.f51,Tryz.func51,by kernel_rfl,by kernel_rfl⟩
theorem aGs:Go.Abs.Enters Tryz.prog 52:=⟨Tryz.f52,Tryz.func52,by kernel_rfl,by kernel_rfl⟩
theorem aDX:Go.Abs.Enters Tryz.prog 53:=⟨Tryz.f53,Tryz.func53,by kernel_rfl,by kernel_rfl⟩
theorem aDY:Go.Abs.Enters Tryz.prog 54:=⟨Tryz.f54,Tryz.func54,by kernel_rfl,by kernel_rfl⟩
theorem aGt:Go.Abs.Enters Tryz.prog 55:=⟨Tryz.f55,Tryz.func55,by kernel_rfl,by kernel_rfl⟩
theorem axe:Go.Abs.Enters Tryz.prog 56:=⟨Tryz.f56,Tryz.func56,by kernel_rfl,by kernel_rfl⟩
theorem aGu:Go.Abs.Enters Tryz.prog 57:=⟨Tryz.f57,Tryz.func57,by kernel_rfl,by kernel_rfl⟩
theorem aGv:Go.Abs.Enters Tryz.prog 58:=⟨Tryz.f58,Tryz.func58,by kernel_rfl,by kernel_rfl⟩
theorem aDZ:Go.Abs.Enters Tryz.prog 59:=⟨Tryz.f59,Tryz.func59,by kernel_rfl,by kernel_rfl⟩
theorem aD0:Go.Abs.Enters Tryz.prog 60:=⟨Tryz.f60,Tryz.func60,by kernel_rfl,by kernel_rfl⟩
theorem aGw:Go.Abs.Enters Tryz.prog 61:=⟨Tryz.f61,Tryz.func61,by kernel_rfl,by kernel_rfl⟩
theorem asy:Go.Abs.Enters Tryz.prog 62:=⟨Tryz.f62,Tryz.func62,by kernel_rfl,by kernel_rfl⟩
theorem aGx:Go.Abs.Enters Tryz.prog 63:=⟨Tryz.f63,Tryz.func63,by kernel_rfl,by kernel_rfl⟩
theorem asz:Go.Abs.Enters Tryz.prog 64:=⟨Tryz.f64,Tryz.func64,by kernel_rfl,by kernel_rfl⟩
theorem axf:Go.Abs.Enters Tryz.prog 65:=⟨Tryz.f65,Tryz.func65,by kernel_rfl,by kernel_rfl⟩
theorem akx:Go.Abs.Enters Tryz.prog 68:=⟨Tryz.f68,Tryz.func68,by kernel_rfl,by kernel_rfl⟩
theorem aGy:Go.Abs.Enters Tryz.prog 69:=⟨Tryz.f69,Tryz.func69,by kernel_rfl,by kernel_rfl⟩
theorem aGz:Go.Abs.Enters Tryz.prog 70:=⟨Tryz.f70,Tryz.func70,by kernel_rfl,by kernel_rfl⟩
theorem aGA:Go.Abs.Enters Tryz.prog 71:=⟨Tryz.f71,Tryz.func71,by kernel_rfl,by kernel_rfl⟩
theorem aGB:Go.Abs.Enters Tryz.prog 72:=⟨Tryz.f72,Tryz.func72,by kernel_rfl,by kernel_rfl⟩
theorem aGC:Go.Abs.Enters Tryz.prog 73:=⟨Tryz.f73,Tryz.func73,by kernel_rfl,by kernel_rfl⟩
theorem aGD:Go.Abs.Enters Tryz.prog 74:=⟨Tryz.f74,Tryz.func74,by kernel_rfl,by kernel_rfl⟩
theorem aoU:Go.Abs.Enters Tryz.prog 75:=⟨Tryz.f75,Tryz.func75,by kernel_rfl,by kernel_rfl⟩
theorem aD1:Go.Abs.Enters Tryz.prog 76:=⟨Tryz.f76,Tryz.func76,by kernel_rfl,by kernel_rfl⟩
theorem aGE:Go.Abs.Enters Tryz.prog 77:=⟨Tryz.f77,Tryz.func77,by kernel_rfl,by kernel_rfl⟩
theorem aGF:Go.Abs.Enters Tryz.prog 78:=⟨Tryz.f78,Tryz.func78,by kernel_rfl,by kernel_rfl⟩
theorem aGG:Go.Abs.Enters Tryz.prog 79:=⟨Tryz.f79,Tryz.func79,by kernel_rfl,by kernel_rfl⟩
theorem aAF:Go.Abs.Enters Tryz.prog 80:=⟨Tryz.f80,Tryz.func80,by kernel_rfl,by kernel_rfl⟩
theorem aGH:Go.Abs.Enters Tryz.prog 81:=⟨Tryz.f81,Tryz.func81,by kernel_rfl,by kernel_rfl⟩
theorem aGI:Go.Abs.Enters Tryz.prog 82:=⟨Tryz.f82,Tryz.func82,by kernel_rfl,by kernel_rfl⟩
theorem aD2:Go.Abs.Enters Tryz.prog 83:=⟨Tryz.f83,Tryz.func83,by kernel_rfl,by kernel_rfl⟩
theorem aGJ:Go.Abs.Enters Tryz.prog 84:=⟨Tryz.f84,Tryz.func84,by kernel_rfl,by kernel_rfl⟩
theorem aD3:Go.Abs.Enters Tryz.prog 85:=⟨Tryz.f85,Tryz.func85,by kernel_rfl,by kernel_rfl⟩
theorem aoV:Go.Abs.Enters Tryz.prog 86:=⟨Tryz.f86,Tryz.func86,by kernel_rfl,by kernel_rfl⟩
theorem aAG:Go.Abs.Enters Tryz.prog 87:=⟨Tryz.f87,Tryz.func87,by kernel_rfl,by kernel_rfl⟩
theorem aGK:Go.Abs.Enters Tryz.prog 88:=⟨Tryz.f88,Tryz.func88,by kernel_rfl,by kernel_rfl⟩
theorem aGL:Go.Abs.Enters Tryz.prog 89:=⟨Tryz.f89,Tryz.func89,by kernel_rfl,by kernel_rfl⟩
theorem aGM:Go.Abs.Enters Tryz.prog 90:=⟨Tryz.f90,Tryz.func90,by kernel_rfl,by kernel_rfl⟩
theorem aGN:Go.Abs.Enters Tryz.prog 91:=⟨Tryz.f91,Tryz.func91,by kernel_rfl,by kernel_rfl⟩
theorem aoW:Go.Abs.Enters Tryz.prog 92:=⟨Tryz.f92,Tryz.func92,by kernel_rfl,by kernel_rfl⟩
theorem aD4:Go.Abs.Enters Tryz.prog 93:=⟨Tryz.f93,Tryz.func93,by kernel_rfl,by kernel_rfl⟩
theorem aGO:Go.Abs.Enters Tryz.prog 94:=⟨Tryz.f94,Tryz.func94,by kernel_rfl,by kernel_rfl⟩
theorem aD5:Go.Abs.Enters Tryz.prog 95:=⟨Tryz.f95,Tryz.func95,by kernel_rfl,by kernel_rfl⟩
theorem aD6:Go.Abs.Enters Tryz.prog 96:=⟨Tryz.f96,Tryz.func96,by kernel_rfl,by kernel_rfl⟩
theorem aGP:Go.Abs.Enters Tryz.prog 97:=⟨Tryz.f97,Tryz.func97,by kernel_rfl,by kernel_rfl⟩
theorem aGQ:Go.Abs.Enters Tryz.prog 98:=⟨Tryz.f98,Tryz.func98,by kernel_rfl,by kernel_rfl⟩
theorem axg:Go.Abs.Enters Tryz.prog 99:=⟨Tryz.f99,Tryz.func99,by kernel_rfl,by kernel_rfl⟩
theorem aEB:Go.Abs.Enters Tryz.prog 100:=⟨Tryz.f100,Tryz.func100,by kernel_rfl,by kernel_rfl⟩
theorem aEC:Go.Abs.Enters Tryz.prog 102:=⟨Tryz.f102,Tryz.func102,by kernel_rfl,by kernel_rfl⟩
theorem aAx:Go.Abs.Enters Tryz.prog 103:=⟨Tryz.f103,Tryz.func103,by kernel_rfl,by kernel_rfl⟩
theorem aED:Go.Abs.Enters Tryz.prog 104:=⟨Tryz.f104,Tryz.func104,by kernel_rfl,by kernel_rfl⟩
theorem aEE:Go.Abs.Enters Tryz.prog 105:=⟨Tryz.f105,Tryz.func105,by kernel_rfl,by kernel_rfl⟩
theorem aEF:Go.Abs.Enters Tryz.prog 106:=⟨Tryz.f106,Tryz.func106,by kernel_rfl,by kernel_rfl⟩
theorem aEG:Go.Abs.Enters Tryz.prog 107:=⟨Tryz.f107,Tryz.func107,by kernel_rfl,by kernel_rfl⟩
theorem afg:Go.Abs.Enters Tryz.prog 108:=⟨Tryz.f108,Tryz.func108,by kernel_rfl,by kernel_rfl⟩
theorem aEH:Go.Abs.Enters Tryz.prog 109:=⟨Tryz.f109,Tryz.func109,by kernel_rfl,by kernel_rfl⟩
theorem aEI:Go.Abs.Enters Tryz.prog 110:=⟨Tryz.f110,Tryz.func110,by kernel_rfl,by kernel_rfl⟩
theorem aAy:Go.Abs.Enters Tryz.prog 111:=⟨Tryz.f111,Tryz.func111,by kernel_rfl,by kernel_rfl⟩
theorem aEJ:Go.Abs.Enters Tryz.prog 112:=⟨Tryz.f112,Tryz.func112,by kernel_rfl,by kernel_rfl⟩
theorem aEK:Go.Abs.Enters Tryz.prog 113:=⟨Tryz.f113,Tryz.func113,by kernel_rfl,by kernel_rfl⟩
theorem aEL:Go.Abs.Enters Tryz.prog 114:=⟨Tryz.f114,Tryz.func114,by kernel_rfl,by kernel_rfl⟩
theorem aEM:Go.Abs.Enters Tryz.prog 115:=⟨Tryz.f115,Tryz.func115,by kernel_rfl,by kernel_rfl⟩
theorem avH:Go.Abs.Enters Tryz.prog 116:=⟨Tryz.f116,Tryz.func116,by kernel_rfl,by kernel_rfl⟩
theorem aAz:Go.Abs.Enters Tryz.prog 117:=⟨Tryz.f117,Tryz.func117,by kernel_rfl,by kernel_rfl⟩
theorem aEN:Go.Abs.Enters Tryz.prog 118:=⟨Tryz.f118,Tryz.func118,by kernel_rfl,by kernel_rfl⟩
theorem aEO:Go.Abs.Enters Tryz.prog 119:=⟨Tryz.f119,Tryz.func119,by kernel_rfl,by kernel_rfl⟩
theorem aEP:Go.Abs.Enters Tryz.prog 120:=⟨Tryz.f120,Tryz.func120,by kernel_rfl,by kernel_rfl⟩
theorem aEQ:Go.Abs.Enters Tryz.prog 121:=⟨Tryz.f121,Tryz.func121,by kernel_rfl,by kernel_rfl⟩
theorem aAB:Go.Abs.Enters Tryz.prog 122:=⟨Tryz.f122,Tryz.func122,by kernel_rfl,by kernel_rfl⟩
theorem aER:Go.Abs.Enters Tryz.prog 123:=⟨Tryz.f123,Tryz.func123,by kernel_rfl,by kernel_rfl⟩
theorem aES:Go.Abs.Enters Tryz.prog 124:=⟨Tryz.f124,Tryz.func124,by kernel_rfl,by kernel_rfl⟩
theorem aET:Go.Abs.Enters Tryz.prog 125:=⟨Tryz.f125,Tryz.func125,by kernel_rfl,by kernel_rfl⟩
theorem aAC:Go.Abs.Enters Tryz.prog 126:=⟨Tryz.f126,Tryz.func126,by kernel_rfl,by kernel_rfl⟩
theorem aEU:Go.Abs.Enters Tryz.prog 127:=⟨Tryz.f127,Tryz.func127,by kernel_rfl,by kernel_rfl⟩
theorem aEV:Go.Abs.Enters Tryz.prog 128:=⟨Tryz.f128,Tryz.func128,by kernel_rfl,by kernel_rfl⟩
theorem aEW:Go.Abs.Enters Tryz.prog 129:=⟨Tryz.f129,Tryz.func129,by kernel_rfl,by kernel_rfl⟩
theorem aEX:Go.Abs.Enters Tryz.prog 130:=⟨Tryz.f130,Tryz.func130,by kernel_rfl,by kernel_rfl⟩
theorem aEY:Go.Abs.Enters Tryz.prog 131:=⟨Tryz.f131,Tryz.func131,by kernel_rfl,by kernel_rfl⟩
theorem aEZ:Go.Abs.Enters Tryz.prog 132:=⟨Tryz.f132,Tryz.func132,by kernel_rfl,by kernel_rfl⟩
theorem avI:Go.Abs.Enters Tryz.prog 133:=⟨Tryz.f133,Tryz.func133,by kernel_rfl,by kernel_rfl⟩
theorem aE0:Go.Abs.Enters Tryz.prog 134:=⟨Tryz.f134,Tryz.func134,by kernel_rfl,by kernel_rfl⟩
theorem aE1:Go.Abs.Enters Tryz.prog 135:=⟨Tryz.f135,Tryz.func135,by kernel_rfl,by kernel_rfl⟩
theorem aE2:Go.Abs.Enters Tryz.prog 136:=⟨Tryz.f136,Tryz.func136,by kernel_rfl,by kernel_rfl⟩
theorem aE3:Go.Abs.Enters Tryz.prog 137:=⟨Tryz.f137,Tryz.func137,by kernel_rfl,by kernel_rfl⟩
theorem aE4:Go.Abs.Enters Tryz.prog 138:=⟨Tryz.f138,Tryz.func138,by kernel_rfl,by kernel_rfl⟩
theorem aE5:Go.Abs.Enters Tryz.prog 139:=⟨Tryz.f139,Tryz.func139,by kernel_rfl,by kernel_rfl⟩
theorem aE6:Go.Abs.Enters Tryz.prog 140:=⟨Tryz.f140,Tryz.func140,by kernel_rfl,by kernel_rfl⟩
abbrev aT:=(Int×((List Int)×Unit))
abbrev aF:=((Int×(Int×Unit))×((List Int)×(Int×Unit)))
abbrev eO:=((Int×(Int×Unit))×(Int×((List (List Int))×Unit)))
def alz (p0:List Int) (p1:Int):Tre Int:=
 let v1:=aJ .i64 (p1-(p0.length:Int))
 .cond (decide (v1<0))
  (.ret (-1))
  (.ret v1)
def aqB (p0:List Int) (p1:Int):Option Int:=(alz p0 p1).run some
def eX(p0:List Int)(p1:Int):Int:=
 let v1:=aJ .i64 (p1-(p0.length:Int))
 cond (decide (v1<0))
  (-1)
  (v1)
theorem ai0(p0:List Int)(p1:Int):aqB p0 p1=some (eX p0 p1):=(xL rfl rfl)
-- more
theorem alA{xs:List Int}(h:xs.length≤maxLen)(hn:¬eX xs 1048576<0):xs.length≤1048576:=by
 unfold maxLen at h
 unfold eX at hn
 dsimp only at hn
 rw [dS (by omega) (by omega)] at hn
 by_cases h2:(1048576:Int)-xs.length<0
 ·simp [h2] at hn
 ·omega
def adl:Env:=⟨tau,[],[]⟩
def aqD:FnI:=fnI Tryz.f27 []
def WE (_:Bool) (_:List Int) (_:Int):Int→au:=fun r=>⟨(.i r),[],[]⟩
theorem anX:∀(zp0:Bool)(p0:List Int)(p1:Int),bL adl aqD ⟨[(.imm zp0 .il p0),(.i p1)],[]⟩=(alz p0 p1).run fun r=>some (WE zp0 p0 p1 r):=fun _ _ _=>by kernel_rfl
def aqC (av:List AV) (rs:List Root):Tre au:=
 aD av fun a0_ av0=>
 aD av0 fun a1_ av1=>
 aN av1<|
 aN rs<|
 bg .il a0_ fun z2 d1=>
 ay true .n a1_ fun d3=>
 .ret (WE z2 d1 d3 (eX d1 d3))
def Ru:Ctr:=dD [] aqC
theorem ZN:Contract Tryz.prog .none 27 Ru:=aB (V:=adl) aV aI Tryz.func27 bN fun _ _ _=>aK fun _ _=>aK fun _ _=>bn<|bn<|bZ fun _ _=>aH fun _=>fun h=>by intros;subst_vars;exact sW (anX _ _ _) (ai0 _ _) h
def ZM (p0:aF) (p1:Int):Tre Int:=
 .cond (decide ((eX p0.2.1 p1)<0))
  (.ret (-1))
  (.ret (eX p0.2.1 p1))
def aiX (p0:aF) (p1:Int):Option Int:=(ZM p0 p1).run some
def jD(p0:aF)(p1:Int):Int:=
 cond (decide ((eX p0.2.1 p1)<0))
  (-1)
  ((eX p0.2.1 p1))
theorem abk(p0:aF)(p1:Int):aiX p0 p1=some (jD p0 p1):=(xL rfl rfl)
def Tf:Env:=⟨tau,[(27,Ru)],[]⟩
def aiZ:FnI:=fnI Tryz.f7 []
def LW (_:Bool) (_:aF) (_:Int):Int→au:=fun r=>⟨(.i r),[],[]⟩
theorem afV:∀(zp0:Bool)(p0:aF)(p1:Int),bL Tf aiZ ⟨[(.imm zp0 aU p0),(.i p1)],[]⟩=(ZM p0 p1).run fun r=>some (LW zp0 p0 p1 r):=fun _ _ _=>by kernel_rfl
def aiY (av:List AV) (rs:List Root):Tre au:=
 aD av fun a0_ av0=>
 aD av0 fun a1_ av1=>
 aN av1<|
 aN rs<|
 bg aU a0_ fun z2 d1=>
 ay true .n a1_ fun d3=>
 .ret (LW z2 d1 d3 (jD d1 d3))
def Tg:Ctr:=dD [] aiY
theorem afW:Contract Tryz.prog .none 7 Tg:=aB (V:=Tf) aV (ak ZN aDV aI) Tryz.func7 bN fun _ _ _=>aK fun _ _=>aK fun _ _=>bn<|bn<|bZ fun _ _=>aH fun _=>fun h=>by intros;subst_vars;exact sW (afV _ _ _) (abk _ _) h
def alB (p0:aT) (p1:Int):Tre Int:=
 .cond (decide ((eX p0.2.1 p1)<0))
  (.ret (-1))
  (.ret (eX p0.2.1 p1))
def aqE (p0:aT) (p1:Int):Option Int:=(alB p0 p1).run some
def Bf(p0:aT)(p1:Int):Int:=
 cond (decide ((eX p0.2.1 p1)<0))
  (-1)
  ((eX p0.2.1 p1))
theorem ai1(p0:aT)(p1:Int):aqE p0 p1=some (Bf p0 p1):=(xL rfl rfl)
def adn:Env:=⟨tau,[(27,Ru)],[]⟩
def aqG:FnI:=fnI Tryz.f19 []
def WG (_:Bool) (_:aT) (_:Int):Int→au:=fun r=>⟨(.i r),[],[]⟩
theorem anY:∀(zp0:Bool)(p0:aT)(p1:Int),bL adn aqG ⟨[(.imm zp0 bC p0),(.i p1)],[]⟩=(alB p0 p1).run fun r=>some (WG zp0 p0 p1 r):=fun _ _ _=>by kernel_rfl
def aqF (av:List AV) (rs:List Root):Tre au:=
 aD av fun a0_ av0=>
 aD av0 fun a1_ av1=>
 aN av1<|
 aN rs<|
 bg bC a0_ fun z2 d1=>
 ay true .n a1_ fun d3=>
 .ret (WG z2 d1 d3 (Bf d1 d3))
def ado:Ctr:=dD [] aqF
theorem anZ:Contract Tryz.prog .none 19 ado:=aB (V:=adn) aV (ak ZN aDV aI) Tryz.func19 bN fun _ _ _=>aK fun _ _=>aK fun _ _=>bn<|bn<|bZ fun _ _=>aH fun _=>fun h=>by intros;subst_vars;exact sW (anY _ _ _) (ai1 _ _) h
def apf (_:(Int×(Int×Unit))):Tre Unit:=
 .ret ()
def ato (p0:(Int×(Int×Unit))):Option Unit:=(apf p0).run some
theorem alC(p0:(Int×(Int×Unit))):ato p0=some ():=rfl
def ahz:Env:=⟨tau,[],[]⟩
def atq:FnI:=fnI Tryz.f30 []
def ZO (p0:(Int×(Int×Unit))):Unit→au:=fun _=>⟨(.imm true aP p0),[],[]⟩
theorem aqH:∀(p0:(Int×(Int×Unit))),bL ahz atq ⟨[(.imm true aP p0)],[]⟩=(apf p0).run fun r=>some (ZO p0 r):=fun _=>by kernel_rfl
def atp (av:List AV) (rs:List Root):Tre au:=
 aD av fun a0_ av0=>
 aN av0<|
 aN rs<|
 ay true aP a0_ fun d1=>
 .ret (ZO d1 ())
def ahA:Ctr:=dD [] atp
theorem aqI:Contract Tryz.prog .none 30 ahA:=aB (V:=ahz) aV aI Tryz.func30 bN fun _ _ _=>aK fun _ _=>bn<|bn<|aH fun _=>fun h=>by intros;subst_vars;exact sW (aqH _) (alC _) h
def su (aX:List Int):(Int×(List Int))→Tre ((Int×(List Int)) ⊕ (List Int)):=fun s3=>
 .cond (decide (s3.1<(aX.length:Int)))
  (.ite (0≤s3.1∧s3.1<(aX.length:Int))<|
  .mat (aX[s3.1.toNat]?) fun x1=>
  .ite (0≤s3.1∧s3.1<(s3.2.length:Int))<|
  .mat (s3.2[s3.1.toNat]?) fun _=>
  let v3:=s3.2.set s3.1.toNat x1
  .ret (.inl (aJ .i64 (s3.1+1),v3)))
  (.ret (.inr s3.2))
def abl (p0:List Int):Tre (List Int):=
 .ite ((.n:K)=.n∧0≤(p0.length:Int)∧(p0.length:Int)=(p0.length:Int)∧(p0.length:Int)*(8:Nat)≤140737488355328∧1≤8)<|
 .mat (aL (su p0) (0,List.replicate (p0.length:Int).toNat (0:Int))) fun l4=>
 .ret l4
def adp (p0:List Int):Option (List Int):=(abl p0).run some
theorem ai5(p0 y:List Int)(h:fQ p0=some y):adp p0=some y:=by
 obtain ⟨hl,rfl⟩:=Pb h
 unfold adp abl
 rw [Tre.run_ite,if_pos ⟨rfl,by omega,rfl,by omega,by omega⟩,Tre.jl]
 have:=kN (xs:=p0) (step:=su p0) (fun i acc=>((i:Int),acc)) (fun i acc x=>.inl (acc.set i x)) id (fun i acc=>acc.length=p0.length) (by
  intro i acc x hx hI
  have hi:i<p0.length:=(List.getElem?_eq_some_iff.1 hx).1
  refine ⟨?_,fun a ha=>by cases ha;simpa using hI⟩
  unfold su
  rw [dW hx]
  rw [show acc.length=p0.length from hI]
  rw [Tre.run_ite,if_pos ⟨by dsimp only;omega,by dsimp only;omega⟩,Tre.jl]
  dsimp only
  rw [Int.toNat_natCast,List.getElem?_eq_getElem (by omega:i<acc.length),Option.bind_some,Tre.aG,aQ (by omega)])
  (by
  intro acc hI
  unfold su
  exact dB)
  p0 0 (List.replicate p0.length 0) rfl (Nat.zero_le _) (by simp)
 rw [Int.toNat_natCast]
 rw [show ((0:Int),List.replicate p0.length (0:Int))=(((0:Nat):Int),List.replicate p0.length 0) from rfl,this,ayL _ _ _ _ (by simp)]
 simp [Tre.aG]
def Ig:Env:=⟨tau,[],[]⟩
def adq:Code:=(Tryz.f10.body).getD .skip
def O9 (dV:Bool) (aX:List Int):(Int×(List Int))→St:=fun x=>bO [(0,(.imm dV .il aX)),(3,(.ref (5,0) [])),(4,(.i x.1))] [((5,0),some ⟨false,.il,.own,x.2⟩)]
def LY (_:Bool) (_:List Int):(List Int)→Ex×St:=fun x=>(.exit 0,bO [(3,(.ref (5,0) []))] [((5,0),some ⟨false,.il,.own,x⟩)])
def ai4 (s:St):Tre (Ex×St):=
 bg .il (s.tmps 0) fun z3 d2=>
 dF (5,0) [] (s.tmps 3)<|
 ay true .n (s.tmps 4) fun d6=>
 aZ false .il (s.roots (5,0)) fun m8 d9=>
 asM .own m8<|
 .mat (aL (su d2) (d6,d9)) fun x=>.ret (LY z3 d2 x)
def yu:bA:=⟨([0,3,4],[(5,0)]),([3],[(5,0)]),ai4⟩
def Rv:List (Nat×bA):=[(3,yu)]
theorem abm:∀(dV:Bool)(aX:List Int)(x:(Int×(List Int)))(c:St→Option (Ex×St)),den Ig Rv (aR adq 0) (O9 dV aX x) (bR yu.kp yu.kx c)=(su aX x).run (bS (O9 dV aX) (LY dV aX) c):=fun _ _ _ _=>by
 kernel_rfl
theorem afZ:bP Ig Rv (aR adq 0) yu:=bV fun _ _ _=>bZ fun _ _=>fu<|aH fun _=>bT fun _ _=>tM<|fun h _ e7 e5 e4 e1=>bJ (abm _ _) h (by subst_vars;exact aM rfl rfl ⟨e1,e4,e5,trivial⟩ ⟨e7,trivial⟩)
def aqK:FnI:=fnI Tryz.f10 Rv
def WH (_:Bool) (_:List Int):(List Int)→au:=fun r=>⟨(.ref (1,0) []),[],[⟨false,.il,.own,r⟩]⟩
theorem an0:∀(zp0:Bool)(p0:List Int),bL Ig aqK ⟨[(.imm zp0 .il p0)],[]⟩=(abl p0).run fun r=>some (WH zp0 p0 r):=fun _ _=>by kernel_rfl
def aqJ (av:List AV) (rs:List Root):Tre au:=
 aD av fun a0_ av0=>
 aN av0<|
 aN rs<|
 bg .il a0_ fun z2 d1=>
 .mat (fQ d1) fun r=>.ret (WH z2 d1 r)
def Ih:Ctr:=dD [] aqJ
theorem Nu:Contract Tryz.prog .none 10 Ih:=aB (V:=Ig) aV aI Tryz.func10 (bD (n:=1) fun k hk=>by
 match k,hk with
 |0,_=>exact bF (id:=3) afZ) fun _ _ _=>aK fun _ _=>bn<|bn<|bZ fun _ _=>fun h=>by intros;subst_vars;exact nR (an0 _ _) (ai5 _) h
def Nt (p0:aF):Tre ((Int×(Int×Unit))×(Int×Unit)×(List Int)):=
 .mat (fQ p0.2.1) fun r1=>
 .ret (p0.1,p0.2.2,r1)
def lI (p0:aF):Option ((Int×(Int×Unit))×(Int×Unit)×(List Int)):=(Nt p0).run some
def Ti:Env:=⟨tau,[(30,ahA),(10,Ih)],[]⟩
def ai3:FnI:=fnI Tryz.f9 []
def LX (_:Bool) (_:aF):((Int×(Int×Unit))×(Int×Unit)×(List Int))→au:=fun r=>⟨(.pair (.imm true aP r.1) (.pair (.ref (1,0) []) (.imm true (.pair .n .unit) r.2.1))),[],[⟨false,.il,.own,r.2.2⟩]⟩
theorem afX:∀(zp0:Bool)(p0:aF),bL Ti ai3 ⟨[(.imm zp0 aU p0)],[]⟩=(Nt p0).run fun r=>some (LX zp0 p0 r):=fun _ _=>by kernel_rfl
def ai2 (av:List AV) (rs:List Root):Tre au:=
 aD av fun a0_ av0=>
 aN av0<|
 aN rs<|
 bg aU a0_ fun z2 d1=>
 .mat (lI d1) fun r=>.ret (LX z2 d1 r)
def Tj:Ctr:=dD [] ai2
theorem afY:Contract Tryz.prog .none 9 Tj:=aB (V:=Ti) aV (ak aqI aGb (ak Nu aAw aI)) Tryz.func9 bN fun _ _ _=>aK fun _ _=>bn<|bn<|bZ fun _ _=>fun h=>by intros;subst_vars;exact bB (afX _ _) h
def abn (p0:aT):Tre (Int×(List Int)):=
 .mat (fQ p0.2.1) fun r1=>
 .ret (p0.1,r1)
def qX (p0:aT):Option (Int×(List Int)):=(abn p0).run some
def adr:Env:=⟨tau,[(10,Ih)],[]⟩
def aqM:FnI:=fnI Tryz.f21 []
def WI (_:Bool) (_:aT):(Int×(List Int))→au:=fun r=>⟨(.pair (.i r.1) (.pair (.ref (1,0) []) (.imm true .unit ()))),[],[⟨false,.il,.own,r.2⟩]⟩
theorem an1:∀(zp0:Bool)(p0:aT),bL adr aqM ⟨[(.imm zp0 bC p0)],[]⟩=(abn p0).run fun r=>some (WI zp0 p0 r):=fun _ _=>by kernel_rfl
def aqL (av:List AV) (rs:List Root):Tre au:=
 aD av fun a0_ av0=>
 aN av0<|
 aN rs<|
 bg bC a0_ fun z2 d1=>
 .mat (qX d1) fun r=>.ret (WI z2 d1 r)
def ads:Ctr:=dD [] aqL
theorem an2:Contract Tryz.prog .none 21 ads:=aB (V:=adr) aV (ak Nu aAw aI) Tryz.func21 bN fun _ _ _=>aK fun _ _=>bn<|bn<|bZ fun _ _=>fun h=>by intros;subst_vars;exact bB (an1 _ _) h
def aq2 (p0:Int) (p1:Int) (p2:Int):Tre Bool:=
 .cond (decide (p0 ≥ p1))
  (.ret (decide (p0≤p2)))
  (.ret false)
def apv (p0:Int) (p1:Int) (p2:Int):Option Bool:=(aq2 p0 p1 p2).run some
theorem aq3(n a b:Int):apv n a b=some (inR n a b):=by
 unfold apv aq2 inR
 by_cases h:a≤n
 ·simp [Tre.aA,Tre.aG,h]
 ·simp [Tre.aA,Tre.aG,h]
def apw:Env:=⟨tau,[],[]⟩
def azu:FnI:=fnI Tryz.f86 []
def ahG (_:Int) (_:Int) (_:Int):Bool→au:=fun r=>⟨(.imm true .bool r),[],[]⟩
theorem awt:∀(p0 p1 p2:Int),bL apw azu ⟨[(.i p0),(.i p1),(.i p2)],[]⟩=(aq2 p0 p1 p2).run fun r=>some (ahG p0 p1 p2 r):=fun _ _ _=>by kernel_rfl
def azt (av:List AV) (rs:List Root):Tre au:=
 aD av fun a0_ av0=>
 aD av0 fun a1_ av1=>
 aD av1 fun a2_ av2=>
 aN av2<|
 aN rs<|
 ay true .n a0_ fun d1=>
 ay true .n a1_ fun d2=>
 ay true .n a2_ fun d3=>
 .ret (ahG d1 d2 d3 (inR d1 d2 d3))
def Dv:Ctr:=dD [] azt
theorem Dw:Contract Tryz.prog .none 86 Dv:=aB (V:=apw) aV aI Tryz.func86 bN fun _ _ _=>aK fun _ _=>aK fun _ _=>aK fun _ _=>bn<|bn<|aH fun _=>aH fun _=>aH fun _=>fun h=>by intros;subst_vars;exact sW (awt _ _ _) (aq3 _ _ _) h
def JL:(Int×Int)→Tre ((Int×Int) ⊕ Int):=fun s2=>
 .cond (decide (s2.1>0))
  (let v1:=aJ .i64 (Int.tdiv s2.1 2)
  .ret (.inl (v1,aJ .i64 (s2.2+1))))
  (.ret (.inr s2.2))
def ahM (p0:Int):Tre Int:=
 .mat (aL JL (p0,-1)) fun l2=>
 .ret l2
def oQ (p0:Int):Option Int:=(ahM p0).run some
def Eb:Env:=⟨tau,[],[]⟩
def Z0:Code:=(Tryz.f116.body).getD .skip
def Mh:(Int×Int)→St:=fun x=>bO [(0,(.i x.1)),(3,(.i x.2))] []
def JM:Int→Ex×St:=fun x=>(.exit 0,bO [(3,(.i x))] [])
def agv (s:St):Tre (Ex×St):=
 ay true .n (s.tmps 0) fun d2=>
 ay true .n (s.tmps 3) fun d4=>
 .mat (aL JL (d2,d4)) fun x=>.ret (JM x)
def vX:bA:=⟨([0,3],[]),([3],[]),agv⟩
def NA:List (Nat×bA):=[(2,vX)]
theorem Y4:∀(x:(Int×Int))(c:St→Option (Ex×St)),den Eb NA (aR Z0 0) (Mh x) (bR vX.kp vX.kx c)=(JL x).run (bS (Mh) (JM) c):=fun _ _=>by
 kernel_rfl
theorem ad1:bP Eb NA (aR Z0 0) vX:=bV fun _ _ _=>aH fun _=>aH fun _=>fun h e3 e1=>bJ Y4 h (by subst_vars;exact aM rfl rfl ⟨e1,e3,trivial⟩ trivial)
def aob:FnI:=fnI Tryz.f116 NA
def Tt (_:Int):Int→au:=fun r=>⟨(.i r),[],[]⟩
theorem amc:∀(p0:Int),bL Eb aob ⟨[(.i p0)],[]⟩=(ahM p0).run fun r=>some (Tt p0 r):=fun _=>by kernel_rfl
def aoa (av:List AV) (rs:List Root):Tre au:=
 aD av fun a0_ av0=>
 aN av0<|
 aN rs<|
 ay true .n a0_ fun d1=>
 .mat (oQ d1) fun r=>.ret (Tt d1 r)
def Ec:Ctr:=dD [] aoa
theorem JN:Contract Tryz.prog .none 116 Ec:=aB (V:=Eb) aV aI Tryz.func116 (bD (n:=1) fun k hk=>by
 match k,hk with
 |0,_=>exact bF (id:=2) ad1) fun _ _ _=>aK fun _ _=>bn<|bn<|aH fun _=>fun h=>by intros;subst_vars;exact bB (amc _) h
def RU (bK:Int) (dA:Int):Int→Tre (Int ⊕ Int):=fun s2=>
 .mat (oQ s2) fun r2=>
 .cond (decide (r2 ≥ dA))
  (.mat (oQ s2) fun r3=>
  let v4:=aJ .u64 (aJ .i64 (r3-dA))
  .ite (0≤v4)<|
  let v5:=iD .i64 s2 (F7 .i64 bK v4)
  .ret (.inl v5))
  (.ret (.inr s2))
def apy (p0:Int) (p1:Int):Tre Int:=
 .mat (oQ p1) fun r1=>
 .mat (aL (RU p1 r1) p0) fun l6=>
 .ret l6
def Xo (p0:Int) (p1:Int):Option Int:=(apy p0 p1).run some
def Mj:Env:=⟨tau,[(116,Ec)],[]⟩
def ahO:Code:=(Tryz.f103.body).getD .skip
def Tx (bK:Int) (dA:Int):Int→St:=fun x=>bO [(0,(.i x)),(1,(.i bK)),(5,(.i dA))] []
def Pt (_:Int) (_:Int):Int→Ex×St:=fun x=>(.exit 0,bO [(0,(.i x))] [])
def amk (s:St):Tre (Ex×St):=
 ay true .n (s.tmps 0) fun d2=>
 ay true .n (s.tmps 1) fun d4=>
 ay true .n (s.tmps 5) fun d6=>
 .mat (aL (RU d4 d6) d2) fun x=>.ret (Pt d4 d6 x)
def Bp:bA:=⟨([0,1,5],[]),([0],[]),amk⟩
def Xn:List (Nat×bA):=[(2,Bp)]
theorem ad7:∀(bK dA x:Int)(c:St→Option (Ex×St)),den Mj Xn (aR ahO 0) (Tx bK dA x) (bR Bp.kp Bp.kx c)=(RU bK dA x).run (bS (Tx bK dA) (Pt bK dA) c):=fun _ _ _ _=>by
 kernel_rfl
theorem ajj:bP Mj Xn (aR ahO 0) Bp:=bV fun _ _ _=>aH fun _=>aH fun _=>aH fun _=>fun h e5 e3 e1=>bJ (ad7 _ _) h (by subst_vars;exact aM rfl rfl ⟨e1,e3,e5,trivial⟩ trivial)
def auk:FnI:=fnI Tryz.f103 Xn
def Z4 (_:Int) (_:Int):Int→au:=fun r=>⟨(.i r),[],[]⟩
theorem ara:∀(p0 p1:Int),bL Mj auk ⟨[(.i p0),(.i p1)],[]⟩=(apy p0 p1).run fun r=>some (Z4 p0 p1 r):=fun _ _=>by kernel_rfl
def auj (av:List AV) (rs:List Root):Tre au:=
 aD av fun a0_ av0=>
 aD av0 fun a1_ av1=>
 aN av1<|
 aN rs<|
 ay true .n a0_ fun d1=>
 ay true .n a1_ fun d2=>
 .mat (Xo d1 d2) fun r=>.ret (Z4 d1 d2 r)
def Xp:Ctr:=dD [] auj
theorem ad8:Contract Tryz.prog .none 103 Xp:=aB (V:=Mj) aV (ak JN avH aI) Tryz.func103 (bD (n:=1) fun k hk=>by
 match k,hk with
 |0,_=>exact bF (id:=2) ajj) fun _ _ _=>aK fun _ _=>aK fun _ _=>bn<|bn<|aH fun _=>aH fun _=>fun h=>by intros;subst_vars;exact bB (ara _ _) h
def pR (fH:Int) (jN:Int):Int→Tre (Int ⊕ (Bool ⊕ Unit)):=fun s5=>
 .mat (oQ s5) fun r2=>
 .cond (decide (r2<jN))
  (.mat (Xo fH s5) fun r3=>
  .cond (decide (r3=0))
   (.ret (.inr (.inl false)))
   (.ret (.inl (aJ .i64 (s5+1)))))
  (.ret (.inr (.inr ())))
def Pp (p0:Int):Tre Bool:=
 .mat (oQ p0) fun r1=>
 .cond (decide (r1<1))
  (.ret false)
  (.cond (decide (r1>5))
   (.ret false)
   (.mat (aL (pR p0 r1) 2) fun l4=>
   .alt l4
    (fun a5=>
     .ret a5)
    (fun _=>
     .ret true)))
def JQ (p0:Int):Option Bool:=(Pp p0).run some
def qZ:Env:=⟨tau,[(116,Ec),(103,Xp)],[]⟩
def JR:Code:=(Tryz.f134.body).getD .skip
def q8 (fH:Int) (jN:Int):Int→St:=fun x=>bO [(0,(.i fH)),(3,(.i jN)),(4,(.i x))] []
def lg (_:Int) (_:Int):(Bool ⊕ Unit)→Ex×St
 |.inl x=>(.ret,bO [(2,(.imm true .bool x))] [])
 |.inr _=>(.exit 0,bO [(2,.dead)] [])
def Cx (s:St):Tre (Ex×St):=
 ay true .n (s.tmps 0) fun d2=>
 ay true .n (s.tmps 3) fun d4=>
 ay true .n (s.tmps 4) fun d6=>
 .mat (aL (pR d2 d4) d6) fun x=>.alt x (fun a0=>.ret (lg d2 d4 (.inl a0))) (fun b0=>.ret (lg d2 d4 (.inr b0)))
def jJ:bA:=⟨([0,3,4],[]),([2],[]),Cx⟩
def yX:List (Nat×bA):=[(5,jJ)]
theorem NC:∀(fH jN x:Int)(c:St→Option (Ex×St)),den qZ yX (aR JR 0) (q8 fH jN x) (bR jJ.kp jJ.kx c)=(pR fH jN x).run (bS (q8 fH jN) (lg fH jN) c):=fun _ _ _ _=>by
 kernel_rfl
theorem RP:bP qZ yX (aR JR 0) jJ:=fP fun s e s' h=>by
 generalize hs:restrict jJ.kp s=s1 at h
 have h:(Cx s1).run some=some (e,s'):=h
 obtain ⟨d2,e1,h_0⟩:=cu h
 obtain ⟨d4,e3,h_1⟩:=cu h_0
 obtain ⟨d6,e5,h_2⟩:=cu h_1
 obtain ⟨y,hy,hz⟩:=iE h_2
 refine ⟨_,_,q8 d2 d4,lg d2 d4,pR d2 d4,d6,y,?_,hy,?_,NC d2 d4⟩
 ·subst hs;exact aM (T:=[(0,(.i d2)),(3,(.i d4)),(4,(.i d6))]) (U:=[]) rfl rfl ⟨e1,e3,e5,trivial⟩ trivial
 ·rcases y with x|x<;>exact Option.some.inj hz
def abB:FnI:=fnI Tryz.f134 yX
def Fw (_:Int):Bool→au:=fun r=>⟨(.imm true .bool r),[],[]⟩
theorem Y5:∀(p0:Int),bL qZ abB ⟨[(.i p0)],[]⟩=(Pp p0).run fun r=>some (Fw p0 r):=fun _=>by kernel_rfl
def abA (av:List AV) (rs:List Root):Tre au:=
 aD av fun a0_ av0=>
 aN av0<|
 aN rs<|
 ay true .n a0_ fun d1=>
 .mat (JQ d1) fun r=>.ret (Fw d1 r)
def JU:Ctr:=dD [] abA
theorem Y6:Contract Tryz.prog .none 134 JU:=aB (V:=qZ) aV (ak JN avH (ak ad8 aAx aI)) Tryz.func134 (bD (n:=1) fun k hk=>by
 match k,hk with
 |0,_=>exact bF (id:=5) RP) fun _ _ _=>aK fun _ _=>bn<|bn<|aH fun _=>fun h=>by intros;subst_vars;exact bB (Y5 _) h
def Gb (p0:Int):Tre Bool:=
 .cond (decide (p0>0))
  (.cond (decide (p0<64))
   (.mat (JQ p0) fun r1=>
   .ret r1)
   (.ret false))
  (.ret false)
def tT (p0:Int):Option Bool:=(Gb p0).run some
def Mc:Env:=⟨tau,[(134,JU)],[]⟩
def adW:FnI:=fnI Tryz.f115 []
def GU (_:Int):Bool→au:=fun r=>⟨(.imm true .bool r),[],[]⟩
theorem abx:∀(p0:Int),bL Mc adW ⟨[(.i p0)],[]⟩=(Gb p0).run fun r=>some (GU p0 r):=fun _=>by kernel_rfl
def adV (av:List AV) (rs:List Root):Tre au:=
 aD av fun a0_ av0=>
 aN av0<|
 aN rs<|
 ay true .n a0_ fun d1=>
 .mat (tT d1) fun r=>.ret (GU d1 r)
def Md:Ctr:=dD [] adV
theorem aby:Contract Tryz.prog .none 115 Md:=aB (V:=Mc) aV (ak Y6 aE0 aI) Tryz.func115 bN fun _ _ _=>aK fun _ _=>bn<|bn<|aH fun _=>fun h=>by intros;subst_vars;exact bB (abx _) h
-- shared
def allI{α:Type}(p:Nat→α→Bool):Nat→List α→Bool
 |_,[]=>true
 |i,x::l=>p i x&&allI p (i+1) l
theorem avb{α:Type}{p:α→Bool}:∀(l:List α)(i:Nat),allI (fun _ x=>p x) i l=l.all p:=by
 intro l
 induction l with
 |nil=>intro i;rfl
 |cons x l ih=>intro i;simp only [allI,List.all_cons,ih]
theorem avK{α β:Type}{p:Nat→α→Bool}{b0 b1:β}:∀(l:List α)(i:Nat),nH (γ:=Unit) (fun i _ x=>cond (p i x) (.inl ()) (.inr b0)) (fun _=>b1) i () l=cond (allI p i l) b1 b0:=by
 intro l
 induction l with
 |nil=>intro i;rfl
 |cons x l ih=>
  intro i
  simp only [nH,allI]
  cases p i x with
  |true=>simp only [cond_true,Bool.true_and];exact ih _
  |false=>rfl
theorem az4{α β:Type}{step:Int→Tre (Int ⊕ β)}{xs:List α}(p:Nat→α→Bool)(b0 b1:β)
  (hs:∀i x,xs[i]?=some x→(∀j y,j<i→xs[j]?=some y→p j y=true)→(step (i:Int)).run some=some (cond (p i x) (.inl ((i+1:Nat):Int)) (.inr b0)))
  (he:(step (xs.length:Int)).run some=some (.inr b1)):aL step 0=some (cond (allI p 0 xs) b1 b0):=by
 have:=kN (xs:=xs) (step:=step) (γ:=Unit) (fun i _=>(i:Int)) (fun i _ x=>cond (p i x) (.inl ()) (.inr b0)) (fun _=>b1) (fun i _=>∀j y,j<i→xs[j]?=some y→p j y=true)
  (by
   intro i acc x hx hI
   refine ⟨?_,?_⟩
   ·rw [hs i x hx hI]
    cases p i x<;>rfl
   ·intro a ha j y hj hy
    cases hp:p i x with
    |false=>rw [hp] at ha;cases ha
    |true=>
     by_cases hji:j=i
     ·subst hji;rw [hx] at hy;cases hy;exact hp
     ·exact hI j y (by omega) hy)
  (fun _ _=>he) xs 0 () rfl (Nat.zero_le _) (by intro j y h;omega)
 rw [←avK xs 0]
 exact this
theorem aoE{α β:Type}{step:Int→Tre (Int ⊕ β)}{xs:List α}(p:α→Bool)(b0 b1:β)
  (hs:∀(i:Nat) x,xs[i]?=some x→(step (i:Int)).run some=some (cond (p x) (.inl ((i+1:Nat):Int)) (.inr b0)))
  (he:(step (xs.length:Int)).run some=some (.inr b1)):aL step 0=some (cond (xs.all p) b1 b0):=by
 rw [←avb xs 0]
 exact az4 (fun _ x=>p x) b0 b1 (fun i x hx _=>hs i x hx) he
theorem aA3{α:Type}{p:α→Bool}(l:List α):(!decide (nI (fun x=>!p x) 0 l ≥ 0))=l.all p:=by
 rw [as9]
 induction l with
 |nil=>rfl
 |cons x l ih=>simp only [List.any_cons,List.all_cons,←ih,Bool.not_or,Bool.not_not]
def aBD{α β:Type}(f:Nat→α→Option β):Nat→List α→List β
 |_,[]=>[]
 |i,x::l=>match f i x with
  |some y=>y::aBD f (i+1) l
  |none=>aBD f (i+1) l
theorem gP{i:Nat}(h0:0<i)(h:i<4611686018427387904):aJ .i64 ((i:Int)-1)=((i-1:Nat):Int):=by
 rw [dS (by omega) (by omega)];omega
theorem len2{e:List Int}(h:e.length=2):∃a b,e=[a,b]:=by
 match e,h with
 |[a,b],_=>exact ⟨a,b,rfl⟩
-- shared
abbrev TF3:=Int×Int×Unit
def akA:List (Int×Int):=[(1,2),(1,3),(2,7),(3,11),(3,13),(4,19),(4,25),(4,31),(5,37),(5,41),(5,47),(5,55),(5,59),(5,61)]
def aO(f:TF3):Bool:=akA.contains (f.1,f.2.1)
theorem Vb{f:TF3}(h:aO f=true):(f.1,f.2.1)∈akA:=by simpa [aO] using h
theorem nQ{f:TF3}(h:aO f=true):1≤f.1∧f.1≤5:=by
 have h:=Vb h
 have:∀x∈akA,1≤x.1∧x.1≤5:=by decide
 exact this _ h
theorem ap1{f:TF3}(h:aO f=true):2≤f.2.1∧f.2.1≤61:=by
 have h:=Vb h
 have:∀x∈akA,2≤x.2∧x.2≤61:=by decide
 exact this _ h
theorem asB{F:TF3→Option Bool}(hd:∀f:TF3,inR f.1 1 5=false→F f=some false)
  (hb:∀f:TF3,(f.2.1<0∨64≤f.2.1)→F f=some false)
  (hk:((List.range' 1 5).all fun d=>(List.range 64).all fun p=>F ((d:Int),(p:Int),()) == some (aO ((d:Int),(p:Int),())))=true) (f:TF3):F f=some (aO f):=by
 have hno:∀g:TF3,(¬(1≤g.1∧g.1≤5)∨¬(0≤g.2.1∧g.2.1<64))→aO g=false:=by
  intro g hg
  cases h:aO g with
  |false=>rfl
  |true=>
   have h1:=nQ h
   have h2:=ap1 h
   omega
 obtain ⟨d,p,⟨⟩⟩:=f
 by_cases h1:1≤d∧d≤5
 ·by_cases h2:0≤p∧p<64
  ·obtain ⟨n,rfl⟩:=Int.eq_ofNat_of_zero_le (show 0≤d by omega)
   obtain ⟨m,rfl⟩:=Int.eq_ofNat_of_zero_le h2.1
   have h3:=List.all_eq_true.1 (List.all_eq_true.1 hk n (List.mem_range'_1.2 (by omega))) m (List.mem_range.2 (by omega))
   exact eq_of_beq h3
  ·rw [hb _ (by show p<0∨64≤p;omega),hno _ (.inr h2)]
 ·rw [hd _ (ay3.2 (by show d<1∨5<d;omega)),hno _ (.inl h1)]
def ajW (p0:(Int×(Int×Unit))):Tre Bool:=
 .cond (inR p0.1 1 5)
  (.mat (tT p0.2.1) fun r1=>
  .cond r1
   (.mat (oQ p0.2.1) fun r2=>
   .ret (decide (r2=p0.1)))
   (.ret false))
  (.ret false)
def IC (p0:(Int×(Int×Unit))):Option Bool:=(ajW p0).run some
-- more
theorem amh(f:Int×Int×Unit):IC f=some (aO f):=by
 refine asB ?_ ?_ (by kernel_rfl) f
 ·intro f h
  unfold IC ajW
  rw [Tre.aA,h];rfl
 ·intro f h
  unfold IC ajW
  rw [Tre.aA]
  have:tT f.2.1=some false:=by
   unfold tT Gb
   rw [Tre.aA]
   by_cases h1:f.2.1>0
   ·rw [decide_eq_true h1,cond_true,Tre.aA,decide_eq_false (by omega)];rfl
   ·rw [decide_eq_false h1];rfl
  rw [ah this]
  cases inR f.1 1 5<;>rfl
def apx:Env:=⟨tau,[(86,Dv),(115,Md),(116,Ec)],[]⟩
def azw:FnI:=fnI Tryz.f83 []
def ahN (_:(Int×(Int×Unit))):Bool→au:=fun r=>⟨(.imm true .bool r),[],[]⟩
theorem awy:∀(p0:(Int×(Int×Unit))),bL apx azw ⟨[(.imm true aP p0)],[]⟩=(ajW p0).run fun r=>some (ahN p0 r):=fun _=>by kernel_rfl
def azv (av:List AV) (rs:List Root):Tre au:=
 aD av fun a0_ av0=>
 aN av0<|
 aN rs<|
 ay true aP a0_ fun d1=>
 .mat (IC d1) fun r=>.ret (ahN d1 r)
def agx:Ctr:=dD [] azv
theorem ami:Contract Tryz.prog .none 83 agx:=aB (V:=apx) aV (ak Dw aoV (ak aby aEM (ak JN avH aI))) Tryz.func83 bN fun _ _ _=>aK fun _ _=>bn<|bn<|aH fun _=>fun h=>by intros;subst_vars;exact bB (awy _) h
def agz (p0:(Int×(Int×Unit))):Tre Int:=
 .ite (0≤aJ .u64 p0.1)<|
 let v1:=F7 .i64 1 (aJ .u64 p0.1)
 .ret v1
def zI (p0:(Int×(Int×Unit))):Option Int:=(agz p0).run some
def ahP:Env:=⟨tau,[],[]⟩
def aum:FnI:=fnI Tryz.f87 []
def Z5 (_:(Int×(Int×Unit))):Int→au:=fun r=>⟨(.i r),[],[]⟩
theorem arb:∀(p0:(Int×(Int×Unit))),bL ahP aum ⟨[(.imm true aP p0)],[]⟩=(agz p0).run fun r=>some (Z5 p0 r):=fun _=>by kernel_rfl
def aul (av:List AV) (rs:List Root):Tre au:=
 aD av fun a0_ av0=>
 aN av0<|
 aN rs<|
 ay true aP a0_ fun d1=>
 .mat (zI d1) fun r=>.ret (Z5 d1 r)
def Mk:Ctr:=dD [] aul
theorem RV:Contract Tryz.prog .none 87 Mk:=aB (V:=ahP) aV aI Tryz.func87 bN fun _ _ _=>aK fun _ _=>bn<|bn<|aH fun _=>fun h=>by intros;subst_vars;exact bB (arb _) h
-- shared
abbrev TN6:=TF3×Int×Int×List (List Int)×List (List Int)×Unit
def e0(e:List Int):Int:=e.getD 0 0
def e1(e:List Int):Int:=e.getD 1 0
def edgeOk(N:Int)(es:List (List Int))(i:Nat)(e:List Int):Bool:=
 decide (e.length=2)&&((inR (e0 e) 0 (N-1)&&(inR (e1 e) 0 (N-1)&&decide (e0 e<e1 e)))&&(decide (i=0)||decide (e0 (es.getD (i-1) [])≤e0 e)))
theorem avG{N:Int}{es:List (List Int)}{i:Nat}{e:List Int}(h:edgeOk N es i e=true):e.length=2:=by
 unfold edgeOk at h
 rw [Bool.and_eq_true] at h
 exact of_decide_eq_true h.1
def aGS(es:List (List Int))(node:Int):List Int:=aBD (fun i e=>if e1 e=node then some (i:Int) else none) 0 es
def aHj(n:TN6)(node:Int):Int:=if node=0 then n.2.2.1 else ((aGS n.2.2.2.1 node).length:Int)
def Zo(f:TF3):Int:=2 ^ f.1.toNat-1
theorem arL{f:TF3}(h:aO f=true):aJ .i64 (F7 .i64 1 (aJ .u64 f.1)-1)=Zo f:=by
 obtain ⟨h1,h2⟩:=nQ h
 obtain ⟨n,hn⟩:=Int.eq_ofNat_of_zero_le (show 0≤f.1 by omega)
 unfold Zo
 rw [hn]
 have:∀n:Nat,n<6→aJ .i64 (F7 .i64 1 (aJ .u64 (n:Int))-1)=2 ^ (n:Int).toNat-1:=by decide
 exact this n (by omega)
theorem aCg{f:TF3}(h:aO f=true):aJ .i64 (F7 .i64 1 f.1-1)=Zo f:=by
 obtain ⟨h1,h2⟩:=nQ h
 have:=arL h
 rw [OV (by omega) (by omega)] at this
 exact this
def oW(f:TF3)(c:List Int):Bool:=c.all fun x=>inR x 0 (Zo f)
def aEz(n:TN6)(i:Nat)(c:List Int):Bool:=decide ((c.length:Int)=aHj n (e0 (n.2.2.2.1.getD i [])))&&oW n.1 c
structure aFR(n:TN6):Prop where
 field:aO n.1=true
 nodes:2≤n.2.1∧n.2.1≤8
 mess:1≤n.2.2.1∧n.2.2.1≤3
 len:n.2.2.2.1.length≤14
 clen:n.2.2.2.2.1.length=n.2.2.2.1.length
 edges:∀i e,n.2.2.2.1[i]?=some e→edgeOk n.2.1 n.2.2.2.1 i e=true
 coefs:∀i c,n.2.2.2.2.1[i]?=some c→aEz n i c=true
theorem aFR.two{n:TN6}(h:aFR n){i:Nat}{e:List Int}(he:n.2.2.2.1[i]?=some e):∃a b,e=[a,b]∧0≤a∧a<b∧b≤n.2.1-1:=by
 have:=h.edges i e he
 obtain ⟨a,b,rfl⟩:=len2 (avG this)
 simp only [edgeOk,Bool.and_eq_true,gX,decide_eq_true_eq,e0,e1,List.getD_cons_zero,List.getD_cons_succ] at this
 exact ⟨a,b,rfl,by omega,by omega,by omega⟩
theorem sZ{α:Type}{l:List α}{i:Nat}{x d:α}(h:l[i]?=some x):l.getD i d=x:=by
 rw [List.getD_eq_getElem?_getD,h];rfl
def mK (aS:List Int) (dA:(Int×(Int×Unit))):Int→Tre (Int ⊕ (Bool ⊕ Unit)):=fun s2=>
 .cond (decide (s2<(aS.length:Int)))
  (.ite (0≤s2∧s2<(aS.length:Int))<|
  .mat (aS[s2.toNat]?) fun x1=>
  .mat (zI dA) fun r2=>
  let v3:=inR x1 0 (aJ .i64 (r2-1))
  .cond (!v3)
   (.ret (.inr (.inl false)))
   (.ret (.inl (aJ .i64 (s2+1)))))
  (.ret (.inr (.inr ())))
def NI (p0:(Int×(Int×Unit))) (p1:List Int):Tre Bool:=
 .mat (aL (mK p1 p0) 0) fun l4=>
 .alt l4
  (fun a5=>
   .ret a5)
  (fun _=>
   .ret true)
def rR (p0:(Int×(Int×Unit))) (p1:List Int):Option Bool:=(NI p0 p1).run some
-- more
theorem ad9{f:TF3}(hf:aO f=true):zI f=some (F7 .i64 1 (aJ .u64 f.1)):=by
 have:=nQ hf
 unfold zI agz
 rw [Tre.run_ite,if_pos (OW _)]
 rfl
theorem PI{f:TF3}(hf:aO f=true)(c:List Int)(hc:c.length<4611686018427387904):rR f c=some (oW f c):=by
 unfold rR NI oW
 rw [Tre.jl,aoE (xs:=c) (fun x=>inR x 0 (Zo f)) (.inl false) (.inr ())]
 ·generalize List.all _ _=z
  cases z<;>rfl
 ·intro i x hx
  have hi:i<c.length:=(List.getElem?_eq_some_iff.1 hx).1
  unfold mK
  rw [dW hx,ah (ad9 hf),arL hf]
  dsimp only
  rw [Tre.aA]
  cases inR x 0 (Zo f)
  ·rfl
  ·simp only [Bool.not_true,cond_false,cond_true,Tre.aG,aQ (show i<4611686018427387904 by omega)]
 ·unfold mK
  exact dB
def yD:Env:=⟨tau,[(87,Mk),(86,Dv)],[]⟩
def TP:Code:=(Tryz.f54.body).getD .skip
def wZ (eF:Bool) (aS:List Int) (dA:(Int×(Int×Unit))):Int→St:=fun x=>bO [(1,(.imm eF .il aS)),(2,(.ptr (4,0) [])),(5,(.i x))] [((4,0),some ⟨true,aP,.own,dA⟩)]
def oI (_:Bool) (_:List Int) (_:(Int×(Int×Unit))):(Bool ⊕ Unit)→Ex×St
 |.inl x=>(.ret,bO [(4,(.imm true .bool x))] [])
 |.inr _=>(.exit 0,bO [(4,.dead)] [])
def Ke (s:St):Tre (Ex×St):=
 bg .il (s.tmps 1) fun z3 d2=>
 dR (4,0) [] (s.tmps 2)<|
 ay true .n (s.tmps 5) fun d6=>
 aZ true aP (s.roots (4,0)) fun m8 d9=>
 asM .own m8<|
 .mat (aL (mK d2 d9) d6) fun x=>.alt x (fun a0=>.ret (oI z3 d2 d9 (.inl a0))) (fun b0=>.ret (oI z3 d2 d9 (.inr b0)))
def mY:bA:=⟨([1,2,5],[(4,0)]),([4],[]),Ke⟩
def Gh:List (Nat×bA):=[(2,mY)]
theorem UO:∀(eF:Bool)(aS:List Int)(dA:(Int×(Int×Unit)))(x:Int)(c:St→Option (Ex×St)),den yD Gh (aR TP 0) (wZ eF aS dA x) (bR mY.kp mY.kx c)=(mK aS dA x).run (bS (wZ eF aS dA) (oI eF aS dA) c):=fun _ _ _ _ _=>by
 kernel_rfl
theorem Zg:bP yD Gh (aR TP 0) mY:=fP fun s e s' h=>by
 generalize hs:restrict mY.kp s=s1 at h
 have h:(Ke s1).run some=some (e,s'):=h
 obtain ⟨z3,d2,e1,h_0⟩:=fG h
 obtain ⟨e4,h_1⟩:=Qh h_0
 obtain ⟨d6,e5,h_2⟩:=cu h_1
 obtain ⟨m8,d9,e7,h_3⟩:=gQ h_2
 obtain ⟨rfl,h_4⟩:=uI h_3
 obtain ⟨y,hy,hz⟩:=iE h_4
 refine ⟨_,_,wZ z3 d2 d9,oI z3 d2 d9,mK d2 d9,d6,y,?_,hy,?_,UO z3 d2 d9⟩
 ·subst hs;exact aM (T:=[(1,(.imm z3 .il d2)),(2,(.ptr (4,0) [])),(5,(.i d6))]) (U:=[((4,0),some ⟨true,aP,.own,d9⟩)]) rfl rfl ⟨e1,e4,e5,trivial⟩ ⟨e7,trivial⟩
 ·rcases y with x|x<;>exact Option.some.inj hz
def ajA:FnI:=fnI Tryz.f54 Gh
def MK (_:Bool) (_:(Int×(Int×Unit))) (_:List Int):Bool→au:=fun r=>⟨(.imm true .bool r),[],[]⟩
theorem agQ:∀(zp0:Bool)(p0:(Int×(Int×Unit)))(p1:List Int),bL yD ajA ⟨[(.imm true aP p0),(.imm zp0 .il p1)],[]⟩=(NI p0 p1).run fun r=>some (MK zp0 p0 p1 r):=fun _ _ _=>by kernel_rfl
def ajz (av:List AV) (rs:List Root):Tre au:=
 aD av fun a0_ av0=>
 aD av0 fun a1_ av1=>
 aN av1<|
 aN rs<|
 ay true aP a0_ fun d1=>
 bg .il a1_ fun z3 d2=>
 .mat (rR d1 d2) fun r=>.ret (MK z3 d1 d2 r)
def Gi:Ctr:=dD [] ajz
theorem PK:Contract Tryz.prog .none 54 Gi:=aB (V:=yD) aV (ak RV aAG (ak Dw aoV aI)) Tryz.func54 (bD (n:=1) fun k hk=>by
 match k,hk with
 |0,_=>exact bF (id:=2) Zg) fun _ _ _=>aK fun _ _=>aK fun _ _=>bn<|bn<|aH fun _=>bZ fun _ _=>fun h=>by intros;subst_vars;exact bB (agQ _ _ _) h
def agR (p0:(Int×(Int×Unit))) (p1:List Int):Tre Bool:=
 let v1:=inR (p1.length:Int) 1 5
 .cond v1
  (.mat (rR p0 p1) fun r2=>
  .ret r2)
  (.ret false)
def ML (p0:(Int×(Int×Unit))) (p1:List Int):Option Bool:=(agR p0 p1).run some
def ah4:Env:=⟨tau,[(86,Dv),(54,Gi)],[]⟩
def auL:FnI:=fnI Tryz.f84 []
def aah (_:Bool) (_:(Int×(Int×Unit))) (_:List Int):Bool→au:=fun r=>⟨(.imm true .bool r),[],[]⟩
theorem arx:∀(zp0:Bool)(p0:(Int×(Int×Unit)))(p1:List Int),bL ah4 auL ⟨[(.imm true aP p0),(.imm zp0 .il p1)],[]⟩=(agR p0 p1).run fun r=>some (aah zp0 p0 p1 r):=fun _ _ _=>by kernel_rfl
def auK (av:List AV) (rs:List Root):Tre au:=
 aD av fun a0_ av0=>
 aD av0 fun a1_ av1=>
 aN av1<|
 aN rs<|
 ay true aP a0_ fun d1=>
 bg .il a1_ fun z3 d2=>
 .mat (ML d1 d2) fun r=>.ret (aah z3 d1 d2 r)
def ah5:Ctr:=dD [] auK
theorem arz:Contract Tryz.prog .none 84 ah5:=aB (V:=ah4) aV (ak Dw aoV (ak PK aDY aI)) Tryz.func84 bN fun _ _ _=>aK fun _ _=>aK fun _ _=>bn<|bn<|aH fun _=>bZ fun _ _=>fun h=>by intros;subst_vars;exact bB (arx _ _ _) h
def al8 (p0:List Int):Tre (List Int):=
 .ite ((0+p0.length)*8≤bI∧1≤8)<|
 .ret ([]++p0)
def al9 (p0:List Int):Option (List Int):=(al8 p0).run some
theorem an9(p0 y:List Int)(h:fQ p0=some y):al9 p0=some y:=by
 obtain ⟨hl,rfl⟩:=Pb h
 have hb:(0+p0.length)*8≤bI∧1≤8:=by unfold bI;omega
 unfold al9 al8
 rw [Tre.run_ite,if_pos hb]
 rfl
def ama:Env:=⟨tau,[],[]⟩
def awv:FnI:=fnI Tryz.f108 []
def adY (_:Bool) (_:List Int):(List Int)→au:=fun r=>⟨(.ref (1,0) []),[],[⟨false,.il,.own,r⟩]⟩
theorem aue:∀(zp0:Bool)(p0:List Int),bL ama awv ⟨[(.imm zp0 .il p0)],[]⟩=(al8 p0).run fun r=>some (adY zp0 p0 r):=fun _ _=>by kernel_rfl
def awu (av:List AV) (rs:List Root):Tre au:=
 aD av fun a0_ av0=>
 aN av0<|
 aN rs<|
 bg .il a0_ fun z2 d1=>
 .mat (fQ d1) fun r=>.ret (adY z2 d1 r)
def Dx:Ctr:=dD [] awu
theorem Fv:Contract Tryz.prog .none 108 Dx:=aB (V:=ama) aV aI Tryz.func108 bN fun _ _ _=>aK fun _ _=>bn<|bn<|bZ fun _ _=>fun h=>by intros;subst_vars;exact nR (aue _ _) (an9 _) h
def ams (p0:Int) (p1:Int):Tre Int:=
 .ite (0≤aJ .u64 p1)<|
 let v1:=OU .i64 p0 (aJ .u64 p1)
 .ret (Rj .i64 v1 1)
def amt (p0:Int) (p1:Int):Option Int:=(ams p0 p1).run some
def ar7(x j:Int):Option Int:=akg (inR j 0 9223372036854775807) (Rj .i64 (OU .i64 x j) 1)
theorem aoj(p0 p1 y:Int)(h:ar7 p0 p1=some y):amt p0 p1=some y:=by
 obtain ⟨hl,rfl⟩:=rW h
 rw [gX] at hl
 unfold amt ams
 rw [OV hl.1 (by omega),Tre.run_ite,if_pos hl.1]
 rfl
theorem ar8{x:Int}{j:Nat}(h:j≤1048576):ar7 x (j:Int)=some (Rj .i64 (OU .i64 x j) 1):=gY (by rw [gX];omega)
def amu:Env:=⟨tau,[],[]⟩
def awE:FnI:=fnI Tryz.f114 []
def aec (_:Int) (_:Int):Int→au:=fun r=>⟨(.i r),[],[]⟩
theorem aup:∀(p0 p1:Int),bL amu awE ⟨[(.i p0),(.i p1)],[]⟩=(ams p0 p1).run fun r=>some (aec p0 p1 r):=fun _ _=>by kernel_rfl
def awD (av:List AV) (rs:List Root):Tre au:=
 aD av fun a0_ av0=>
 aD av0 fun a1_ av1=>
 aN av1<|
 aN rs<|
 ay true .n a0_ fun d1=>
 ay true .n a1_ fun d2=>
 .mat (ar7 d1 d2) fun r=>.ret (aec d1 d2 r)
def amv:Ctr:=dD [] awD
theorem auq:Contract Tryz.prog .none 114 amv:=aB (V:=amu) aV aI Tryz.func114 bN fun _ _ _=>aK fun _ _=>aK fun _ _=>bn<|bn<|aH fun _=>aH fun _=>fun h=>by intros;subst_vars;exact nR (aup _ _) (aoj _ _) h
def lK (dU:Int) (eY:List Int):(Int×Int)→Tre ((Int×Int) ⊕ Int):=fun s8=>
 .cond (decide (s8.2<(eY.length:Int)))
  (.cond (decide (s8.1<0))
   (.ite (0≤s8.2∧s8.2<(eY.length:Int))<|
   .mat (eY[s8.2.toNat]?) fun x2=>
   .mat (ar7 x2 dU) fun r3=>
   .cond (decide (r3=1))
    (.ret (.inl (s8.2,aJ .i64 (s8.2+1))))
    (.ret (.inl (s8.1,aJ .i64 (s8.2+1)))))
   (.ret (.inr s8.1)))
  (.ret (.inr s8.1))
def iR (DN:Int) (DR:Int):(Int×(List Int))→Tre ((Int×(List Int)) ⊕ (List Int)):=fun s16=>
 .cond (decide (s16.1<(s16.2.length:Int)))
  (.ite (0≤s16.1∧s16.1<(s16.2.length:Int))<|
  .mat (s16.2[s16.1.toNat]?) fun x7=>
  .mat (ar7 x7 DN) fun r8=>
  .cond (decide (r8=1))
   (.ite (0≤s16.1∧s16.1<(s16.2.length:Int))<|
   .mat (s16.2[s16.1.toNat]?) fun x9=>
   .ite (0≤s16.1∧s16.1<(s16.2.length:Int))<|
   .mat (s16.2[s16.1.toNat]?) fun _=>
   let v11:=s16.2.set s16.1.toNat (iD .i64 x9 DR)
   .ret (.inl (aJ .i64 (s16.1+1),v11)))
   (.ret (.inl (aJ .i64 (s16.1+1),s16.2))))
  (.ret (.inr s16.2))
def qp (DZ:Int) (D5:Int):(Int×(List Int))→Tre ((Int×(List Int)) ⊕ (List Int)):=fun s21=>
 .cond (decide (s21.1<(s21.2.length:Int)))
  (.ite (0≤s21.1∧s21.1<(s21.2.length:Int))<|
  .mat (s21.2[s21.1.toNat]?) fun x13=>
  .mat (ar7 x13 DZ) fun r14=>
  .cond (decide (r14=1))
   (.ite (0≤s21.1∧s21.1<(s21.2.length:Int))<|
   .mat (s21.2[s21.1.toNat]?) fun x15=>
   .ite (0≤s21.1∧s21.1<(s21.2.length:Int))<|
   .mat (s21.2[s21.1.toNat]?) fun _=>
   let v17:=s21.2.set s21.1.toNat (iD .i64 x15 D5)
   .ret (.inl (aJ .i64 (s21.1+1),v17)))
   (.ret (.inl (aJ .i64 (s21.1+1),s21.2))))
  (.ret (.inr s21.2))
def gB (bU:Int):(Int×(List Int)×(List Int))→Tre ((Int×(List Int)×(List Int)) ⊕ (List Int)):=fun s4=>
 .cond (decide (s4.1<bU))
  (.mat (aL (lK s4.1 s4.2.1) (-1,0)) fun l4=>
  .cond (decide (l4<0))
   (.ret (.inl (aJ .i64 (s4.1+1),s4.2.1,s4.2.2)))
   (.ite (0≤l4∧l4<(s4.2.1.length:Int))<|
   .mat (s4.2.1[l4.toNat]?) fun x5=>
   .ite (0≤l4∧l4<(s4.2.1.length:Int))<|
   .mat (s4.2.1[l4.toNat]?) fun _=>
   .mat (aL (iR s4.1 x5) (0,s4.2.1.set l4.toNat 0)) fun l12=>
   .mat (aL (qp s4.1 x5) (0,s4.2.2)) fun l18=>
   .ite ((l18.length+1)*8≤bI∧1≤8)<|
   .ret (.inl (aJ .i64 (s4.1+1),l12,l18++([x5])))))
  (.ret (.inr s4.2.2))
def RY (p0:Int) (p1:List Int):Tre (List Int):=
 .mat (fQ p1) fun r1=>
 .mat (aL (gB p0) (0,r1,[])) fun l19=>
 .ret l19
def Xt (p0:Int) (p1:List Int):Option (List Int):=(RY p0 p1).run some
def apW (m:Int) (xs:List Int):Option (List Int):=akg (inR m 0 62&&Dr m.toNat xs) (NW xs)
theorem aed(c:Nat)(hc:c≤62)(xs:List Int)(hl:xs.length≤1048576):aL (lK (c:Int) xs) (-1,0)=some (nI (fun x=>nO x (c:Int)) 0 xs):=by
 have:=kN (xs:=xs) (step:=lK (c:Int) xs) (fun i acc=>(acc,(i:Int))) (fun i acc x=>cond (decide (acc<0)) (.inl (cond (nO x (c:Int)) (i:Int) acc)) (.inr acc)) id (fun _ _=>True) (by
  intro i acc x hx _
  refine ⟨?_,fun _ _=>trivial⟩
  have hi:i<xs.length:=(List.getElem?_eq_some_iff.1 hx).1
  unfold lK
  rw [Tre.aA,show decide (((acc,(i:Int)):Int×Int).2<(xs.length:Int))=true from by simpa using hi,cond_true,Tre.aA]
  by_cases h0:acc<0
  ·rw [show decide (acc<0)=true from by simpa using h0]
   rw [cond_true,dM hx,ah (ar8 (by omega):ar7 x (c:Int)=_),Tre.aA]
   show cond (nO x (c:Int)) _ _=_
   cases nO x (c:Int)
   ·rw [cond_false,Tre.aG,aQ (by omega)];rfl
   ·rw [cond_true,Tre.aG,aQ (by omega)];rfl
  ·rw [show decide (acc<0)=false from by simpa using h0]
   rfl)
  (by
  intro acc _
  unfold lK
  exact dB) xs 0 (-1) rfl (Nat.zero_le _) trivial
 rw [show (((-1:Int),(0:Int)):Int×Int)=(-1,((0:Nat):Int)) from rfl,this]
 have key:∀(l:List Int)(i:Nat),nH (β:=Int) (fun (i:Nat) (acc:Int) x=>cond (decide (acc<0)) (.inl (cond (nO x (c:Int)) (i:Int) acc)) (.inr acc)) id i (-1) l=nI (fun x=>nO x (c:Int)) i l:=by
  intro l
  induction l with
  |nil=>intro i;rfl
  |cons x l ih=>
   intro i
   simp only [nH,nI,show decide ((-1:Int)<0)=true from rfl,cond_true]
   cases nO x (c:Int)
   ·exact ih (i+1)
   ·have hn:decide ((i:Int)<0)=false:=by simp
    cases l with
    |nil=>rfl
    |cons y l=>simp only [nH,cond_true,hn,cond_false]
 rw [key]
theorem Mq(c r:Nat)(hc:c≤62)(hr:r<2 ^ 62)(l:List Nat)(hb:∀n∈l,n<2 ^ 62)(hl:l.length≤1048576):aL (iR (c:Int) (r:Int)) (0,up l)=some (up (l.map (gU c r))):=by
 have:=apq (step:=iR (c:Int) (r:Int)) (fun _ x=>gU c r x) l id (by
  intro i x hx
  have hi:i<l.length:=(List.getElem?_eq_some_iff.1 hx).1
  have hx2:=X5 (ajT (g:=fun _ x=>gU c r x) (i:=i) hx)
  rw [if_neg (Nat.lt_irrefl i)] at hx2
  have hlen:(up (zF (fun _ x=>gU c r x) i l)).length=l.length:=by rw [mo,adF]
  have hxb:=hb x (List.mem_of_getElem? hx)
  rw [←atW hx]
  unfold iR
  rw [dW hx2,ah (ar8 (by omega):ar7 (x:Int) (c:Int)=_),Tre.aA]
  show cond (nO (x:Int) (c:Int)) _ _=_
  rw [vC (by omega) (by omega)]
  have he:gU c r x=cond (x.testBit c) (x^^^r) x:=rfl
  rw [he]
  cases x.testBit c
  ·rw [cond_false,Tre.aG,aQ (by omega)]
   refine congrArg (fun z=>some (Sum.inl (((i+1:Nat):Int),z))) ?_
   rw [cond_false,←X6]
   exact (List.ext_getElem? fun j=>by
    rw [List.getElem?_set]
    by_cases hj:i=j
    ·subst hj;rw [if_pos rfl,hx2,if_pos (List.getElem?_eq_some_iff.1 hx2).1]
    ·rw [if_neg hj]).symm
  ·rw [cond_true,dM hx2,dM hx2,Tre.aG,aQ (by omega),mV (by omega) (by omega),Int.toNat_natCast,cond_true,←X6])
  (by
  unfold iR
  have:((zF (fun _ x=>gU c r x) l.length l).length:Int)=(l.length:Int):=by rw [adF]
  show (Tre.cond (decide ((l.length:Int)<((up (zF (fun _ x=>gU c r x) l.length l)).length:Int))) _ _).run some=_
  rw [mo,adF]
  exact dB)
 rw [this,aqO]
 rfl
theorem Y9:qp=iR:=rfl
theorem Mr(m:Nat)(hm:m≤62)(orig:List Nat):∀(n c:Nat)(E:List (Nat×Nat))(R:List Nat),c+n=m→Inv orig c E R→E.length≤c→R.length≤1048576→(∀x∈R,x<2 ^ m)→(∀a∈E,a.2<2 ^ m) →
  ∃E':List Nat,aL (gB (m:Int)) ((c:Int),up R,up (E.map (·.2)))=some (up E')∧kK orig E':=by
 intro n
 have hp:=aqW hm
 induction n with
 |zero=>
  intro c E R hc hI _ _ hR _
  have:c=m:=hc
  subst this
  refine ⟨E.map (·.2),fE ?_,hI.done fun x hx=>Ir (hR x hx) (hI.low x hx)⟩
  unfold gB
  exact dB
 |succ n ih=>
  intro c E R hc hI hE hl hR hEb
  have hcm:c<m:=by omega
  have hstep:∀E2 R2,Inv orig (c+1) E2 R2→E2.length≤c+1→R2.length≤1048576→(∀x∈R2,x<2 ^ m)→(∀a∈E2,a.2<2 ^ m)→(gB (m:Int) ((c:Int),up R,up (E.map (·.2)))).run some=some (.inl (((c+1:Nat):Int),up R2,up (E2.map (·.2)))) →
    ∃E':List Nat,aL (gB (m:Int)) ((c:Int),up R,up (E.map (·.2)))=some (up E')∧kK orig E':=by
   intro E2 R2 h1 h2 h3 h4 h5 h6
   rw [lJ h6]
   exact ih (c+1) E2 R2 (by omega) h1 h2 h3 h4 h5
  have hfind:=aed c (by omega) (up R) (by rw [mo];exact hl)
  have hw:aJ .i64 ((c:Int)+1)=((c+1:Nat):Int):=aQ (by omega)
  have hdec:decide ((c:Int)<(m:Int))=true:=by simpa using hcm
  rcases yT (fun x=>nO x (c:Int)) (up R) 0 with ⟨h1,h2⟩|⟨k,x,h1,h2,h3⟩
  ·refine hstep E R (hI.skip fun x hx=>?_) (by omega) hl hR hEb ?_
   ·have:=h2 (x:Int) (List.mem_map.2 ⟨x,hx,rfl⟩)
    have hxb:=hR x hx
    rwa [vC (by omega) (by omega)] at this
   ·unfold gB
    rw [Tre.aA]
    show cond (decide ((c:Int)<(m:Int))) _ _=_
    rw [hdec,cond_true,ah (hfind.trans (by rw [h1])),Tre.aA]
    simp only [show decide ((-1:Int)<0)=true from rfl,cond_true,Tre.aG,hw]
  ·obtain ⟨r,hr1,rfl⟩:∃r:Nat,R[k]?=some r∧(r:Int)=x:=by
    simp only [up,List.getElem?_map,Option.map_eq_some_iff] at h1
    exact h1
   have hrm:r∈R:=List.mem_of_getElem? hr1
   have hrb:=hR r hrm
   rw [vC (by omega) (by omega)] at h2
   rw [Nat.zero_add] at h3
   have hk:k<R.length:=(List.getElem?_eq_some_iff.1 hr1).1
   have hE2:((E.map fun a=>(a.1,gU c r a.2))++[(c,r)]).map (·.2)=(E.map (·.2)).map (gU c r)++[r]:=by simp [List.map_map,Function.comp_def]
   refine hstep (E.map (fun a=>(a.1,gU c r a.2))++[(c,r)]) ((R.set k 0).map (gU c r)) (hI.step hrm h2 ?_ ?_) (by simp;omega) (by simpa using hl) ?_ ?_ ?_
   ·intro y hy
    obtain ⟨x,hx,rfl⟩:=List.mem_map.1 hy
    rcases List.mem_or_eq_of_mem_set hx with hx|rfl
    ·exact .inr ⟨x,hx,rfl⟩
    ·exact .inl (by unfold gU;simp)
   ·intro x hx
    obtain ⟨j,hj⟩:=List.getElem?_of_mem hx
    by_cases hjk:k=j
    ·subst hjk;rw [hr1] at hj;exact .inl (Option.some.inj hj).symm
    ·refine .inr (List.mem_map.2 ⟨x,List.mem_of_getElem? (i:=j) ?_,rfl⟩)
     rw [List.getElem?_set,if_neg hjk,hj]
   ·intro y hy
    obtain ⟨x,hx,rfl⟩:=List.mem_map.1 hy
    refine aco hrb ?_
    rcases List.mem_or_eq_of_mem_set hx with hx|rfl
    ·exact hR x hx
    ·exact Nat.two_pow_pos m
   ·intro a ha
    rcases List.mem_append.1 ha with ha|ha
    ·obtain ⟨b,hb,rfl⟩:=List.mem_map.1 ha
     exact aco hrb (hEb b hb)
    ·simp only [List.mem_singleton] at ha;subst ha;exact hrb
   ·have e1:=Mq c r (by omega) (by omega) (R.set k 0) (fun x hx=>by
     rcases List.mem_or_eq_of_mem_set hx with hx|rfl
     ·have:=hR x hx;omega
     ·decide) (by simpa using hl)
    have e2:aL (qp (c:Int) (r:Int)) (0,up (E.map (·.2)))=some (up ((E.map (·.2)).map (gU c r))):=by
     rw [Y9]
     exact Mq c r (by omega) (by omega) (E.map (·.2)) (fun x hx=>by
     obtain ⟨a,ha,rfl⟩:=List.mem_map.1 hx
     have:=hEb a ha
     omega) (by simp;omega)
    unfold gB
    rw [Tre.aA]
    show cond (decide ((c:Int)<(m:Int))) _ _=_
    rw [hdec,cond_true,ah (hfind.trans (by rw [h3])),Tre.aA]
    rw [show decide ((k:Int)<0)=false from by simp,cond_false,dM h1,dM h1,Int.toNat_natCast]
    rw [show (up R).set k 0=up (R.set k 0) from X6 R k 0,ah e1,ah e2]
    rw [Tre.run_ite,if_pos (by unfold bI;rw [mo];simp;omega),Tre.aG,hw,hE2]
    simp [up]
theorem aeg(p0:Int)(p1 y:List Int)(h:apW p0 p1=some y):Xt p0 p1=some y:=by
 obtain ⟨hl,rfl⟩:=rW h
 rw [Bool.and_eq_true,gX] at hl
 obtain ⟨m,rfl⟩:∃m:Nat,p0=(m:Int):=⟨p0.toNat,by omega⟩
 obtain ⟨ns,rfl,hlen,hb,hn⟩:=agj hl.2
 rw [Int.toNat_natCast] at hb
 obtain ⟨E,h1,h2⟩:=Mr m (by omega) ns m 0 [] ns (by omega) (Inv.start ns) (Nat.zero_le _) hlen hb (fun a ha=>by cases ha)
 unfold Xt RY
 have e1:fQ (up ns)=some (up ns):=Dl (by rw [mo];exact hlen)
 have h1:aL (gB (m:Int)) (0,up ns,[])=some (up E):=h1
 rw [ah e1,ah h1]
 unfold NW
 rw [hn,apY h2]
 rfl
def iG:Env:=⟨tau,[(108,Dx),(114,amv)],[]⟩
def kG:Code:=(Tryz.f80.body).getD .skip
def JX (dJ:Int) (dU:Int) (eY:List Int) (mP:List Int):(Int×Int)→St:=fun x=>bO [(0,(.i dJ)),(5,(.ref (7,0) [])),(6,(.ref (8,0) [])),(7,(.i dU)),(8,(.i x.1)),(9,(.i x.2))] [((7,0),some ⟨false,.il,.own,eY⟩),((8,0),some ⟨false,.il,.own,mP⟩)]
def GZ (dJ:Int) (dU:Int) (eY:List Int) (mP:List Int):Int→Ex×St:=fun x=>(.exit 2,bO [(0,(.i dJ)),(5,(.ref (7,0) [])),(6,(.ref (8,0) [])),(7,(.i dU)),(8,(.i x))] [((7,0),some ⟨false,.il,.own,eY⟩),((8,0),some ⟨false,.il,.own,mP⟩)])
def aef (s:St):Tre (Ex×St):=
 ay true .n (s.tmps 0) fun d2=>
 dF (7,0) [] (s.tmps 5)<|
 dF (8,0) [] (s.tmps 6)<|
 ay true .n (s.tmps 7) fun d6=>
 ay true .n (s.tmps 8) fun d8=>
 ay true .n (s.tmps 9) fun d10=>
 aZ false .il (s.roots (7,0)) fun m12 d13=>
 asM .own m12<|
 aZ false .il (s.roots (8,0)) fun m15 d16=>
 asM .own m15<|
 .mat (aL (lK d6 d13) (d8,d10)) fun x=>.ret (GZ d2 d6 d13 d16 x)
def tX:bA:=⟨([0,5,6,7,8,9],[(7,0),(8,0)]),([0,5,6,7,8],[(7,0),(8,0)]),aef⟩
def GV (QB:Int) (DN:Int) (DR:Int) (QC:List Int):(Int×(List Int))→St:=fun x=>bO [(0,(.i QB)),(5,(.ref (7,0) [])),(6,(.ref (8,0) [])),(7,(.i DN)),(10,(.i DR)),(11,(.i x.1))] [((7,0),some ⟨false,.il,.own,x.2⟩),((8,0),some ⟨false,.il,.own,QC⟩)]
def Fx (QB:Int) (DN:Int) (DR:Int) (QC:List Int):(List Int)→Ex×St:=fun x=>(.exit 4,bO [(0,(.i QB)),(5,(.ref (7,0) [])),(6,(.ref (8,0) [])),(7,(.i DN)),(10,(.i DR))] [((7,0),some ⟨false,.il,.own,x⟩),((8,0),some ⟨false,.il,.own,QC⟩)])
def abF (s:St):Tre (Ex×St):=
 ay true .n (s.tmps 0) fun d2=>
 dF (7,0) [] (s.tmps 5)<|
 dF (8,0) [] (s.tmps 6)<|
 ay true .n (s.tmps 7) fun d6=>
 ay true .n (s.tmps 10) fun d8=>
 ay true .n (s.tmps 11) fun d10=>
 aZ false .il (s.roots (7,0)) fun m12 d13=>
 asM .own m12<|
 aZ false .il (s.roots (8,0)) fun m15 d16=>
 asM .own m15<|
 .mat (aL (iR d6 d8) (d10,d13)) fun x=>.ret (Fx d2 d6 d8 d16 x)
def q9:bA:=⟨([0,5,6,7,10,11],[(7,0),(8,0)]),([0,5,6,7,10],[(7,0),(8,0)]),abF⟩
def GX (QG:Int) (DZ:Int) (D5:Int) (QH:List Int):(Int×(List Int))→St:=fun x=>bO [(0,(.i QG)),(5,(.ref (7,0) [])),(6,(.ref (8,0) [])),(7,(.i DZ)),(10,(.i D5)),(12,(.i x.1))] [((7,0),some ⟨false,.il,.own,QH⟩),((8,0),some ⟨false,.il,.own,x.2⟩)]
def Fz (QG:Int) (DZ:Int) (D5:Int) (QH:List Int):(List Int)→Ex×St:=fun x=>(.exit 6,bO [(0,(.i QG)),(5,(.ref (7,0) [])),(6,(.ref (8,0) [])),(7,(.i DZ)),(10,(.i D5))] [((7,0),some ⟨false,.il,.own,QH⟩),((8,0),some ⟨false,.il,.own,x⟩)])
def abG (s:St):Tre (Ex×St):=
 ay true .n (s.tmps 0) fun d2=>
 dF (7,0) [] (s.tmps 5)<|
 dF (8,0) [] (s.tmps 6)<|
 ay true .n (s.tmps 7) fun d6=>
 ay true .n (s.tmps 10) fun d8=>
 ay true .n (s.tmps 12) fun d10=>
 aZ false .il (s.roots (7,0)) fun m12 d13=>
 asM .own m12<|
 aZ false .il (s.roots (8,0)) fun m15 d16=>
 asM .own m15<|
 .mat (aL (qp d6 d8) (d10,d16)) fun x=>.ret (Fz d2 d6 d8 d13 x)
def ru:bA:=⟨([0,5,6,7,10,12],[(7,0),(8,0)]),([0,5,6,7,10],[(7,0),(8,0)]),abG⟩
def JW (bU:Int):(Int×(List Int)×(List Int))→St:=fun x=>bO [(0,(.i bU)),(5,(.ref (7,0) [])),(6,(.ref (8,0) [])),(7,(.i x.1))] [((7,0),some ⟨false,.il,.own,x.2.1⟩),((8,0),some ⟨false,.il,.own,x.2.2⟩)]
def GY (_:Int):(List Int)→Ex×St:=fun x=>(.exit 0,bO [(6,(.ref (8,0) []))] [((8,0),some ⟨false,.il,.own,x⟩)])
def aee (s:St):Tre (Ex×St):=
 ay true .n (s.tmps 0) fun d2=>
 dF (7,0) [] (s.tmps 5)<|
 dF (8,0) [] (s.tmps 6)<|
 ay true .n (s.tmps 7) fun d6=>
 aZ false .il (s.roots (7,0)) fun m8 d9=>
 asM .own m8<|
 aZ false .il (s.roots (8,0)) fun m11 d12=>
 asM .own m11<|
 .mat (aL (gB d2) (d6,d9,d12)) fun x=>.ret (GY d2 x)
def tV:bA:=⟨([0,5,6,7],[(7,0),(8,0)]),([6],[(8,0)]),aee⟩
def jm:List (Nat×bA):=[(8,tX),(16,q9),(21,ru),(4,tV)]
theorem Xv:∀(dJ dU:Int)(eY mP:List Int)(x:(Int×Int))(c:St→Option (Ex×St)),den iG jm (aR kG 1) (JX dJ dU eY mP x) (bR tX.kp tX.kx c)=(lK dU eY x).run (bS (JX dJ dU eY mP) (GZ dJ dU eY mP) c):=fun _ _ _ _ _ _=>by
 kernel_rfl
theorem abI:bP iG jm (aR kG 1) tX:=bV fun _ _ _=>aH fun _=>fu<|fu<|aH fun _=>aH fun _=>aH fun _=>bT fun _ _=>tM<|bT fun _ _=>tM<|fun h _ e14 _ e11 e9 e7 e5 e4 e3 e1=>bJ (Xv _ _ _ _) h (by subst_vars;exact aM rfl rfl ⟨e1,e3,e4,e5,e7,e9,trivial⟩ ⟨e11,e14,trivial⟩)
theorem UJ:∀(QB DN DR:Int)(QC:List Int)(x:(Int×(List Int)))(c:St→Option (Ex×St)),den iG jm (aR kG 2) (GV QB DN DR QC x) (bR q9.kp q9.kx c)=(iR DN DR x).run (bS (GV QB DN DR QC) (Fx QB DN DR QC) c):=fun _ _ _ _ _ _=>by
 kernel_rfl
theorem Y8:bP iG jm (aR kG 2) q9:=bV fun _ _ _=>aH fun _=>fu<|fu<|aH fun _=>aH fun _=>aH fun _=>bT fun _ _=>tM<|bT fun _ _=>tM<|fun h _ e14 _ e11 e9 e7 e5 e4 e3 e1=>bJ (UJ _ _ _ _) h (by subst_vars;exact aM rfl rfl ⟨e1,e3,e4,e5,e7,e9,trivial⟩ ⟨e11,e14,trivial⟩)
theorem UK:∀(QG DZ D5:Int)(QH:List Int)(x:(Int×(List Int)))(c:St→Option (Ex×St)),den iG jm (aR kG 3) (GX QG DZ D5 QH x) (bR ru.kp ru.kx c)=(qp DZ D5 x).run (bS (GX QG DZ D5 QH) (Fz QG DZ D5 QH) c):=fun _ _ _ _ _ _=>by
 kernel_rfl
theorem Za:bP iG jm (aR kG 3) ru:=bV fun _ _ _=>aH fun _=>fu<|fu<|aH fun _=>aH fun _=>aH fun _=>bT fun _ _=>tM<|bT fun _ _=>tM<|fun h _ e14 _ e11 e9 e7 e5 e4 e3 e1=>bJ (UK _ _ _ _) h (by subst_vars;exact aM rfl rfl ⟨e1,e3,e4,e5,e7,e9,trivial⟩ ⟨e11,e14,trivial⟩)
theorem Xu:∀(bU:Int)(x:(Int×(List Int)×(List Int)))(c:St→Option (Ex×St)),den iG jm (aR kG 0) (JW bU x) (bR tV.kp tV.kx c)=(gB bU x).run (bS (JW bU) (GY bU) c):=fun _ _ _=>by
 kernel_rfl
theorem abH:bP iG jm (aR kG 0) tV:=bV fun _ _ _=>aH fun _=>fu<|fu<|aH fun _=>bT fun _ _=>tM<|bT fun _ _=>tM<|fun h _ e10 _ e7 e5 e4 e3 e1=>bJ (Xu _) h (by subst_vars;exact aM rfl rfl ⟨e1,e3,e4,e5,trivial⟩ ⟨e7,e10,trivial⟩)
def amx:FnI:=fnI Tryz.f80 jm
def Pv (_:Bool) (_:Int) (_:List Int):(List Int)→au:=fun r=>⟨(.ref (1,0) []),[],[⟨false,.il,.own,r⟩]⟩
theorem ajk:∀(zp0:Bool)(p0:Int)(p1:List Int),bL iG amx ⟨[(.i p0),(.imm zp0 .il p1)],[]⟩=(RY p0 p1).run fun r=>some (Pv zp0 p0 p1 r):=fun _ _ _=>by kernel_rfl
def amw (av:List AV) (rs:List Root):Tre au:=
 aD av fun a0_ av0=>
 aD av0 fun a1_ av1=>
 aN av1<|
 aN rs<|
 ay true .n a0_ fun d1=>
 bg .il a1_ fun z3 d2=>
 .mat (apW d1 d2) fun r=>.ret (Pv z3 d1 d2 r)
def Br:Ctr:=dD [] amw
theorem Gd:Contract Tryz.prog .none 80 Br:=aB (V:=iG) aV (ak Fv afg (ak auq aEL aI)) Tryz.func80 (bD (n:=4) fun k hk=>by
 match k,hk with
 |0,_=>exact bF (id:=4) abH
 |1,_=>exact bF (id:=8) abI
 |2,_=>exact bF (id:=16) Y8
 |3,_=>exact bF (id:=21) Za) fun _ _ _=>aK fun _ _=>aK fun _ _=>bn<|bn<|aH fun _=>bZ fun _ _=>fun h=>by intros;subst_vars;exact nR (ajk _ _ _) (aeg _ _) h
def agE (p0:Int) (p1:List Int):Tre Int:=
 .mat (apW p0 p1) fun r1=>
 .ret (r1.length:Int)
def ahQ (p0:Int) (p1:List Int):Option Int:=(agE p0 p1).run some
def apt (m:Int) (xs:List Int):Option Int:=akg (inR m 0 62&&Dr m.toNat xs) ((NW xs).length:Int)
theorem amF(p0:Int)(p1:List Int)(y:Int)(h:apt p0 p1=some y):ahQ p0 p1=some y:=by
 obtain ⟨hl,rfl⟩:=rW h
 unfold ahQ agE
 rw [ah (show apW p0 p1=some _ from gY hl)]
 rfl
def ahR:Env:=⟨tau,[(80,Br)],[]⟩
def aus:FnI:=fnI Tryz.f85 []
def Z8 (_:Bool) (_:Int) (_:List Int):Int→au:=fun r=>⟨(.i r),[],[]⟩
theorem ard:∀(zp0:Bool)(p0:Int)(p1:List Int),bL ahR aus ⟨[(.i p0),(.imm zp0 .il p1)],[]⟩=(agE p0 p1).run fun r=>some (Z8 zp0 p0 p1 r):=fun _ _ _=>by kernel_rfl
def aur (av:List AV) (rs:List Root):Tre au:=
 aD av fun a0_ av0=>
 aD av0 fun a1_ av1=>
 aN av1<|
 aN rs<|
 ay true .n a0_ fun d1=>
 bg .il a1_ fun z3 d2=>
 .mat (apt d1 d2) fun r=>.ret (Z8 z3 d1 d2 r)
def XD:Ctr:=dD [] aur
theorem aek:Contract Tryz.prog .none 85 XD:=aB (V:=ahR) aV (ak Gd aAF aI) Tryz.func85 bN fun _ _ _=>aK fun _ _=>aK fun _ _=>bn<|bn<|aH fun _=>bZ fun _ _=>fun h=>by intros;subst_vars;exact nR (ard _ _ _) (amF _ _) h
def Sd (p0:aF):Tre Bool:=
 .mat (IC p0.1) fun r1=>
 .cond r1
  (.mat (ML p0.1 p0.2.1) fun r2=>
  .cond r2
   (.mat (apt p0.1.1 p0.2.1) fun r3=>
   .cond (decide (r3=(p0.2.1.length:Int)))
    (let v4:=inR p0.2.2.1 1 (p0.2.1.length:Int)
    .ret v4)
    (.ret false))
   (.ret false))
  (.ret false)
def u7 (p0:aF):Option Bool:=(Sd p0).run some
def XU:Env:=⟨tau,[(83,agx),(84,ah5),(85,XD),(86,Dv)],[]⟩
def amY:FnI:=fnI Tryz.f53 []
def PY (zp0:Bool) (p0:aF):Bool→au:=fun r=>⟨(.imm true .bool r),[⟨true,aU,(.imm zp0),p0⟩],[]⟩
theorem ajG:∀(zp0:Bool)(p0:aF),bL XU amY ⟨[(.ptr (0,0) [])],[⟨true,aU,(.imm zp0),p0⟩]⟩=(Sd p0).run fun r=>some (PY zp0 p0 r):=fun _ _=>by kernel_rfl
def amX (av:List AV) (rs:List Root):Tre au:=
 aD av fun a0_ av0=>
 aN av0<|
 aD rs fun r0_ rs0=>
 aN rs0<|
 dR (0,0) [] a0_<|
 wQ true aU r0_ fun m1 d2=>
 kr m1 fun z3=>
 .mat (u7 d2) fun r=>.ret (PY z3 d2 r)
def Kl:Ctr:=dD [] amX
theorem TV:Contract Tryz.prog .none 53 Kl:=aB (V:=XU) aV (ak ami aD2 (ak arz aGJ (ak aek aD3 (ak Dw aoV aI)))) Tryz.func53 bN fun _ _ _=>aK fun _ _=>bn<|aK fun _ _=>bn<|gL<|tRt fun _ _=>zU fun _=>fun h=>by intros;subst_vars;exact bB (ajG _ _) h
def nK (cZ:aT):Int→Tre (Int ⊕ (Bool ⊕ Unit)):=fun s4=>
 .cond (decide (s4<(cZ.2.1.length:Int)))
  (.ite (0≤s4∧s4<(cZ.2.1.length:Int))<|
  .mat (cZ.2.1[s4.toNat]?) fun x1=>
  .ite (0≤aJ .u64 cZ.1)<|
  let v2:=F7 .i64 1 (aJ .u64 cZ.1)
  let v3:=inR x1 0 (aJ .i64 (v2-1))
  .cond (!v3)
   (.ret (.inr (.inl false)))
   (.ret (.inl (aJ .i64 (s4+1)))))
  (.ret (.inr (.inr ())))
def RZ (p0:aT):Tre Bool:=
 .cond (!(inR p0.1 1 10))
  (.ret false)
  (.cond (decide ((p0.2.1.length:Int)>10))
   (.ret false)
   (.mat (aL (nK p0) 0) fun l4=>
   .alt l4
    (fun a5=>
     .ret a5)
    (fun _=>
     .ret true)))
def Bt (p0:aT):Option Bool:=(RZ p0).run some
def Bu:Env:=⟨tau,[(86,Dv)],[]⟩
def Xx:Code:=(Tryz.f104.body).getD .skip
def yY (nG:Bool) (cZ:aT):Int→St:=fun x=>bO [(0,(.ptr (0,0) [])),(3,(.i x))] [((0,0),some ⟨true,bC,(.imm nG),cZ⟩)]
def pU (nG:Bool) (cZ:aT):(Bool ⊕ Unit)→Ex×St
 |.inl x=>(.ret,bO [(2,(.imm true .bool x))] [((0,0),some ⟨true,bC,(.imm nG),cZ⟩)])
 |.inr _=>(.exit 0,bO [(2,.dead)] [((0,0),some ⟨true,bC,(.imm nG),cZ⟩)])
def Mv (s:St):Tre (Ex×St):=
 dR (0,0) [] (s.tmps 0)<|
 ay true .n (s.tmps 3) fun d3=>
 aZ true bC (s.roots (0,0)) fun m5 d6=>
 kr m5 fun z7=>
 .mat (aL (nK d6) d3) fun x=>.alt x (fun a0=>.ret (pU z7 d6 (.inl a0))) (fun b0=>.ret (pU z7 d6 (.inr b0)))
def oG:bA:=⟨([0,3],[(0,0)]),([2],[(0,0)]),Mv⟩
def J2:List (Nat×bA):=[(4,oG)]
theorem Xz:∀(nG:Bool)(cZ:aT)(x:Int)(c:St→Option (Ex×St)),den Bu J2 (aR Xx 0) (yY nG cZ x) (bR oG.kp oG.kx c)=(nK cZ x).run (bS (yY nG cZ) (pU nG cZ) c):=fun _ _ _ _=>by
 kernel_rfl
theorem abJ:bP Bu J2 (aR Xx 0) oG:=fP fun s e s' h=>by
 generalize hs:restrict oG.kp s=s1 at h
 have h:(Mv s1).run some=some (e,s'):=h
 obtain ⟨e1,h_0⟩:=Qh h
 obtain ⟨d3,e2,h_1⟩:=cu h_0
 obtain ⟨m5,d6,e4,h_2⟩:=gQ h_1
 obtain ⟨z7,rfl,h_3⟩:=KX h_2
 obtain ⟨y,hy,hz⟩:=iE h_3
 refine ⟨_,_,yY z7 d6,pU z7 d6,nK d6,d3,y,?_,hy,?_,Xz z7 d6⟩
 ·subst hs;exact aM (T:=[(0,(.ptr (0,0) [])),(3,(.i d3))]) (U:=[((0,0),some ⟨true,bC,(.imm z7),d6⟩)]) rfl rfl ⟨e1,e2,trivial⟩ ⟨e4,trivial⟩
 ·rcases y with x|x<;>exact Option.some.inj hz
def amC:FnI:=fnI Tryz.f104 J2
def Pw (zp0:Bool) (p0:aT):Bool→au:=fun r=>⟨(.imm true .bool r),[⟨true,bC,(.imm zp0),p0⟩],[]⟩
theorem ajl:∀(zp0:Bool)(p0:aT),bL Bu amC ⟨[(.ptr (0,0) [])],[⟨true,bC,(.imm zp0),p0⟩]⟩=(RZ p0).run fun r=>some (Pw zp0 p0 r):=fun _ _=>by kernel_rfl
def amB (av:List AV) (rs:List Root):Tre au:=
 aD av fun a0_ av0=>
 aN av0<|
 aD rs fun r0_ rs0=>
 aN rs0<|
 dR (0,0) [] a0_<|
 wQ true bC r0_ fun m1 d2=>
 kr m1 fun z3=>
 .mat (Bt d2) fun r=>.ret (Pw z3 d2 r)
def Xy:Ctr:=dD [] amB
theorem ajn:Contract Tryz.prog .none 104 Xy:=aB (V:=Bu) aV (ak Dw aoV aI) Tryz.func104 (bD (n:=1) fun k hk=>by
 match k,hk with
 |0,_=>exact bF (id:=4) abJ) fun _ _ _=>aK fun _ _=>bn<|aK fun _ _=>bn<|gL<|tRt fun _ _=>zU fun _=>fun h=>by intros;subst_vars;exact bB (ajl _ _) h
def vV (bU:List Int) (cZ:List Int):Int→Tre (Int ⊕ (Bool ⊕ Unit)):=fun s4=>
 .cond (decide (s4<(bU.length:Int)))
  (.ite (0≤s4∧s4<(bU.length:Int))<|
  .mat (bU[s4.toNat]?) fun x1=>
  .ite (0≤s4∧s4<(cZ.length:Int))<|
  .mat (cZ[s4.toNat]?) fun x2=>
  .cond (!decide (x1=x2))
   (.ret (.inr (.inl false)))
   (.ret (.inl (aJ .i64 (s4+1)))))
  (.ret (.inr (.inr ())))
def agu (p0:List Int) (p1:List Int):Tre Bool:=
 .cond (!decide ((p0.length:Int)=(p1.length:Int)))
  (.ret false)
  (.mat (aL (vV p0 p1) 0) fun l3=>
  .alt l3
   (fun a4=>
    .ret a4)
   (fun _=>
    .ret true))
def ahJ (p0:List Int) (p1:List Int):Option Bool:=(agu p0 p1).run some
def aia(a b:List Int):Option Bool:=akg (decide (a.length≤1048576)&&decide (b.length≤1048576)) (decide (a=b))
def sameAt(b:List Int)(i:Nat)(x:Int):Option (Bool ⊕ Unit):=match b[i]? with
 |some y=>cond (decide (x=y)) none (some (.inl false))
 |none=>none
theorem akC(b:List Int):∀(l:List Int)(i:Nat),l.length=(b.drop i).length→Gq (β:=Bool ⊕ Unit) (sameAt b) (.inr ()) i l=cond (decide (l=b.drop i)) (.inr ()) (.inl false):=by
 intro l
 induction l with
 |nil=>
  intro i h
  have:b.drop i=[]:=List.eq_nil_of_length_eq_zero h.symm
  rw [this];rfl
 |cons x l ih=>
  intro i h
  have hi:i<b.length:=by rw [List.length_drop,List.length_cons] at h;omega
  have hd:b.drop i=b[i]::b.drop (i+1):=List.drop_eq_getElem_cons hi
  have hlen:l.length=(b.drop (i+1)).length:=by rw [hd,List.length_cons,List.length_cons] at h;omega
  have hih:=ih (i+1) hlen
  simp only [Gq,sameAt]
  rw [List.getElem?_eq_getElem hi]
  simp only
  by_cases hx:x=b[i]
  ·rw [decide_eq_true hx,cond_true,hih]
   by_cases hl:l=b.drop (i+1)
   ·rw [decide_eq_true hl,decide_eq_true (show x::l=b.drop i by rw [hd,hx,hl])]
   ·rw [decide_eq_false hl,decide_eq_false (fun h2=>hl (by rw [hd] at h2;exact (List.cons.inj h2).2))]
  ·rw [decide_eq_false hx,cond_false,decide_eq_false (fun h2=>hx (by rw [hd] at h2;exact (List.cons.inj h2).1))]
   rfl
theorem amb(p0 p1:List Int)(y:Bool)(h:aia p0 p1=some y):ahJ p0 p1=some y:=by
 obtain ⟨hok,rfl⟩:=rW h
 simp only [Bool.and_eq_true,decide_eq_true_eq] at hok
 unfold ahJ agu
 rw [Tre.aA]
 by_cases hl:p0.length=p1.length
 ·rw [decide_eq_true (show (p0.length:Int)=(p1.length:Int) by omega),Bool.not_true,cond_false,Tre.jl,vF (xs:=p0) (sameAt p1) (.inr ()),akC p1 p0 0 (by simpa using hl)]
  ·rw [List.drop_zero]
   cases decide (p0=p1)<;>rfl
  ·intro i x hx
   have hi:i<p0.length:=(List.getElem?_eq_some_iff.1 hx).1
   have hy:p1[i]?=some p1[i]:=List.getElem?_eq_getElem (by omega)
   unfold vV
   unfold sameAt
   rw [dW hx,dM hy,Tre.aA,hy]
   dsimp only
   cases decide (x=p1[i])
   ·rfl
   ·simp only [Bool.not_true,cond_true,cond_false,Tre.aG,aQ (show i<4611686018427387904 by omega)]
  ·unfold vV
   exact dB
 ·rw [decide_eq_false (show ¬(p0.length:Int)=(p1.length:Int) by omega),Bool.not_false,cond_true,Tre.aG,decide_eq_false (fun h=>hl (by rw [h]))]
def Mg:Env:=⟨tau,[],[]⟩
def ahK:Code:=(Tryz.f105.body).getD .skip
def Gc (nG:Bool) (X8:Bool) (bU:List Int) (cZ:List Int):Int→St:=fun x=>bO [(0,(.imm nG .il bU)),(1,(.imm X8 .il cZ)),(5,(.i x))] []
def vW (_:Bool) (_:Bool) (_:List Int) (_:List Int):(Bool ⊕ Unit)→Ex×St
 |.inl x=>(.ret,bO [(4,(.imm true .bool x))] [])
 |.inr _=>(.exit 0,bO [(4,.dead)] [])
def Xi (s:St):Tre (Ex×St):=
 bg .il (s.tmps 0) fun z3 d2=>
 bg .il (s.tmps 1) fun z6 d5=>
 ay true .n (s.tmps 5) fun d8=>
 .mat (aL (vV d2 d5) d8) fun x=>.alt x (fun a0=>.ret (vW z3 z6 d2 d5 (.inl a0))) (fun b0=>.ret (vW z3 z6 d2 d5 (.inr b0)))
def uW:bA:=⟨([0,1,5],[]),([4],[]),Xi⟩
def Xh:List (Nat×bA):=[(4,uW)]
theorem adZ:∀(nG X8:Bool)(bU cZ:List Int)(x:Int)(c:St→Option (Ex×St)),den Mg Xh (aR ahK 0) (Gc nG X8 bU cZ x) (bR uW.kp uW.kx c)=(vV bU cZ x).run (bS (Gc nG X8 bU cZ) (vW nG X8 bU cZ) c):=fun _ _ _ _ _ _=>by
 kernel_rfl
theorem ajg:bP Mg Xh (aR ahK 0) uW:=fP fun s e s' h=>by
 generalize hs:restrict uW.kp s=s1 at h
 have h:(Xi s1).run some=some (e,s'):=h
 obtain ⟨z3,d2,e1,h_0⟩:=fG h
 obtain ⟨z6,d5,e4,h_1⟩:=fG h_0
 obtain ⟨d8,e7,h_2⟩:=cu h_1
 obtain ⟨y,hy,hz⟩:=iE h_2
 refine ⟨_,_,Gc z3 z6 d2 d5,vW z3 z6 d2 d5,vV d2 d5,d8,y,?_,hy,?_,adZ z3 z6 d2 d5⟩
 ·subst hs;exact aM (T:=[(0,(.imm z3 .il d2)),(1,(.imm z6 .il d5)),(5,(.i d8))]) (U:=[]) rfl rfl ⟨e1,e4,e7,trivial⟩ trivial
 ·rcases y with x|x<;>exact Option.some.inj hz
def aug:FnI:=fnI Tryz.f105 Xh
def ZY (_:Bool) (_:Bool) (_:List Int) (_:List Int):Bool→au:=fun r=>⟨(.imm true .bool r),[],[]⟩
theorem aq6:∀(zp0 zp1:Bool)(p0 p1:List Int),bL Mg aug ⟨[(.imm zp0 .il p0),(.imm zp1 .il p1)],[]⟩=(agu p0 p1).run fun r=>some (ZY zp0 zp1 p0 p1 r):=fun _ _ _ _=>by kernel_rfl
def auf (av:List AV) (rs:List Root):Tre au:=
 aD av fun a0_ av0=>
 aD av0 fun a1_ av1=>
 aN av1<|
 aN rs<|
 bg .il a0_ fun z2 d1=>
 bg .il a1_ fun z4 d3=>
 .mat (aia d1 d3) fun r=>.ret (ZY z2 z4 d1 d3 r)
def ahL:Ctr:=dD [] auf
theorem aq7:Contract Tryz.prog .none 105 ahL:=aB (V:=Mg) aV aI Tryz.func105 (bD (n:=1) fun k hk=>by
 match k,hk with
 |0,_=>exact bF (id:=4) ajg) fun _ _ _=>aK fun _ _=>aK fun _ _=>bn<|bn<|bZ fun _ _=>bZ fun _ _=>fun h=>by intros;subst_vars;exact nR (aq6 _ _ _ _) (amb _ _) h
def ali (p0:Int) (p1:Int) (p2:Int):Tre Bool:=
 .cond (decide (p0 ≥ p1))
  (.ret (decide (p0≤p2)))
  (.ret false)
def alj (p0:Int) (p1:Int) (p2:Int):Option Bool:=(ali p0 p1 p2).run some
theorem anQ(n a b:Int):alj n a b=some (inR n a b):=by
 unfold alj ali inR
 by_cases h:a≤n
 ·simp [Tre.aA,Tre.aG,h]
 ·simp [Tre.aA,Tre.aG,h]
def alk:Env:=⟨tau,[],[]⟩
def av4:FnI:=fnI Tryz.f92 []
def ac8 (_:Int) (_:Int) (_:Int):Bool→au:=fun r=>⟨(.imm true .bool r),[],[]⟩
theorem as5:∀(p0 p1 p2:Int),bL alk av4 ⟨[(.i p0),(.i p1),(.i p2)],[]⟩=(ali p0 p1 p2).run fun r=>some (ac8 p0 p1 p2 r):=fun _ _ _=>by kernel_rfl
def avZ (av:List AV) (rs:List Root):Tre au:=
 aD av fun a0_ av0=>
 aD av0 fun a1_ av1=>
 aD av1 fun a2_ av2=>
 aN av2<|
 aN rs<|
 ay true .n a0_ fun d1=>
 ay true .n a1_ fun d2=>
 ay true .n a2_ fun d3=>
 .ret (ac8 d1 d2 d3 (inR d1 d2 d3))
def yS:Ctr:=dD [] avZ
theorem zy:Contract Tryz.prog .none 92 yS:=aB (V:=alk) aV aI Tryz.func92 bN fun _ _ _=>aK fun _ _=>aK fun _ _=>aK fun _ _=>bn<|bn<|aH fun _=>aH fun _=>aH fun _=>fun h=>by intros;subst_vars;exact sW (as5 _ _ _) (anQ _ _ _) h
def Q5 (p0:aT) (p1:Int):Tre Bool:=
 .ite (0≤p0.1)<|
 let v1:=aJ .i64 ((F7 .i64 1 p0.1)-1)
 .ret (inR p1 0 v1)
def Av (p0:aT) (p1:Int):Option Bool:=(Q5 p0 p1).run some
def VP:Env:=⟨tau,[(92,yS)],[]⟩
def akR:FnI:=fnI Tryz.f132 []
def OB (_:Bool) (_:aT) (_:Int):Bool→au:=fun r=>⟨(.imm true .bool r),[],[]⟩
theorem aiB:∀(zp0:Bool)(p0:aT)(p1:Int),bL VP akR ⟨[(.imm zp0 bC p0),(.i p1)],[]⟩=(Q5 p0 p1).run fun r=>some (OB zp0 p0 p1 r):=fun _ _ _=>by kernel_rfl
def akQ (av:List AV) (rs:List Root):Tre au:=
 aD av fun a0_ av0=>
 aD av0 fun a1_ av1=>
 aN av1<|
 aN rs<|
 bg bC a0_ fun z2 d1=>
 ay true .n a1_ fun d3=>
 .mat (Av d1 d3) fun r=>.ret (OB z2 d1 d3 r)
def VQ:Ctr:=dD [] akQ
theorem aiD:Contract Tryz.prog .none 132 VQ:=aB (V:=VP) aV (ak zy aoW aI) Tryz.func132 bN fun _ _ _=>aK fun _ _=>aK fun _ _=>bn<|bn<|bZ fun _ _=>aH fun _=>fun h=>by intros;subst_vars;exact bB (aiB _ _ _) h
def uN (p0:Int) (p1:aT):Tre Bool:=
 .mat (Av p1 p0) fun r1=>
 .ret (!r1)
def lV (p0:Int) (p1:aT):Option Bool:=(uN p0 p1).run some
def AO:Env:=⟨tau,[(132,VQ)],[]⟩
def Rb:FnI:=fnI Tryz.f131 []
def xC (zp0:Bool) (_:Int) (p1:aT):Bool→au:=fun r=>⟨(.imm true .bool r),[⟨true,bC,(.imm zp0),p1⟩],[]⟩
theorem OH:∀(zp0:Bool)(p0:Int)(p1:aT),bL AO Rb ⟨[(.i p0),(.ptr (0,0) [])],[⟨true,bC,(.imm zp0),p1⟩]⟩=(uN p0 p1).run fun r=>some (xC zp0 p0 p1 r):=fun _ _ _=>by kernel_rfl
def Ra (av:List AV) (rs:List Root):Tre au:=
 aD av fun a0_ av0=>
 aD av0 fun a1_ av1=>
 aN av1<|
 aD rs fun r0_ rs0=>
 aN rs0<|
 ay true .n a0_ fun d1=>
 dR (0,0) [] a1_<|
 wQ true bC r0_ fun m2 d3=>
 kr m2 fun z4=>
 .mat (lV d1 d3) fun r=>.ret (xC z4 d1 d3 r)
def AP:Ctr:=dD [] Ra
theorem OJ:Contract Tryz.prog .none 131 AP:=aB (V:=AO) aV (ak aiD aEZ aI) Tryz.func131 bN fun _ _ _=>aK fun _ _=>aK fun _ _=>bn<|aK fun _ _=>bn<|aH fun _=>gL<|tRt fun _ _=>zU fun _=>fun h=>by intros;subst_vars;exact bB (OH _ _ _) h
end Go.Proofs.YtihiobjhogpmdaaGreat
