/- Part 3 of the proof of FnExactErrorLocator. -/
import Derived.WalkKit
import Derived.ProofKit
import Derived.OpenShut
import Derived.ShutString
import Derived.ChangeOld
import Derived.Below
import Derived.SizedLaws
import Derived.Carry
import Derived.IntWalk
import Derived.Deep.RegionLaw
import Derived.Test.YtihiobjhogpmdaaGreatProg
import Derived.Test.YtihiobjhogpmdaaGreatDl2
set_option maxRecDepth 100000
noncomputable section
namespace Go.Abs
def cmb(rs:RF)(fs:List Root):RF:=fun q=>if q.1=1 then fs[q.2]? else rs q
structure Moved(w:World)(C0:Ctx)(rs0:RF)(C:Ctx)(rs:RF)(fs:List Root)(ks:List Kill):Prop where
 Z:C.Z=C0.Z
 S:C.S=C0.S
 pars:∀i,C.θ (par i)=C0.θ (par i)∧C.ρ (par i)=C0.ρ (par i)
 mem:Mem w C (cmb rs fs)
 leaf:∀b vs,b.dO=true→hit ks b=false→(∀q∈b.names,q.1≠1)→AVC w C0 rs0 b vs→AVC w C (cmb rs fs) b vs
 foot:∀q y b,cmb rs fs q=some y→C.F q b→∃q0 y0,rs0 q0=some y0∧C0.F q0 b
 ptr1:∀q y,cmb rs fs q=some y→∀p∈bn y.k y.d,p.1≠1
 rs1:∀i,rs (par i)=rs0 (par i)
structure Uy(w:World)(C:Ctx)(rs:RF)(fs:List Root)(ks:List Kill)(C':Ctx)(rs':RF)(fs':List Root)(ks':List Kill):Prop where
 leaf:∀b vs,b.dO=true→hit ks' b=false→(∀q∈b.names,q.1=1→q.2<fs.length)→AVC w C (cmb rs fs) b vs→AVC w C' (cmb rs' fs') b vs
 grow:fs.length≤fs'.length
 ks:∀b,hit ks' b=false→hit ks b=false
section
variable {P : Program} {V : Env} {w : World} {C0 C : Ctx} {rs0 rs : RF} {fs : List Root} {ks : List Kill}
variable {R' : Type} {r : R'}
theorem Uy.refl:Uy w C rs fs ks C rs fs ks:=⟨fun _ _ _ _ _ h=>h,Nat.le_refl _,fun _ h=>h⟩
theorem Uy.trans{C1 C2:Ctx}{rs1 rs2:RF}{fs1 fs2:List Root}{k1 k2:List Kill}(h:Uy w C rs fs ks C1 rs1 fs1 k1)(k:Uy w C1 rs1 fs1 k1 C2 rs2 fs2 k2):Uy w C rs fs ks C2 rs2 fs2 k2:=
 ⟨fun b vs hl hh hn hb=>k.leaf b vs hl hh (fun q hq h1=>Nat.lt_of_lt_of_le (hn q hq h1) h.grow) (h.leaf b vs hl (k.ks b hh) hn hb),Nat.le_trans h.grow k.grow,fun b hb=>h.ks b (k.ks b hb)⟩
theorem ap0(xs:List Kill):∀(a:AV),∀q∈(AV.kills xs a).names,q∈a.names:=by
 intro a
 induction a with
 |pair a b iha ihb=>
  intro q hq
  rw [lI] at hq
  simp only [AV.names,List.mem_append] at hq ⊢
  exact hq.imp (iha q) (ihb q)
 |tcons a b iha ihb=>
  intro q hq
  rw [mg] at hq
  simp only [AV.names,List.mem_append] at hq ⊢
  exact hq.imp (iha q) (ihb q)
 |_=>
  intro q hq
  rw [fM _ _ rfl] at hq
  cases hh:hit xs _ with
  |true=>rw [hh] at hq;cases hq
  |false=>rw [hh] at hq;exact hq
theorem AVC.atL{w':World}{C C':Ctx}{rs rs':RF}{xs:List Kill}{N:aF→Prop}
  (h:∀a vs,a.dO=true→hit xs a=false→(∀q∈a.names,N q)→AVC w C rs a vs→AVC w' C' rs' a vs):∀(a:AV)(vs:List Value),(∀q∈a.names,N q)→AVC w C rs a vs→AVC w' C' rs' (AV.kills xs a) vs:=by
 intro a
 induction a with
 |pair a b iha ihb=>
  intro vs hn hv
  obtain ⟨v1,v2,rfl,h1,h2⟩:=hv
  rw [lI]
  exact ⟨v1,v2,rfl,iha _ (fun q hq=>hn q (by simp [AV.names,hq])) h1,ihb _ (fun q hq=>hn q (by simp [AV.names,hq])) h2⟩
 |tcons a b=>intro vs _ hv;exact hv.elim
 |_=>
  intro vs hn hv
  rw [fM _ _ rfl]
  cases hx:hit xs _ with
  |true=>trivial
  |false=>exact h _ _ rfl hx hn hv
theorem Md.atL{w':World}{C C':Ctx}{rs rs':RF}{xs:List Kill}{N:aF→Prop}
  (h:∀a vs,a.dO=true→hit xs a=false→(∀q∈a.names,N q)→AVC w C rs a vs→AVC w' C' rs' a vs) {v:Value} {a:AV} (hn:∀q∈a.names,N q) (hv:Md w C rs v a):Md w' C' rs' v (AV.kills xs a):=by
 rcases hv with rfl|⟨ha,vs,rfl,hv⟩|⟨ha,hv,hc⟩
 ·left;exact wF xs
 ·right;left
  refine ⟨?_,vs,rfl,AVC.atL h _ _ hn hv⟩
  cases a with
  |pair a b=>rw [lI];rfl
  |imm z k d=>
   rw [fM _ _ rfl]
   have:hit xs (.imm z k d)=false:=by simp only [hit,List.any_eq_false];intro x _;cases x<;>simp [Kill.hits]
   rw [this];exact ha
  |_=>simp [AV.agg] at ha
 ·have hl:a.dO=true:=by cases a<;>first|rfl|exact hv.elim|(simp [AV.agg] at ha;done)
  rw [fM _ _ hl]
  cases hx:hit xs a with
  |true=>left;rfl
  |false=>right;right;exact ⟨ha,h _ _ hl hx hn hv,hc⟩
theorem al1{rs rs':RF}{k:K}{av:AV}(h:∀q∈av.names,rs' q=rs q)(c:List k.den→Mask→U→List Kill→List aF→Option R'):gD rs' k [] av c=gD rs k [] av c:=by
 cases av with
 |ref q p=>
  have:look rs' [] q=look rs [] q:=h q (by simp [AV.names])
  simp only [gD,this]
 |slc q p lo n=>
  have hq:look rs' [] q=look rs [] q:=h q (by simp [AV.names])
  cases p with
  |nil=>simp only [gD,hq]
  |cons=>rfl
 |_=>rfl
theorem aw2(M:Moved w C0 rs0 C rs fs ks){k:K}{av:AV}{v:Value}(hl:av.dO=true)(hloc:av.isLocal=true)(hh:hit ks av=false)(hn:∀q∈av.names,q.1≠1)(hv:AVC w C0 rs0 av [v])
  {c:List k.den→Mask→U→List Kill→List aF→Option R'} (h:gD rs k [] av c=some r) :
  ∃xs m u' k1 g1 C',c xs m u' k1 g1=some r∧Moved w C0 rs0 C' (look rs u') (fs++[⟨false,.sl k,m,xs⟩]) (ks++k1)∧Uy w C rs fs ks C' (look rs u') (fs++[⟨false,.sl k,m,xs⟩]) (ks++k1) ∧
   AVC w C' (cmb (look rs u') (fs++[⟨false,.sl k,m,xs⟩])) (.ref (fr fs.length) []) [v]:=by
 have hcur:=M.leaf av [v] hl hh hn hv
 have hcmb:∀q,q.1≠1→cmb rs fs q=rs q:=fun q hq=>if_neg hq
 rw [←al1 (rs':=cmb rs fs) (fun q hq=>hcmb q (hn q hq)) c] at h
 have hlook0:look (cmb rs fs) []=cmb rs fs:=rfl
 obtain ⟨xs,m,u',k1,g1,C2,G,g,hown,Fd,henc,hkeys,hptr⟩:=EN (rs:=cmb rs fs) (u:=[]) M.mem hcur h
 rw [hlook0] at Fd hptr
 have hnames:∀q∈av.names,2≤q.1:=by
  intro q hq
  cases av with
  |ref q0 p=>
   simp only [AV.names,List.mem_singleton] at hq
   subst hq
   obtain ⟨q1,q2⟩:=q
   match q1,hloc with
   |q1+2,_=>simp
  |slc q0 p lo n=>
   simp only [AV.names,List.mem_singleton] at hq
   subst hq
   obtain ⟨q1,q2⟩:=q
   match q1,hloc with
   |q1+2,_=>simp
  |nil=>cases hq
  |emp=>cases hq
  |_=>simp [AV.isLocal] at hloc
 have hu0:∀q:aF,q.1<2→dn q u'=none:=fun q hq=>hkeys q (fun h=>by have:=hnames q h;omega)
 have hrs1:∀q,q.1≠1→look (cmb rs fs) u' q=look rs u' q:=by
  intro q hq
  unfold look
  cases dn q u' with
  |some z=>rfl
  |none=>exact hcmb q hq
 have hrs2:∀j,look (cmb rs fs) u' (fr j)=fs[j]?:=by
  intro j
  unfold look
  rw [hu0 (fr j) (by simp)]
  rfl
 let C':Ctx:=C2.with (fr fs.length) 0 [v] G
 have hcase:∀{q:aF}{z:Root},cmb (look rs u') (fs++[⟨false,.sl k,m,xs⟩]) q=some z→(q=fr fs.length∧z=⟨false,.sl k,m,xs⟩)∨(q≠fr fs.length∧look (cmb rs fs) u' q=some z):=by
  rintro ⟨q1,q2⟩ z hz
  unfold cmb at hz
  by_cases h1:q1=1
  ·subst h1
   simp only [if_true] at hz
   by_cases h2:q2=fs.length
   ·subst h2
    simp only [List.getElem?_append_right (Nat.le_refl _),Nat.sub_self,List.getElem?_cons_zero,Option.some.injEq] at hz
    exact .inl ⟨rfl,hz.symm⟩
   ·have hlt:q2<fs.length:=by
     have:=(List.getElem?_eq_some_iff.1 hz).1
     simp at this;omega
    rw [List.getElem?_append_left hlt] at hz
    exact .inr ⟨by intro h;cases h;exact h2 rfl,by rw [show ((1,q2):aF)=fr q2 from rfl,hrs2];exact hz⟩
  ·rw [if_neg h1] at hz
   exact .inr ⟨by intro h;cases h;exact h1 rfl,by rw [hrs1 _ h1];exact hz⟩
 have hptr1:∀q z,cmb (look rs u') (fs++[⟨false,.sl k,m,xs⟩]) q=some z→∀p∈bn z.k z.d,p.1≠1:=by
  intro q z hz p hp
  rcases hcase hz with ⟨rfl,rfl⟩|⟨_,h2⟩
  ·obtain ⟨q0,x,hx,hp0⟩:=hptr p hp
   exact M.ptr1 q0 x hx p hp0
  ·obtain ⟨z0,hz0,_,_,hp0⟩:=Fd.was q z h2
   exact M.ptr1 q z0 hz0 p (hp0 p hp)
 have hneF:∀{p:aF},p.1≠1→p≠fr fs.length:=by rintro p hp rfl;exact hp rfl
 have hGfree:∀{b:Nat},G b→¬C.Z b∧¬C.S b∧b<w.heap.size:=fun hb=>Fd.free M.mem hb
 have hmem:Mem w C' (cmb (look rs u') (fs++[⟨false,.sl k,m,xs⟩])):=by
  refine ⟨?_,?_,?_,?_,?_⟩
  ·intro q z hz
   rcases hcase hz with ⟨rfl,rfl⟩|⟨h1,h2⟩
   ·refine ⟨G,?_,by rw [Ctx.jO];exact .refl _,fun h=>by cases h⟩
    rw [Ctx.with_ρ0]
    show Enc w C'.θ C2.Z C2.S (.sl k) m xs [v] G
    rw [Fd.Z,Fd.S]
    exact henc.mono (.refl _) (.refl _) (.refl _) (fun _ _=>rfl) (fun p hp=>by rw [Ctx.with_θ (hneF (hptr1 _ _ hz p hp)),Fd.θ])
   ·exact (Fd.mem.ok q z h2).keep rfl rfl (Ctx.with_θ h1) (Ctx.with_ρ h1) (Ctx.jN h1) (fun p hp=>Ctx.with_θ (hneF (hptr1 _ _ hz p hp))) (fun _ _=>rfl)
  ·intro q q' z z' hz hz' hne
   rcases hcase hz with ⟨rfl,rfl⟩|⟨h1,h2⟩<;>rcases hcase hz' with ⟨rfl,rfl⟩|⟨k1,k2⟩
   ·exact absurd rfl hne
   ·rw [Ctx.jO,Ctx.jN k1];exact Fd.gdisj q' z' k2
   ·rw [Ctx.jO,Ctx.jN h1];exact (Fd.gdisj q z h2).symm
   ·rw [Ctx.jN h1,Ctx.jN k1];exact Fd.mem.disj q q' z z' h2 k2 hne
  ·intro q z b hz hb
   show ¬C2.Z b∧¬C2.S b∧_
   rcases hcase hz with ⟨rfl,rfl⟩|⟨h1,h2⟩
   ·rw [Ctx.jO] at hb;rw [Fd.Z,Fd.S];exact hGfree hb
   ·rw [Ctx.jN h1] at hb;exact Fd.mem.apart q z b h2 hb
  ·exact Fd.mem.ro
  ·intro q z hz p hp z2 hz2
   rcases hcase hz2 with ⟨rfl,rfl⟩|⟨k1,k2⟩
   ·exact absurd rfl (hptr1 q z hz _ hp)
   ·rcases hcase hz with ⟨rfl,rfl⟩|⟨h1,h2⟩
    ·obtain ⟨q0,x,hx,hp0⟩:=hptr p hp
     obtain ⟨z0,hz0,_,hm0,_⟩:=Fd.was p z2 k2
     rw [hm0];exact M.mem.ptr q0 x hx p hp0 z0 hz0
    ·exact Fd.mem.ptr q z h2 p hp z2 k2
 have hstage:∀b vs,b.dO=true→hit k1 b=false→(∀q∈b.names,q.1=1→q.2<fs.length)→AVC w C (cmb rs fs) b vs→AVC w C' (cmb (look rs u') (fs++[⟨false,.sl k,m,xs⟩])) b vs:=by
  intro b vs hl hh hn hb
  refine mG (C':=C') Fd.mem (fun q=>q=fr fs.length) rfl rfl (fun q hq=>Ctx.with_θ hq) (fun q hq=>Ctx.with_ρ hq) ?_ (fun _ _=>rfl) hl (fun q hq h=>by
   have:=hn q hq (by rw [h]);rw [h] at this;simp at this) (Fd.leaf b vs hl hh hb)
  intro q z hq hz
  rcases hcase hz with ⟨h,_⟩|⟨_,h2⟩
  ·exact absurd h hq
  ·exact h2
 refine ⟨xs,m,u',k1,g1,C',g,⟨Fd.Z.trans M.Z,Fd.S.trans M.S,fun i=>?_,hmem,?_,?_,hptr1,fun i=>?_⟩,⟨fun b vs hl hh hn hb=>?_,by simp,fun b hb=>?_⟩,?_⟩
 ·rw [Ctx.with_θ (by intro h;cases h),Ctx.with_ρ (by intro h;cases h),Fd.θ,Fd.ρ];exact M.pars i
 ·intro b vs hl hh hn hb
  rw [Jy,Bool.or_eq_false_iff] at hh
  exact hstage b vs hl hh.2 (fun q hq h1=>absurd h1 (hn q hq)) (M.leaf b vs hl hh.1 hn hb)
 ·intro q z b hz hb
  rcases hcase hz with ⟨rfl,rfl⟩|⟨h1,h2⟩
  ·rw [Ctx.jO] at hb
   obtain ⟨q0,y0,hy0,hb0⟩:=Fd.gfoot b hb
   exact M.foot q0 y0 b hy0 hb0
  ·rw [Ctx.jN h1] at hb
   obtain ⟨z0,hz0,hs0,_⟩:=Fd.was q z h2
   exact M.foot q z0 b hz0 (hs0 b hb)
 ·unfold look
  rw [hu0 (par i) (by simp)]
  exact M.rs1 i
 ·rw [Jy,Bool.or_eq_false_iff] at hh
  exact hstage b vs hl hh.2 hn hb
 ·rw [Jy,Bool.or_eq_false_iff] at hb;exact hb.1
 ·refine ⟨v,rfl,fun z hz=>?_⟩
  rcases hcase hz with ⟨_,rfl⟩|⟨h,_⟩
  ·exact ⟨k,none,rfl,trivial,by rw [dh,Ctx.with_ρ0];rfl⟩
  ·exact absurd rfl h
theorem axF{w:World}{C:Ctx}{rs:RF}{av:AV}{vs:List Value}(h:AVC w C rs av vs)(hl:av.isLocal=true):∃v,vs=[v]:=by
 cases av with
 |nil=>exact ⟨_,h⟩
 |emp=>obtain ⟨a,h⟩:=h;exact ⟨_,h⟩
 |ref=>obtain ⟨v,h,_⟩:=h;exact ⟨v,h⟩
 |slc=>obtain ⟨v,_,h,_⟩:=h;exact ⟨v,h⟩
 |_=>cases hl
structure ay8(w:World)(C0:Ctx)(rs0:RF)(C:Ctx)(rs:RF)(fs:List Root)(ks:List Kill)(av a':AV)(rs':RF)(fs':List Root)(ks':List Kill)(C':Ctx)(vs:List Value):Prop where
 moved:Moved w C0 rs0 C' rs' fs' ks'
 stage:Uy w C rs fs ks C' rs' fs' ks'
 val:AVC w C' (cmb rs' fs') a' vs
 names:∀q∈a'.names,q.1=1→q.2<fs'.length
 agg:a'.agg=av.agg
theorem ayv(M:Moved w C0 rs0 C rs fs ks){q:aF}(hq:2≤q.1)(hh:hit ks (.ptr q [])=false){x:Root}(hx:rs q=some x)(hxm:x.mem=true){vs:List Value}(hv:AVC w C0 rs0 (.ptr q []) vs) :
  ∃C',Moved w C0 rs0 C' (look rs [(q,none)]) (fs++[x]) ks∧Uy w C rs fs ks C' (look rs [(q,none)]) (fs++[x]) ks∧AVC w C' (cmb (look rs [(q,none)]) (fs++[x])) (.ptr (fr fs.length) []) vs:=by
 have hcur:=M.leaf (.ptr q []) vs rfl hh (by intro p hp;simp only [AV.names,List.mem_singleton] at hp;subst hp;omega) hv
 have hx0:cmb rs fs q=some x:=by unfold cmb;rw [if_neg (by omega)];exact hx
 let C':Ctx:=C.with (fr fs.length) (C.θ q) (C.ρ q) (C.F q)
 have hcase:∀{p:aF}{z:Root},cmb (look rs [(q,none)]) (fs++[x]) p=some z→(p=fr fs.length∧z=x)∨(p≠fr fs.length∧p≠q∧cmb rs fs p=some z):=by
  rintro ⟨q1,q2⟩ z hz
  unfold cmb at hz
  by_cases h1:q1=1
  ·subst h1
   simp only [if_true] at hz
   by_cases h2:q2=fs.length
   ·subst h2
    simp only [List.getElem?_append_right (Nat.le_refl _),Nat.sub_self,List.getElem?_cons_zero,Option.some.injEq] at hz
    exact .inl ⟨rfl,hz.symm⟩
   ·have hlt:q2<fs.length:=by
     have:=(List.getElem?_eq_some_iff.1 hz).1
     simp at this;omega
    rw [List.getElem?_append_left hlt] at hz
    refine .inr ⟨by intro h;cases h;exact h2 rfl,by rintro rfl;simp at hq,?_⟩
    unfold cmb;rw [if_pos rfl];exact hz
  ·rw [if_neg h1] at hz
   unfold look at hz
   simp only [dn] at hz
   by_cases hqq:((q1,q2):aF)=q
   ·rw [cB.2 hqq] at hz;cases hz
   ·rw [iD hqq] at hz
    refine .inr ⟨by intro h;cases h;exact h1 rfl,hqq,?_⟩
    unfold cmb;rw [if_neg h1];exact hz
 have hptr1:∀p z,cmb (look rs [(q,none)]) (fs++[x]) p=some z→∀t∈bn z.k z.d,t.1≠1:=by
  intro p z hz t ht
  rcases hcase hz with ⟨rfl,rfl⟩|⟨_,_,h2⟩
  ·exact M.ptr1 q z hx0 t ht
  ·exact M.ptr1 p z h2 t ht
 have hneF:∀{p:aF},p.1≠1→p≠fr fs.length:=by rintro p hp rfl;exact hp rfl
 have hmem:Mem w C' (cmb (look rs [(q,none)]) (fs++[x])):=by
  refine ⟨?_,?_,?_,?_,?_⟩
  ·intro p z hz
   rcases hcase hz with ⟨rfl,rfl⟩|⟨h1,_,h2⟩
   ·obtain ⟨G,g1,g2,g3⟩:=M.mem.ok q z hx0
    refine ⟨G,?_,by rw [Ctx.jO];exact g2,fun hm=>by rw [Ctx.with_θ0,Ctx.jO,Ctx.with_ρ0];exact g3 hm⟩
    rw [Ctx.with_ρ0]
    exact g1.mono (.refl _) (.refl _) (.refl _) (fun _ _=>rfl) (fun t ht=>by rw [Ctx.with_θ (hneF (hptr1 _ _ hz t ht))])
   ·exact (M.mem.ok p z h2).keep rfl rfl (Ctx.with_θ h1) (Ctx.with_ρ h1) (Ctx.jN h1) (fun t ht=>Ctx.with_θ (hneF (hptr1 _ _ hz t ht))) (fun _ _=>rfl)
  ·intro p p' z z' hz hz' hne
   rcases hcase hz with ⟨rfl,rfl⟩|⟨h1,h1',h2⟩<;>rcases hcase hz' with ⟨rfl,rfl⟩|⟨k1,k1',k2⟩
   ·exact absurd rfl hne
   ·rw [Ctx.jO,Ctx.jN k1];exact M.mem.disj q p' z z' hx0 k2 (Ne.symm k1')
   ·rw [Ctx.jO,Ctx.jN h1];exact M.mem.disj p q z z' h2 hx0 h1'
   ·rw [Ctx.jN h1,Ctx.jN k1];exact M.mem.disj p p' z z' h2 k2 hne
  ·intro p z b hz hb
   rcases hcase hz with ⟨rfl,rfl⟩|⟨h1,_,h2⟩
   ·rw [Ctx.jO] at hb;exact M.mem.apart q z b hx0 hb
   ·rw [Ctx.jN h1] at hb;exact M.mem.apart p z b h2 hb
  ·exact M.mem.ro
  ·intro p z hz t ht z2 hz2
   rcases hcase hz2 with ⟨rfl,rfl⟩|⟨k1,_,k2⟩
   ·exact absurd rfl (hptr1 p z hz _ ht)
   ·rcases hcase hz with ⟨rfl,rfl⟩|⟨_,_,h2⟩
    ·exact M.mem.ptr q z hx0 t ht z2 k2
    ·exact M.mem.ptr p z h2 t ht z2 k2
 have hstage:∀b vs,b.dO=true→(∀t∈b.names,t.1=1→t.2<fs.length)→AVC w C (cmb rs fs) b vs→AVC w C' (cmb (look rs [(q,none)]) (fs++[x])) b vs:=by
  intro b vs hl hn hb
  refine mG (C':=C') M.mem (fun t=>t=fr fs.length) rfl rfl (fun t ht=>Ctx.with_θ ht) (fun t ht=>Ctx.with_ρ ht) ?_ (fun _ _=>rfl) hl (fun t ht h=>by
   have:=hn t ht (by rw [h]);rw [h] at this;simp at this) hb
  intro t z ht hz
  rcases hcase hz with ⟨h,_⟩|⟨_,_,h2⟩
  ·exact absurd h ht
  ·exact h2
 refine ⟨C',⟨M.Z,M.S,fun i=>?_,hmem,?_,?_,hptr1,fun i=>?_⟩,⟨fun b vs hl _ hn hb=>hstage b vs hl hn hb,by simp,fun b hb=>hb⟩,?_⟩
 ·rw [Ctx.with_θ (by intro h;cases h),Ctx.with_ρ (by intro h;cases h)];exact M.pars i
 ·intro b vs hl hh hn hb
  exact hstage b vs hl (fun t ht h1=>absurd h1 (hn t ht)) (M.leaf b vs hl hh hn hb)
 ·intro p z b hz hb
  rcases hcase hz with ⟨rfl,rfl⟩|⟨h1,_,h2⟩
  ·rw [Ctx.jO] at hb;exact M.foot q z b hx0 hb
  ·rw [Ctx.jN h1] at hb;exact M.foot p z b h2 hb
 ·unfold look
  simp only [dn]
  rw [iD (by rintro rfl;simp at hq)]
  exact M.rs1 i
 ·obtain ⟨b,off,rfl,h0,hroot⟩:=hcur
  obtain ⟨rfl,rfl⟩:=h0 rfl
  refine ⟨_,_,rfl,fun _=>⟨by rw [Ctx.with_θ0],rfl⟩,fun z hz=>?_⟩
  rcases hcase hz with ⟨_,rfl⟩|⟨h,_⟩
  ·refine ⟨z.k,C.ρ q,at_nil _,dM _ _ _,?_⟩
   rw [dh,Ctx.with_ρ0]
   unfold bQ
   rw [if_pos hxm,Ctx.with_θ0]
  ·exact absurd rfl h
theorem aiY{rs:RF}{av b:AV}(h:Aq rs av=some b):∃q x z,av=.ref q []∧q.1≠1∧rs q=some x∧x.mem=false∧x.m=.imm z∧x.k.plain=true∧b=.imm z x.k x.d:=by
 unfold Aq at h
 split at h
 case h_2=>cases h
 case h_1 d j=>
 split at h
 case h_2=>cases h
 case h_1 x hx=>
 cases hm:x.mem with
 |true=>rw [hm] at h;cases h
 |false=>
 rw [hm] at h
 simp only [cond_false] at h
 split at h
 case h_2=>cases h
 case h_1 z hz=>
 cases hp:x.k.plain with
 |false=>rw [hp] at h;cases h
 |true=>
 rw [hp] at h
 simp only [cond_true,Option.some.injEq] at h
 exact ⟨(d+2,j),x,z,rfl,by simp,hx,hm,hz,hp,h.symm⟩
theorem zo(M:Moved w C0 rs0 C rs fs ks){e:Option K}{av:AV}(hl:av.dO=true)(hg:av.agg=false)(hn:∀q∈av.names,q.1≠1){vs:List Value}(hv:AVC w C0 rs0 av vs)
  {c:AV→RF→List Root→List Kill→Option R'}
  (h:(bif hit ks av then none else match Aq rs av with
   |some b=>c b rs fs ks
   |none=>bif av.isLocal then (match e with
   |some (.sl k)=>gD rs k [] av fun xs m u' k1 _=>c (.ref (fr fs.length) []) (look rs u') (fs++[⟨false,.sl k,m,xs⟩]) (ks++k1)
   |some _=>none
   |none=>match av with
    |.nil=>c .nil rs fs ks
    |_=>none) else XI av ks rs fs c)=some r) :
  ∃a' rs' fs' ks' C',c a' rs' fs' ks'=some r∧ay8 w C0 rs0 C rs fs ks av a' rs' fs' ks' C' vs:=by
 cases hh:hit ks av with
 |true=>rw [hh] at h;cases h
 |false=>
 rw [hh] at h
 simp only [cond_false] at h
 cases hfz:Aq rs av with
 |some b=>
  rw [hfz] at h
  have hcur:=M.leaf av vs hl hh hn hv
  obtain ⟨q,x,z,rfl,hq1,hx,hxm,hmk,hpl,rfl⟩:=aiY hfz
  obtain ⟨v,rfl,hroot⟩:=hcur
  have hx':cmb rs fs q=some x:=by unfold cmb;rw [if_neg hq1];exact hx
  obtain ⟨e',base,hat,_,hloc⟩:=hroot x hx'
  rw [at_nil] at hat
  rw [dh] at hloc
  simp only [Option.some.injEq,Prod.mk.injEq] at hloc hat
  obtain ⟨G,hE,_,_⟩:=M.mem.ok q x hx'
  rw [hmk,hloc.1] at hE
  refine ⟨_,_,_,_,C,h,M,.refl,⟨hpl,hE.ax3⟩,fun q hq=>(by cases hq),?_⟩
  show x.k.isAgg=false
  rw [hat];rfl
 |none=>
 rw [hfz] at h
 dsimp only at h
 cases hloc:av.isLocal with
 |true=>
  rw [hloc] at h
  simp only [cond_true] at h
  split at h
  case h_2=>cases h
  case h_3=>
   have hcur:=M.leaf av vs hl hh hn hv
   split at h
   ·exact ⟨_,_,_,_,C,h,M,.refl,hcur,fun q hq=>(by cases hq),rfl⟩
   ·simp at h
  case h_1 k=>
  obtain ⟨v,rfl⟩:=axF hv hloc
  obtain ⟨xs,m,u',k1,g1,C',g,h1,h2,h3⟩:=aw2 M hl hloc hh hn hv h
  refine ⟨_,_,_,_,C',g,h1,h2,h3,fun q hq _=>?_,hg.symm⟩
  simp only [AV.names,List.mem_singleton] at hq
  subst hq
  simp
 |false=>
  rw [hloc] at h
  simp only [cond_false] at h
  have hcur:=M.leaf av vs hl hh hn hv
  unfold XI at h
  split at h
  ·exact ⟨_,_,_,_,C,h,M,.refl,hcur,fun q hq h1=>absurd h1 (hn q hq),rfl⟩
  ·exact ⟨_,_,_,_,C,h,M,.refl,hcur,fun q hq h1=>absurd h1 (hn q hq),rfl⟩
  ·exact ⟨_,_,_,_,C,h,M,.refl,hcur,fun q hq h1=>absurd h1 (hn q hq),rfl⟩
  ·split at h
   case h_2=>simp at h
   case h_1 x hx=>
   cases hxm:x.mem with
   |false=>rw [hxm] at h;simp at h
   |true=>
   rw [hxm] at h
   simp only [cond_true] at h
   obtain ⟨C',h1,h2,h3⟩:=ayv M (by simp) hh hx hxm hv
   refine ⟨_,_,_,_,C',h,h1,h2,h3,fun q hq _=>?_,rfl⟩
   simp only [AV.names,List.mem_singleton] at hq
   subst hq
   simp
  ·simp at h
theorem abf{ks:List Kill}{av:AV}(h:∀x:Kill,x.hits av=false):hit ks av=false:=by
 simp only [hit,List.any_eq_false]
 intro x _
 rw [h x];simp
theorem alc(a b:AV):∀q∈(AV.flatten a b).names,q∈a.names∨q∈b.names:=by
 intro q hq
 unfold AV.flatten at hq
 split at hq
 ·cases hq
 ·simpa [AV.names] using hq
theorem agf:∀(av:AV){e:Option K}{C:Ctx}{rs:RF}{fs:List Root}{ks:List Kill}{c:AV→RF→List Root→List Kill→Option R'}{vs:List Value},Moved w C0 rs0 C rs fs ks→(∀q∈av.names,q.1≠1)→AVC w C0 rs0 av vs →
  acA e av ks rs fs c=some r→∃a' rs' fs' ks' C',c a' rs' fs' ks'=some r∧ay8 w C0 rs0 C rs fs ks av a' rs' fs' ks' C' vs:=by
 intro av
 induction av with
 |imm z k d=>
  intro e C rs fs ks c vs M hn hv h
  exact ⟨_,_,_,_,C,h,M,.refl,M.leaf _ _ rfl (abf fun x=>by cases x<;>rfl) hn hv,fun q hq=>(by cases hq),rfl⟩
 |nilp=>
  intro e C rs fs ks c vs M hn hv h
  exact ⟨_,_,_,_,C,h,M,.refl,M.leaf _ _ rfl (abf fun x=>by cases x<;>rfl) hn hv,fun q hq=>(by cases hq),rfl⟩
 |pair a b iha ihb=>
  intro e C rs fs ks c vs M hn hv h
  simp only [acA] at h
  split at h
  case h_2=>simp at h
  case h_1 ka kb=>
  obtain ⟨v1,v2,rfl,h1,h2⟩:=hv
  obtain ⟨a',rs1,fs1,ks1,C1,h,A⟩:=iha M (fun q hq=>hn q (by simp [AV.names,hq])) h1 h
  obtain ⟨b',rs2,fs2,ks2,C2,h,B⟩:=ihb A.moved (fun q hq=>hn q (by simp [AV.names,hq])) h2 h
  refine ⟨_,_,_,_,C2,h,B.moved,A.stage.trans B.stage,AVC.flatten (AVC.atL (fun b vs hl hh hn hb=>B.stage.leaf b vs hl hh hn hb) _ _ A.names A.val) B.val,fun q hq h1=>?_,by rw [Mi];rfl⟩
  rcases alc _ _ q hq with hq|hq
  ·exact Nat.lt_of_lt_of_le (A.names q (ap0 _ _ q hq) h1) B.stage.grow
  ·exact B.names q hq h1
 |tcons a b _ _=>intro e C rs fs ks c vs M hn hv h;exact hv.elim
 |tnil=>intro e C rs fs ks c vs M hn hv h;exact hv.elim
 |dead=>
  intro e C rs fs ks c vs M hn hv h
  exact zo M rfl rfl hn hv h
 |nil=>intro e C rs fs ks c vs M hn hv h;exact zo M rfl rfl hn hv h
 |emp=>intro e C rs fs ks c vs M hn hv h;exact zo M rfl rfl hn hv h
 |ref q p=>intro e C rs fs ks c vs M hn hv h;exact zo M rfl rfl hn hv h
 |slc q p lo k0=>intro e C rs fs ks c vs M hn hv h;exact zo M rfl rfl hn hv h
 |ptr q p=>intro e C rs fs ks c vs M hn hv h;exact zo M rfl rfl hn hv h
 |iptr z k d p=>intro e C rs fs ks c vs M hn hv h;exact zo M rfl rfl hn hv h
 |nn z k d=>intro e C rs fs ks c vs M hn hv h;exact zo M rfl rfl hn hv h
 |vw q p L=>intro e C rs fs ks c vs M hn hv h;exact zo M rfl rfl hn hv h
 |fn f caps=>intro e C rs fs ks c vs M hn hv h;exact zo M rfl rfl hn hv h
theorem aoh{av:AV}{e:Option K}(M:Moved w C0 rs0 C rs fs ks)(hn:∀q∈av.names,q.1≠1){v:Value}(hv:bP w C0 rs0 v av){c:AV→RF→List Root→List Kill→Option R'}(h:acA e av ks rs fs c=some r) :
  ∃a' rs' fs' ks' C',c a' rs' fs' ks'=some r∧Moved w C0 rs0 C' rs' fs' ks'∧Uy w C rs fs ks C' rs' fs' ks'∧Md w C' (cmb rs' fs') v a'∧∀q∈a'.names,q.1=1→q.2<fs'.length:=by
 rcases hv with (rfl|⟨hg,vs,rfl,hA⟩|⟨hg,hA,hc⟩)|⟨vs,_,ht⟩
 ·simp only [acA] at h
  rw [abf fun x=>by cases x<;>rfl] at h
  simp [AV.isLocal,XI,Aq] at h
 ·obtain ⟨a',rs',fs',ks',C',h,A⟩:=agf av M hn hA h
  exact ⟨a',rs',fs',ks',C',h,A.moved,A.stage,.inr (.inl ⟨by rw [A.agg];exact hg,vs,rfl,A.val⟩),A.names⟩
 ·obtain ⟨a',rs',fs',ks',C',h,A⟩:=agf av M hn hA h
  exact ⟨a',rs',fs',ks',C',h,A.moved,A.stage,.inr (.inr ⟨by rw [A.agg];exact hg,A.val,hc⟩),A.names⟩
 ·cases av with
  |tnil=>simp only [acA] at h;rw [abf fun x=>by cases x<;>rfl] at h;simp [AV.isLocal,XI,Aq] at h
  |tcons a b=>simp only [acA] at h;cases hh:hit ks (.tcons a b)<;>rw [hh] at h<;>simp [AV.isLocal,XI,Aq] at h
  |_=>exact ht.elim
theorem alx:∀(l:List (AV×Option K))(vals:List Value){C:Ctx}{rs:RF}{fs:List Root}{ks:List Kill}{c:AV→RF→List Root→List Kill→Option R'},Moved w C0 rs0 C rs fs ks→al9 l=false→l.length=vals.length →
  (∀(i:Nat)(x:AV×Option K)(v:Value),l[i]?=some x→vals[i]?=some v→bP w C0 rs0 v x.1)→acB l ks rs fs c=some r →
  ∃t rs' fs' ks' C',c t rs' fs' ks'=some r∧Moved w C0 rs0 C' rs' fs' ks'∧Uy w C rs fs ks C' rs' fs' ks'∧adI w C' (cmb rs' fs') t vals:=by
 intro l
 induction l with
 |nil=>
  intro vals C rs fs ks c M _ hlen _ h
  have:vals=[]:=List.eq_nil_of_length_eq_zero hlen.symm
  subst this
  exact ⟨_,_,_,_,C,h,M,.refl,rfl⟩
 |cons x l ih=>
  intro vals C rs fs ks c M hfr hlen hv h
  obtain ⟨a,k⟩:=x
  cases vals with
  |nil=>simp at hlen
  |cons v vals=>
  simp only [al9,Bool.or_eq_false_iff] at hfr
  have hn:∀q∈a.names,q.1≠1:=by
   intro q hq h1
   have:=hfr.1
   simp only [azp,List.any_eq_false] at this
   exact this q hq (beq_iff.2 h1)
  simp only [acB] at h
  obtain ⟨a',rs1,fs1,ks1,C1,h,M1,S1,V1,N1⟩:=aoh M hn (hv 0 (a,k) v rfl rfl) h
  obtain ⟨t,rs2,fs2,ks2,C2,h,M2,S2,T2⟩:=ih vals M1 hfr.2 (by simpa using hlen) (fun i x v hx hvv=>hv (i+1) x v (by simpa using hx) (by simpa using hvv)) h
  exact ⟨_,_,_,_,C2,h,M2,S1.trans S2,v,vals,rfl,Md.atL (fun b vs hl hh hn hb=>S2.leaf b vs hl hh hn hb) N1 V1,T2⟩
end
end Go.Abs
namespace Go.Abs
section
variable {P : Program} {V : Env}
theorem au9:∀(l:List AV)(k t:Nat),adC (amA k l) t=if k≤t then (l[t-k]?).getD .dead else .dead:=by
 intro l
 induction l with
 |nil=>intro k t;simp [amA,adC]
 |cons a l ih=>
  intro k t
  simp only [amA,adC]
  by_cases h:t=k
  ·rw [beq_iff.2 h];subst h;simp
  ·rw [iC h]
   simp only [cond_false,ih]
   by_cases h2:k≤t
   ·rw [if_pos (by omega),if_pos h2,show t-k=(t-(k+1))+1 by omega];simp
   ·rw [if_neg (by omega),if_neg h2]
theorem auN:∀(l:List Root)(k:Nat)(q:aF),acC (amy k l) q=if q.1=0∧k≤q.2 then l[q.2-k]? else none:=by
 intro l
 induction l with
 |nil=>intro k q;simp [amy,acC]
 |cons a l ih=>
  intro k q
  simp only [amy,acC]
  by_cases h:q=par k
  ·rw [cB.2 h];subst h;simp
  ·rw [iD h]
   simp only [cond_false,ih]
   obtain ⟨q1,q2⟩:=q
   by_cases h2:q1=0∧k≤q2
   ·have hne:q2≠k:=by rintro rfl;exact h (by rw [h2.1])
    rw [if_pos ⟨h2.1,by simp;omega⟩,if_pos h2]
    simp only
    rw [show q2-k=(q2-(k+1))+1 by omega];simp
   ·rw [if_neg h2,if_neg (fun h3=>h2 ⟨h3.1,by have:=h3.2;simp at this;omega⟩)]
theorem ar8(l:List Root):acC (amy 0 l)=acE l:=by
 funext q
 rw [auN]
 obtain ⟨q1,q2⟩:=q
 match q1 with
 |0=>simp [acE]
 |q1+1=>simp [acE]
theorem arM{m n:Nat}(hmn:m≤n):∀(c:Code),Hz m c=true→Hz n c=true:=by
 intro c
 induction c with
 |region id ops draw=>
  intro h
  simp only [Hz,List.all_eq_true] at h ⊢
  refine fun o ho=>?_
  have h2:=h o ho
  cases hd:o.dst with
  |none=>rfl
  |some d=>
   rw [hd] at h2
   have h3:Nat.blt d m=true:=h2
   have h4:d+1≤m:=Nat.le_of_ble_eq_true h3
   show Nat.ble (d+1) n=true
   exact Nat.ble_eq_true_of_le (Nat.le_trans h4 hmn)
 |seq a b iha ihb=>intro h;simp only [Hz,Bool.and_eq_true] at h ⊢;exact ⟨iha h.1,ihb h.2⟩
 |cond x a b iha ihb=>intro h;simp only [Hz,Bool.and_eq_true] at h ⊢;exact ⟨iha h.1,ihb h.2⟩
 |block id a ih=>intro h;exact ih h
 |loop a ih=>intro h;exact ih h
 |_=>intro _;rfl
theorem alv{rs:RF}:∀(n i:Nat){ps:List Root},KI rs i n=some ps→ps.length=n∧∀(j:Nat)(x:Root),ps[j]?=some x→rs (par (i+j))=some x:=by
 intro n
 induction n with
 |zero=>intro i ps h;simp only [KI,Option.some.injEq] at h;subst h;exact ⟨rfl,by simp⟩
 |succ n ih=>
  intro i ps h
  simp only [KI] at h
  split at h
  case h_2=>simp at h
  case h_1 x hx=>
  cases hr:KI rs (i+1) n with
  |none=>rw [hr] at h;simp at h
  |some ps'=>
   rw [hr] at h
   simp only [Option.map_some,Option.some.injEq] at h
   subst h
   obtain ⟨h1,h2⟩:=ih _ hr
   refine ⟨by simp [h1],fun j y hj=>?_⟩
   cases j with
   |zero=>simp only [List.getElem?_cons_zero,Option.some.injEq] at hj;subst hj;exact hx
   |succ j=>have:=h2 j y (by simpa using hj);rw [show i+(j+1)=i+1+j by omega];exact this
theorem awh{R:Type}(k:K)(d:k.den)(m:Mask)(c:(k':K)→k'.den→Mask→Option R):jo k d m [] c=c k d m:=by cases k<;>rfl
theorem aqw{w0 w:World}{M0:BS}{n:Nat}{C0 C:Ctx}{st:St}{a:Act}(hT:iL P V)(R:Rel w0 M0 n C0 C st a w):∀(l:List ResultVar)(ts:List TypeId){vals:List (AV×Option K)},Ce V st.tmps st.roots l ts=some vals →
  ∃vs:List Value,vs.length=vals.length∧(∀(i:Nat)(x:AV×Option K)(v:Value),vals[i]?=some x→vs[i]?=some v→bP w C st.roots v x.1)∧∀(g:ResultVar→Sem Value),(∀t,g (.tmp t)=pure (a.tmps.getD t undef))→(∀t T,g (.cell t T)=(do loadVar T (←asAddr (a.tmps.getD t undef))))→(List.mapM g l).run P w=.ok vs w:=by
 intro l
 induction l with
 |nil=>intro ts vals h;simp only [Ce,Option.some.injEq] at h;subst h;exact ⟨[],rfl,by simp,fun _ _ _=>rfl⟩
 |cons r l ih=>
  intro ts vals h
  have step:∀(x:AV×Option K)(v:Value),(Ce V st.tmps st.roots l ts.tail).map (x::·)=some vals→bP w C st.roots v x.1→(∀(g:ResultVar→Sem Value),(∀t,g (.tmp t)=pure (a.tmps.getD t undef))→(∀t T,g (.cell t T)=(do loadVar T (←asAddr (a.tmps.getD t undef))))→(g r).run P w=.ok v w) →
    ∃vs:List Value,vs.length=vals.length∧(∀(i:Nat)(x:AV×Option K)(v:Value),vals[i]?=some x→vs[i]?=some v→bP w C st.roots v x.1)∧∀(g:ResultVar→Sem Value),(∀t,g (.tmp t)=pure (a.tmps.getD t undef))→(∀t T,g (.cell t T)=(do loadVar T (←asAddr (a.tmps.getD t undef))))→(List.mapM g (r::l)).run P w=.ok vs w:=by
   intro x v hm hv hrun
   cases hr:Ce V st.tmps st.roots l ts.tail with
   |none=>rw [hr] at hm;simp at hm
   |some vals'=>
    rw [hr] at hm
    simp only [Option.map_some,Option.some.injEq] at hm
    subst hm
    obtain ⟨vs,h1,h2,h3⟩:=ih _ hr
    refine ⟨v::vs,by simp [h1],fun i y u hy hu=>?_,fun g hg hg2=>by simp only [List.mapM_cons,Sem.run_bind,hrun g hg hg2,Result.andThen_ok,h3 g hg hg2,Sem.run_pure]⟩
    cases i with
    |zero=>simp only [List.getElem?_cons_zero,Option.some.injEq] at hy hu;subst hy;subst hu;exact hv
    |succ i=>exact h2 i y u (by simpa using hy) (by simpa using hu)
  cases r with
  |tmp t=>
   simp only [Ce] at h
   exact step _ _ h (R.tm t) (fun g hg _=>by rw [hg];rfl)
  |cell t T=>
   simp only [Ce] at h
   split at h
   case h_2=>simp at h
   case h_1 k q hk e1=>
   split at h
   case h_2=>simp at h
   case h_1 y hy=>
   split at h
   case isFalse=>simp at h
   case isTrue hc=>
   obtain ⟨hmem,hkk⟩:=hc
   obtain ⟨ti,hti,hki⟩:=Env.Aa hk
   have hty:=hT.ty _ _ hti
   have hx:=R.tm t
   rw [e1] at hx
   obtain ⟨⟨b,off,hv,hbo,hroot⟩,_⟩:=hx.cell (by simp) rfl (by simp) (by simp)
   simp only [List.cons.injEq,and_true] at hv
   obtain ⟨rfl,rfl⟩:=hbo rfl
   obtain ⟨k',d,m,vs,b1,hp,hc2⟩:=jd (p:=[]) (c:=fun k' d m=>some ((⟨k',d⟩:Σ k:K,k.den),m)) (R.mem.ok _ _ hy) (awh _ _ _ _)
   simp only [Option.some.injEq,Prod.mk.injEq,Sigma.mk.injEq] at hc2
   obtain ⟨⟨rfl,hd⟩,rfl⟩:=hc2
   cases hd
   obtain ⟨k2,cs,g1,g2,g3⟩:=hroot y hy
   rw [hp.lc] at g3
   simp only [Option.some.injEq,Prod.mk.injEq] at g3
   obtain ⟨rfl,rfl⟩:=g3
   obtain ⟨F,he⟩:=hp.enc
   have hr:=aiB R.mem hy hp
   have hm:y.k.isAgg=false→ZI q y.k [] y.d y.m≠.dead→(valOf y.k vs).cells = #[valOf y.k vs]:=fun hg hd=>he.cellV (adN hd) hg
   refine step _ (valOf y.k vs) h (bP.val hr.1 he.len hr.2 hm) ?_
   have hki:ti.k=y.k:=hki.trans hkk.symm
   have hrun:=KJ (P:=P) hty hp.lies (by rw [hki];exact he.len) (v:=valOf y.k vs) (by rw [hki];exact wY he.len)
   intro g _ hg2
   rw [hg2,hv]
   simpa [Instr.loadAt,Instr.sureAddr,asAddr] using hrun
theorem aqD{fn:Func}{w0 w:World}{M0:BS}{n:Nat}{C0 C:Ctx}{st:St}{a:Act}(hT:iL P V)(R:Rel w0 M0 n C0 C st a w){ts:List TypeId}{vals:List (AV×Option K)}(h:Ce V st.tmps st.roots fn.results.toList ts=some vals) :
  ∃vs:List Value,vs.length=vals.length∧(∀(i:Nat)(x:AV×Option K)(v:Value),vals[i]?=some x→vs[i]?=some v→bP w C st.roots v x.1) ∧
   (results fn a.tmps).run P w=.ok (match vs with|[v]=>v|vs=>.tuple vs.toArray) w:=by
 obtain ⟨vs,h1,h2,h3⟩:=aqw hT R _ _ h
 refine ⟨vs,h1,h2,?_⟩
 unfold results
 have he:fn.results=fn.results.toList.toArray:=by simp
 rw [he,List.mapM_toArray]
 simp only [Sem.run_bind,Sem.run_map]
 rw [h3 _ (fun t=>rfl) (fun t T=>rfl)]
 simp only [Result.andThen_ok,Sem.run_pure]
 cases vs with
 |nil=>rfl
 |cons v vl=>
  cases vl with
  |nil=>rfl
  |cons v2 vl=>simp
theorem Rel.OQ{w0 w:World}{M0:BS}{n:Nat}{C0 C:Ctx}{s:St}{a:Act}{V:Env}(h:Rel w0 M0 n C0 C s a w):∃C',Rel w0 M0 n C0 C' (OQ V s) a w:=by
 unfold Go.Abs.OQ
 split
 ·exact ⟨C,h⟩
 ·exact Rel.awf _ h
theorem aI{Γ:Glb}(hT:iL P V)(hE:bM P Γ V){f:FuncId}{fn:Func}{F:FnI}(hf:P.funcs[f]?=some fn)(hb:fn.body=some F.body)(hres:fn.results.toList=F.results)
  (hdst:Hz fn.ntmps F.body=true) (hL:aZ V F.loops F.body) (rw:List Nat):Contract P Γ f ⟨rw,fun ci=>.mat (bN V F ci) .ret,false⟩:=by
 intro w C ci co vals hM hptr hsz hvals hgl hG
 have hE:adH P Γ V w (Ca C ci.roots) C:=⟨hE,fun b hb=>⟨hgl.1 b hb,fun ⟨i,x,hx,hF⟩=>(hM.apart (par i) x b hx hF).1 (hgl.1 b hb),hM.ro b (.inl (hgl.1 b hb))⟩,hgl.2⟩
 suffices hold:Calls P f vals w fun e w'=>match e with
   |.returned v=>∃C',Ux w C ci co v w' C'
   |_=>False from hold.mono fun e w' h=>by
  cases e with
  |returned v=>obtain ⟨C',h⟩:=h;exact ⟨C',h,fun h=>nomatch h⟩
  |_=>exact h
 refine calls_of_wp hf hb ?_
 have hG:bN V F ci=some co:=by
  obtain ⟨o,ho⟩:∃o,bN V F ci=o:=⟨_,rfl⟩
  have hG:(Tre.mat (bN V F ci) Tre.ret).run some=some co:=hG
  rw [ho] at hG ⊢
  cases o with
  |none=>cases hG
  |some x=>exact hG
 unfold bN at hG
 have hn:fn.ntmps≤(vals++Array.replicate (fn.ntmps-vals.size) undef).size:=by simp;omega
 have hinit:Rel w (Ca C ci.roots) (vals++Array.replicate (fn.ntmps-vals.size) undef).size C C (awu ci) { tmps:=vals++Array.replicate (fn.ntmps-vals.size) undef,defers:=[] } w:=by
  have hroots:(awu ci).roots=acE ci.roots:=ar8 _
  refine ⟨⟨.refl _,rfl,fun _=>rfl⟩,by rw [hroots];exact hM,fun t=>?_,.refl _ _,fun q x b hq hb=>?_,fun q x hq p hp h1=>?_,rfl,rfl,fun _ _ _ _=>rfl,fun b hb=>.inl hb⟩
  ·rw [hroots]
   show bP w C _ _ (adC (amA 0 ci.args) t)
   rw [au9]
   simp only [Nat.zero_le,if_true,Nat.sub_zero]
   cases ht:ci.args[t]? with
   |none=>exact bP.dead
   |some av=>
    simp only [Option.getD_some]
    have hlt:t<vals.size:=by rw [hsz];exact (List.getElem?_eq_some_iff.1 ht).1
    have:(vals++Array.replicate (fn.ntmps-vals.size) undef).getD t undef=vals[t]:=by
     rw [Array.getD_eq_getD_getElem?,Array.getElem?_append_left hlt,Array.getElem?_eq_getElem hlt];rfl
    rw [this]
    exact hvals t _ av (Array.getElem?_eq_getElem hlt) ht
  ·rw [hroots] at hq
   obtain ⟨q1,q2⟩:=q
   match q1,hq with
   |0,hq=>exact .inr ⟨q2,x,hq,hb⟩
   |q1+1,hq=>cases hq
  ·rw [hroots] at hq
   obtain ⟨q1,q2⟩:=q
   match q1,hq with
   |0,hq=>have:=hptr x (List.mem_of_getElem? hq) p hp;omega
   |q1+1,hq=>cases hq
 refine atY hT hE F.body (arM hn _ hdst) hL (fun e s' a' w' C' hc R'=>?_) hinit hG
 have hfin:(match Ce V (OQ V s').tmps (OQ V s').roots F.results F.types with
   |none=>none
   |some vals=>bif (OQ V s').pins 1||al9 vals then none else
    acB vals [] (OQ V s').roots [] fun r rs fs _=>match KI rs 0 ci.roots.length with
     |none=>none
     |some ps=>bif wK ps.length fs.length ps&&wK ps.length fs.length fs then some (⟨one r,ps,fs⟩:aB) else none)=some co→bodyPost P fn (fun e w'=>match e with
   |.returned v=>∃C',Ux w C ci co v w' C'
   |_=>False) .ret a' w':=by
  clear hc
  obtain ⟨C',R'⟩:=R'.OQ
  generalize OQ V s'=s' at R'
  intro hc
  split at hc
  case h_1=>simp at hc
  case h_2 _ rv hrv=>
  cases hchk:(s'.pins 1||al9 rv) with
  |true=>rw [hchk] at hc;simp at hc
  |false=>
  rw [hchk] at hc
  simp only [cond_false] at hc
  simp only [Bool.or_eq_false_iff] at hchk
  rw [←hres] at hrv
  obtain ⟨vl,hsl1,hsl2,hsl3⟩:=aqD hT R' hrv
  refine ⟨R'.defers,_,hsl3,?_⟩
-- the state as the start of the results' way
  have hp1:∀q y,s'.roots q=some y→∀p∈bn y.k y.d,p.1≠1:=by
   intro q y hy p hp h1
   have:=R'.pins q y hy p hp (by omega)
   rw [h1,hchk.1] at this;cases this
  have hsub:∀q y,cmb s'.roots [] q=some y→s'.roots q=some y:=by
   intro q y h
   unfold cmb at h
   split at h
   ·simp at h
   ·exact h
  have hM0:Moved w' C' s'.roots C' s'.roots [] []:=by
   refine ⟨rfl,rfl,fun _=>⟨rfl,rfl⟩,⟨fun q y h=>R'.mem.ok q y (hsub q y h),fun q q' y y' h h'=>R'.mem.disj q q' y y' (hsub q y h) (hsub q' y' h'),fun q y b h=>R'.mem.apart q y b (hsub q y h),R'.mem.ro,fun q y h p hp z hz=>R'.mem.ptr q y (hsub q y h) p hp z (hsub p z hz)⟩,
    fun b vs hl _ _ hb=>mG R'.mem (fun _=>False) rfl rfl (fun _ _=>rfl) (fun _ _=>rfl) (fun q y _ h=>hsub q y h) (fun _ _=>rfl) hl (fun _ _ h=>h) hb,
    fun q y b h hb=>⟨q,y,hsub q y h,hb⟩,fun q y h=>hp1 q y (hsub q y h),fun _=>rfl⟩
  obtain ⟨tv,rs2,fs2,ks2,C2,hc,M2,S2,T2⟩:=alx rv vl hM0 hchk.2 hsl1.symm hsl2 hc
  split at hc
  case h_1=>simp at hc
  case h_2 _ ps hps=>
  obtain ⟨hpl,hps2⟩:=alv _ _ hps
  cases hchk3:(wK ps.length fs2.length ps&&wK ps.length fs2.length fs2) with
  |false=>rw [hchk3] at hc;simp at hc
  |true=>
  rw [hchk3] at hc
  simp only [cond_true,Option.some.injEq] at hc
  subst hc
  have hout:∀q y,P6 ⟨one tv,ps,fs2⟩ q=some y→cmb rs2 fs2 q=some y:=by
   rintro ⟨q1,q2⟩ y hq
   match q1,hq with
   |0,hq=>have:=hps2 q2 y hq;rw [Nat.zero_add] at this;exact this
   |1,hq=>exact hq
   |q1+2,hq=>cases hq
  have hval:∀b vs,b.dO=true→hit [] b=false→AVC w' C2 (cmb rs2 fs2) b vs→AVC w' C2 (P6 ⟨one tv,ps,fs2⟩) b vs:=
   fun b vs hl _ hb=>mG M2.mem (fun _=>False) rfl rfl (fun _ _=>rfl) (fun _ _=>rfl) (fun q y _ h=>hout q y h) (fun _ _=>rfl) hl (fun _ _ h=>h) hb
  refine ⟨C2,fun b hb=>(by rw [M2.Z];exact R'.ext.Z b hb),M2.S.trans R'.ext.S,fun i=>(M2.pars i).1.trans (R'.ext.θ i),
   ⟨fun q y h=>M2.mem.ok q y (hout q y h),fun q q' y y' h h'=>M2.mem.disj q q' y y' (hout q y h) (hout q' y' h'),fun q y b h=>M2.mem.apart q y b (hout q y h),M2.mem.ro,fun q y h p hp z hz=>M2.mem.ptr q y (hout q y h) p hp z (hout p z hz)⟩,
   ?_,fun i x hx hm=>?_,R'.kept,fun q y b hq hb=>?_,fun b hb=>R'.zn b (by rw [←M2.Z];exact hb)⟩
  ·have hT2:=adI.step hval _ _ T2
   rw [XD] at hT2
   show bP w' C2 _ _ (one tv)
   cases tv with
   |tnil=>
    have:vl=[]:=hT2
    subst this
    exact .inr ⟨[],rfl,rfl⟩
   |tcons x y=>
    obtain ⟨v,l,rfl,h1,h2⟩:=hT2
    cases y with
    |tnil=>
     have:l=[]:=h2
     subst this
     exact .inl h1
    |tcons x2 y2=>
     obtain ⟨v2,l2,rfl,h3,h4⟩:=h2
     exact .inr ⟨v::v2::l2,rfl,v,_,rfl,h1,v2,l2,rfl,h3,h4⟩
    |_=>exact h2.elim
   |_=>exact hT2.elim
  ·have h1:=hps2 i x hx
   rw [Nat.zero_add,M2.rs1 i] at h1
   rw [(M2.pars i).2]
   exact R'.parρ i x h1 hm
  ·obtain ⟨q0,y0,h1,h2⟩:=M2.foot q y b (hout q y hq) hb
   exact R'.foot q0 y0 b h1 h2
 cases e with
 |exit _=>simp at hc
 |normal=>exact hfin hc
 |ret=>exact hfin hc
end
end Go.Abs
namespace Go.Abs
def akV:K→List Value→Option (List Value)
 |.int ik,.int k n::l=>bif decide (k=ik)&&decide (n=0) then some l else none
 |.bool,.bool false::l=>some l
 |.str,.string ⟨⟨[]⟩⟩::l=>some l
 |.ptr,.pointer none::l=>some l
 |.fn,.nilFunc::l=>some l
 |.sl _,.slice none 0 0::l=>some l
 |.unit,l=>some l
 |.pair a b,l=>match akV a l with
  |some l=>akV b l
  |none=>none
 |_,_=>none
theorem asG:∀{k:K}{l l':List Value},akV k l=some l'→l=k.zeroCells++l':=by
 intro k
 induction k with
 |pair a b iha ihb=>
  intro l l' h
  simp only [akV] at h
  split at h
  ·rename_i m hm
   rw [iha hm,ihb h];simp [K.zeroCells]
  ·cases h
 |int ik=>
  intro l l' h
  unfold akV at h
  split at h<;>first|(cases h;done)|skip
  all_goals try (rename_i heq;cases heq)
  cases hc:(decide (_=ik)&&decide (_=(0:Int))) with
  |false=>rw [hc] at h;cases h
  |true=>
   rw [hc] at h
   simp only [cond_true,Option.some.injEq] at h
   simp only [Bool.and_eq_true,decide_eq_true_eq] at hc
   obtain ⟨rfl,rfl⟩:=hc
   subst h
   rfl
 |unit=>intro l l' h;cases h;rfl
 |_=>
  intro l l' h
  unfold akV at h
  split at h<;>first|(cases h;done)|skip
  all_goals try (rename_i heq;cases heq)
  all_goals (cases h;first|rfl|simp [K.zeroCells])
def fieldsB(P:Program):List Field→K→Nat→Bool
 |[],.unit,_=>true
 |f::fs,.pair a b,off=>Nat.beq f.offset off&&!Nat.beq a.size 0&&(match P.info? f.type with
  |some i=>Nat.beq i.size a.size&&decide (ao5 P f.type=some a.isAgg)
  |none=>false)&&fieldsB P fs b (off+a.size)
 |_,_,_=>false
theorem abb{P:Program}:∀(fs:List Field){k:K}{off:Nat},fieldsB P fs k off=true→yY P fs k off:=by
 intro fs
 induction fs with
 |nil=>intro k off h;cases k<;>first|trivial|cases h
 |cons f fs ih=>
  intro k off h
  cases k<;>first|(cases h;done)|skip
  rename_i a b
  simp only [fieldsB,Bool.and_eq_true,Bool.not_eq_true'] at h
  obtain ⟨⟨⟨h1,h2⟩,h3⟩,h4⟩:=h
  refine ⟨Nat.eq_of_beq_eq_true h1,(fun h0=>by rw [h0] at h2;cases h2),?_,ih h4⟩
  split at h3
  ·rename_i i hi;simp only [Bool.and_eq_true,decide_eq_true_eq] at h3;exact ⟨i,hi,Nat.eq_of_beq_eq_true h3.1,h3.2⟩
  ·cases h3
def avD(P:Program)(V:Env)(ti:TI)(d:TypeDesc):Bool:=
 match ti.k,d with
 |.int ik,.int k=>decide (k=ik)
 |.bool,.bool=>true
 |.str,.string=>true
 |.ptr,.pointer _=>true
 |.fn,.func ..=>true
 |.sl e,.slice t=>Nat.beq t ti.elem&&(match V.ti ti.elem with
  |some te=>decide (te.k=e)&&!Nat.beq te.k.size 0
  |none=>false)
 |.unit,.struct fs=>fieldsB P fs.toList .unit 0
 |.pair a b,.struct fs=>fieldsB P fs.toList (.pair a b) 0
 |_,_=>false
theorem arE{P:Program}{V:Env}{ti:TI}{d:TypeDesc}(h:avD P V ti d=true):DOK P V ti d:=by
 unfold avD at h
 unfold DOK
 cases hk:ti.k<;>simp only [hk] at h ⊢ <;> cases d<;>simp only [] at h<;>first|(cases h;done)|skip
 ·rw [of_decide_eq_true h]
 ·rfl
 ·rfl
 ·exact ⟨_,rfl⟩
 ·exact ⟨_,_,_,rfl⟩
 ·simp only [Bool.and_eq_true] at h
  obtain ⟨h1,h2⟩:=h
  refine ⟨by rw [Nat.eq_of_beq_eq_true h1],?_⟩
  split at h2
  ·rename_i te hte
   simp only [Bool.and_eq_true,decide_eq_true_eq,Bool.not_eq_true'] at h2
   exact ⟨te,hte,h2.1,(fun h0=>by rw [h0] at h2;cases h2.2)⟩
  ·cases h2
 ·exact ⟨_,rfl,abb _ h⟩
 ·exact ⟨_,rfl,abb _ h⟩
def axN(P:Program):List Field→K→Nat→Bool
 |[],.unit,_=>true
 |f::fs,.pair (.int k) b,off=>!(f.name =="_")&&Nat.beq f.offset off&&(match P.underlying f.type with
  |some (.int k')=>decide (k'=k)
  |_=>false)&&axN P fs b (off+1)
 |_,_,_=>false
theorem aui{P:Program}:∀(fs:List Field){k:K}{off:Nat},axN P fs k off=true→EqF P fs k off:=by
 intro fs
 induction fs with
 |nil=>intro k off h;cases k<;>first|trivial|cases h
 |cons f fs ih=>
  intro k off h
  cases k<;>first|(cases h;done)|skip
  rename_i a b
  cases a<;>first|(cases h;done)|skip
  simp only [axN,Bool.and_eq_true,Bool.not_eq_true'] at h
  obtain ⟨⟨⟨h1,h2⟩,h3⟩,h4⟩:=h
  refine ⟨by simpa using h1,Nat.eq_of_beq_eq_true h2,?_,ih h4⟩
  split at h3
  ·rename_i k' hk';rw [hk',of_decide_eq_true h3]
  ·cases h3
def eqB(P:Program)(T:Nat)(k:K):Bool:=!k.ints||((match P.underlying T with
 |some (.struct fs)=>axN P fs.toList k 0
 |_=>false)&&!P.stoodInHeld T&&!P.eqGuardType P.depth T)
theorem av6{P:Program}{T:Nat}{k:K}(h:eqB P T k=true)(hk:k.ints=true):azR P T k:=by
 unfold eqB at h
 rw [hk,Bool.not_true,Bool.false_or] at h
 simp only [Bool.and_eq_true,Bool.not_eq_true'] at h
 obtain ⟨⟨h1,h2⟩,h3⟩:=h
 refine ⟨?_,h2,h3⟩
 split at h1
 ·rename_i fs hfs;exact ⟨fs,hfs,aui _ h1⟩
 ·cases h1
def tyB(P:Program)(V:Env)(T:Nat)(ti:TI):Bool:=
 match P.info? T,P.underlying T with
 |some i,some d=>Nat.beq i.size ti.k.size&&Nat.beq i.bytes ti.bytes&&(match i.zero with
  |some z=>(match akV ti.k z.cells.toList with
   |some []=>true
   |_=>false)
  |none=>false)&&avD P V ti d&&eqB P T ti.k
 |_,_=>false
theorem axw{P:Program}{V:Env}{T:Nat}{ti:TI}(h:tyB P V T ti=true):ais P V T ti:=by
 unfold tyB at h
 split at h
 ·rename_i i d hi hd
  simp only [Bool.and_eq_true] at h
  obtain ⟨⟨⟨⟨h1,h2⟩,h3⟩,h4⟩,h5⟩:=h
  split at h3
  ·rename_i z hz
   split at h3
   ·rename_i hz2
    have:=asG hz2
    rw [List.append_nil] at this
    exact ⟨⟨i,z,hi,Nat.eq_of_beq_eq_true h1,Nat.eq_of_beq_eq_true h2,hz,this⟩,⟨d,hd,arE h4⟩,av6 h5⟩
   ·cases h3
  ·cases h3
 ·cases h
def aoW(P:Program)(V:Env):List (Nat×TI)→Bool
 |[]=>true
 | (t,ti)::l=>tyB P V t ti&&aoW P V l
theorem arp{α:Type}{t:Nat}{x:α}:∀(l:List (Nat×α)),jk t l=some x→(t,x)∈l:=by
 intro l
 induction l with
 |nil=>intro h;cases h
 |cons y l ih=>
  intro h
  obtain ⟨t',y⟩:=y
  simp only [jk] at h
  by_cases ht:t=t'
  ·rw [beq_iff.2 ht] at h
   simp only [cond_true,Option.some.injEq] at h
   subst h;subst ht;simp
  ·rw [iC ht] at h
   exact List.mem_cons_of_mem _ (ih h)
theorem ave{P:Program}{V:Env}:∀(l:List (Nat×TI)),aoW P V l=true→∀t ti,(t,ti)∈l→ais P V t ti:=by
 intro l
 induction l with
 |nil=>intro _ t ti h;cases h
 |cons x l ih=>
  intro h t ti hm
  obtain ⟨t0,ti0⟩:=x
  simp only [aoW,Bool.and_eq_true] at h
  rcases List.mem_cons.1 hm with he|hm
  ·cases he;exact axw h.1
  ·exact ih h.2 t ti hm
theorem axy{P:Program}{V:Env}(h:aoW P V V.τ=true)(hm:P.follows .mixedOrders=true):iL P V:=
 ⟨fun _ _ hti=>ave _ h _ _ (arp _ hti),hm⟩
theorem ay7{P:Program}{τ:List (Nat×TI)}{E E':List (Nat×Ctr)}{Z Z':List (Nat×List Frz)}{t:Nat}{ti:TI}(h:tyB P ⟨τ,E,Z⟩ t ti=true):tyB P ⟨τ,E',Z'⟩ t ti=true:=h
theorem axx{P:Program}{τ:List (Nat×TI)}{E:List (Nat×Ctr)}{Z:List (Nat×List Frz)}(h:aoW P ⟨τ,[],[]⟩ τ=true):aoW P ⟨τ,E,Z⟩ τ=true:=by
 have key:∀l,aoW P ⟨τ,[],[]⟩ l=true→aoW P ⟨τ,E,Z⟩ l=true:=by
  intro l
  induction l with
  |nil=>intro _;rfl
  |cons x l ih=>
   intro h
   obtain ⟨t,ti⟩:=x
   simp only [aoW,Bool.and_eq_true] at h ⊢
   exact ⟨ay7 h.1,ih h.2⟩
 exact key τ h
theorem aN{P:Program}{Γ:Glb}{τ:List (Nat×TI)}{Z:List (Nat×List Frz)}:bM P Γ ⟨τ,[],Z⟩:=fun f q h=>by cases h
theorem aA{P:Program}{Γ:Glb}{τ:List (Nat×TI)}{E:List (Nat×Ctr)}{Z:List (Nat×List Frz)}{f:Nat}{q:Ctr}(h:Contract P Γ f q)(he:Enters P f)(hE:bM P Γ ⟨τ,E,Z⟩):bM P Γ ⟨τ,(f,q)::E,Z⟩:=by
 intro g q' hg
 simp only [Env.ctr,jk] at hg
 by_cases hfg:g=f
 ·rw [beq_iff.2 hfg] at hg
  simp only [cond_true,Option.some.injEq] at hg
  subst hg;subst hfg;exact ⟨h,he⟩
 ·rw [iC hfg] at hg
  exact hE g q' hg
theorem Contract.weaken{P:Program}{Γ:Glb}{f:FuncId}{q q':Ctr}(h:Contract P Γ f q)(hq:∀ci co,(q'.G ci).run some=some co→(q.G ci).run some=some co)(hs:q'.soft=false:=by rfl):Contract P Γ f q':=
 fun w C ci co vals h1 h2 h3 h4 hg h5=>(h w C ci co vals h1 h2 h3 h4 hg (hq ci co h5)).mono fun e w' k=>by
  cases e with
  |returned v=>obtain ⟨C',k,_⟩:=k;exact ⟨C',k,fun h=>by rw [hs] at h;cases h⟩
  |_=>exact k
end Go.Abs
namespace Go.Abs
open Go.ChangeShapes Go.WideShapes Go.RowKit
def K.wf:(k:K)→k.den→Prop
 |.int ik,n=>(Lit.int ik n).wf=true
 |.str,s=>s.size≤maxLen
 |.sl e,xs=>xs.length≤maxLen∧∀x∈xs,e.wf x
 |.pair a b,d=>a.wf d.1∧b.wf d.2
 |_,_=>True
def kL(P:Program):K→TypeId ⊕ (List Field×Nat)→Bool
 |.int ik,.inl T=>match P.underlying T with
  |some (.int k)=>decide (k=ik)
  |_=>false
 |.bool,.inl T=>match P.underlying T with
  |some .bool=>true
  |_=>false
 |.str,.inl T=>match P.underlying T with
  |some .string=>true
  |_=>false
 |.sl e,.inl T=>match P.underlying T with
  |some (.slice t)=>Nat.beq (P.cellsOf t) e.size&&Nat.blt 0 e.size&&kL P e (.inl t)
  |_=>false
 |.pair a b,.inl T=>match P.underlying T with
  |some (.struct fs)=>Nat.beq (P.cellsOf T) (K.pair a b).size&&(match fs.toList with
   |f::l=>Nat.beq f.offset 0&&Nat.beq (P.cellsOf f.type) a.size&&kL P a (.inl f.type)&&kL P b (.inr (l,a.size))
   |[]=>false)
  |_=>false
 |.pair a b,.inr (f::l,off)=>Nat.beq f.offset off&&Nat.beq (P.cellsOf f.type) a.size&&kL P a (.inl f.type)&&kL P b (.inr (l,off+a.size))
 |.unit,.inr ([],_)=>true
 |_,_=>false
section
variable {P : Program} {w : World} {H : Type} {enc : TypeId × Value → H} {held : Bool} {θ : aF → Nat} {S : BS}
theorem afF{a:Addr}{n:Nat}{cs:List Value}(h:w.cells? 0 a n=some cs)(hn:0<n):∃c T fz,w.heap[a.block]?=some (.cells c T fz)∧a.spot=none∧a.off+n≤c.size∧cs=sub c a.off n:=by
 obtain ⟨_,hl,hc⟩:=World.cells?_some h
 have h0:=hc 0 hn
 have e0:a.add 0=a:=by simp [Addr.add]
 rw [e0] at h0
 have hsome:∃v,cs[0]?=some v:=⟨cs[0]'(by omega),List.getElem?_eq_getElem _⟩
 obtain ⟨v0,hv0⟩:=hsome
 rw [hv0] at h0
 unfold World.cell? at h0
 split at h0
 case h_2=>cases h0
 case h_1 c T fz hb=>
 split at h0
 ·cases h0
 ·rename_i hs
  have hs:a.spot=none:=by cases hh:a.spot with
   |none=>rfl
   |some x=>rw [hh] at hs;exact absurd rfl hs
  have hget:∀i,i<n→c[a.off+i]?=cs[i]?:=by
   intro i hi
   have:=hc i hi
   rw [←this]
   unfold World.cell?
   have hblk:(a.add i).block=a.block:=by unfold Addr.add;split<;>rfl
   have hsp:(a.add i).spot=none:=by unfold Addr.add;split<;>first|exact hs|rfl
   have hoff:(a.add i).off=a.off+i:=by unfold Addr.add;split<;>simp_all
   rw [hblk,hb]
   simp only [hsp,hoff,Option.isSome_none,Bool.false_eq_true,if_false]
  have hsize:a.off+n≤c.size:=by
   have:=hget (n-1) (by omega)
   rw [List.getElem?_eq_getElem (by omega)] at this
   have:=(Array.getElem?_eq_some_iff.1 this).1
   omega
  refine ⟨c,T,fz,hb,hs,hsize,?_⟩
  apply List.ext_getElem?
  intro i
  by_cases hi:i<n
  ·rw [←hget i hi]
   unfold sub
   rw [List.getElem?_take_of_lt hi,List.getElem?_drop,Array.getElem?_toList]
  ·rw [List.getElem?_eq_none (by omega),List.getElem?_eq_none (by rw [sV hsize];omega)]
theorem axu:∀(k:K),
  (∀(T:TypeId)(n:Nat)(cs:List Value)(x:DataW H×List MemPlace),kL P k (.inl T)=true→DataW.trod enc P w 0 (fun _=>true) held n T cs=some x →
   ∃d:k.den,Enc w θ (fun b=>b<w.heap.size) S k (.imm true) d cs noB∧k.wf d) ∧
  (∀(fs:List Field)(off n:Nat)(cs:List Value),kL P k (.inr (fs,off))=true→cs.length=off+k.size →
   (∀f∈fs,∃x,DataW.trod enc P w 0 (fun _=>true) held n f.type ((cs.drop f.offset).take (P.cellsOf f.type))=some x) →
   ∃d:k.den,Enc w θ (fun b=>b<w.heap.size) S k (.imm true) d (cs.drop off) noB∧k.wf d):=by
 intro k
 induction k with
 |int ik=>
  refine ⟨fun T n cs x h ht=>?_,fun fs off n cs h=>by simp [kL] at h⟩
  simp only [kL] at h
  split at h
  ·rename_i k hu
   have:=of_decide_eq_true h
   subst this
   obtain ⟨n,rfl,_,hw⟩:=DataW.trod_int hu ht
   exact ⟨n,rfl,hw⟩
  ·cases h
 |bool=>
  refine ⟨fun T n cs x h ht=>?_,fun fs off n cs h=>by simp [kL] at h⟩
  simp only [kL] at h
  split at h
  ·rename_i hu
   obtain ⟨b,rfl,_⟩:=DataW.trod_bool hu ht
   exact ⟨b,rfl,trivial⟩
  ·cases h
 |str=>
  refine ⟨fun T n cs x h ht=>?_,fun fs off n cs h=>by simp [kL] at h⟩
  simp only [kL] at h
  split at h
  ·rename_i hu
   obtain ⟨s,rfl,_,hw⟩:=DataW.trod_string hu ht
   exact ⟨s,rfl,hw⟩
  ·cases h
 |ptr=>exact ⟨fun T n cs x h=>by simp [kL] at h,fun fs off n cs h=>by simp [kL] at h⟩
 |fn=>exact ⟨fun T n cs x h=>by simp [kL] at h,fun fs off n cs h=>by simp [kL] at h⟩
 |unit=>
  refine ⟨fun T n cs x h=>by simp [kL] at h,fun fs off n cs h hl _=>?_⟩
  refine ⟨(),?_,trivial⟩
  show cs.drop off=[]
  have:cs.length=off:=hl
  exact List.drop_eq_nil_of_le (by omega)
 |sl e ih=>
  refine ⟨fun T n cs x h ht=>?_,fun fs off n cs h=>by simp [kL] at h⟩
  simp only [kL] at h
  split at h
  case h_2=>cases h
  case h_1 t hu=>
  simp only [Bool.and_eq_true] at h
  obtain ⟨⟨h1,h2⟩,h3⟩:=h
  have h1:=Nat.eq_of_beq_eq_true h1
  have h2:0<e.size:=Nat.le_of_ble_eq_true h2
  rcases DataW.trod_slice hu ht with ⟨rfl,_⟩|⟨a,len,cap,elems,rest,m,rfl,rfl,_,_,hlc,hcm,hel,helem,hsp,_⟩
  ·exact ⟨[],.inr (.inl ⟨by simp,rfl,none,rfl⟩),by show (0:Nat)≤maxLen;unfold maxLen;omega,by simp⟩
  ·obtain ⟨hrl,hrest⟩:=hsp rfl
   by_cases hc0:cap=0
   ·have hl0:len=0:=by omega
    subst hc0;subst hl0
    exact ⟨[],.inr (.inl ⟨by simp,rfl,some a,rfl⟩),by show (0:Nat)≤maxLen;unfold maxLen;omega,by simp⟩
   ·-- every cell up to the capacity
    have hall:∀i,i<cap→∃cs' x',w.cells? 0 (a.add (i*e.size)) e.size=some cs'∧DataW.trod enc P w 0 (fun _=>true) held m t cs'=some x':=by
     intro i hi
     have key:∃x',(w.cells? 0 (a.add (i*P.cellsOf t)) (P.cellsOf t)).bind (DataW.trod enc P w 0 (fun _=>true) held m t)=some x':=by
      by_cases hil:i<len
      ·rw [helem i hil]
       exact ⟨elems[i]'(by omega),List.getElem?_eq_getElem _⟩
      ·have:=hrest (i-len) (by omega)
       rw [show len+(i-len)=i by omega] at this
       rw [this]
       exact ⟨rest[i-len]'(by omega),List.getElem?_eq_getElem _⟩
     obtain ⟨x',hx'⟩:=key
     rw [h1] at hx'
     cases hcs:w.cells? 0 (a.add (i*e.size)) e.size with
     |none=>rw [hcs] at hx';cases hx'
     |some cs'=>rw [hcs] at hx';exact ⟨cs',x',rfl,hx'⟩
    have hblk:∀i,(a.add i).block=a.block:=fun i=>by unfold Addr.add;split<;>rfl
    obtain ⟨cs0,x0,hc0',_⟩:=hall 0 (by omega)
    rw [Nat.zero_mul,show a.add 0=a by simp [Addr.add]] at hc0'
    obtain ⟨c,U,fz,hb,hspot,_,_⟩:=afF hc0' h2
    have hoff:∀i,(a.add i).off=a.off+i:=fun i=>by unfold Addr.add;split<;>simp_all
    have hcell:∀i,i<cap→a.off+i*e.size+e.size≤c.size∧∃x',DataW.trod enc P w 0 (fun _=>true) held m t (sub c (a.off+i*e.size) e.size)=some x':=by
     intro i hi
     obtain ⟨cs',x',g1,g2⟩:=hall i hi
     obtain ⟨c',U',fz',hb',_,hs',rfl⟩:=afF g1 h2
     rw [hblk,hb] at hb'
     cases hb'
     rw [hoff] at hs' g2
     exact ⟨hs',x',g2⟩
    have hd:∀i,i<len→∃d:e.den,Enc w θ (fun b=>b<w.heap.size) S e (.imm true) d (sub c (a.off+i*e.size) e.size) noB∧e.wf d:=by
     intro i hi
     obtain ⟨_,x',hx'⟩:=hcell i (by omega)
     exact ih.1 t m _ x' h3 hx'
    have hlist:∃ds:List e.den,ds.length=len∧∀i d,ds[i]?=some d→Enc w θ (fun b=>b<w.heap.size) S e (.imm true) d (sub c (a.off+i*e.size) e.size) noB∧e.wf d:=by
     refine ⟨List.ofFn fun i:Fin len=>(hd i.1 i.2).choose,by simp,fun i d hi=>?_⟩
     rw [List.getElem?_ofFn] at hi
     split at hi
     ·rename_i hil
      cases hi
      exact (hd i hil).choose_spec
     ·cases hi
    obtain ⟨ds,hdl,hds⟩:=hlist
    have hlast:=(hcell (cap-1) (by omega)).1
    refine ⟨ds,.inr (.inr ⟨by simp,a.block,a.off,cap,c,U,fz,?_,hb,by omega,?_,.inl (by have:=(Array.getElem?_eq_some_iff.1 hb).1;exact this),fun _=>noB,fun i=>⟨fun _ h=>h.elim,fun h=>h⟩,fun _ _ _ _ h=>h.elim,fun i d hi=>(hds i d hi).1⟩),by show ds.length≤maxLen;omega,fun d hd'=>?_⟩
    ·rw [hdl]
     obtain ⟨ab,ao,asp⟩:=a
     simp only at hspot
     subst hspot
     rfl
    ·have:cap=(cap-1)+1:=by omega
     rw [this,Nat.add_mul,Nat.one_mul]
     omega
    ·obtain ⟨i,hi⟩:=List.mem_iff_getElem?.1 hd'
     exact (hds i d hi).2
 |pair a b iha ihb=>
  have tail:∀(f:Field)(l:List Field)(off n:Nat)(cs:List Value),f.offset=off→P.cellsOf f.type=a.size→kL P a (.inl f.type)=true→kL P b (.inr (l,off+a.size))=true→cs.length=off+(a.size+b.size) →
    (∀g∈f::l,∃x,DataW.trod enc P w 0 (fun _=>true) held n g.type ((cs.drop g.offset).take (P.cellsOf g.type))=some x) →
    ∃d:(K.pair a b).den,Enc w θ (fun b=>b<w.heap.size) S (.pair a b) (.imm true) d (cs.drop off) noB∧(K.pair a b).wf d:=by
   intro f l off n cs h1 h2 h3 h4 hl hf
   obtain ⟨x,hx⟩:=hf f (by simp)
   rw [h1,h2] at hx
   obtain ⟨d1,e1,w1⟩:=iha.1 _ _ _ _ h3 hx
   obtain ⟨d2,e2,w2⟩:=ihb.2 l (off+a.size) n cs h4 (by omega) (fun g hg=>hf g (by simp [hg]))
   refine ⟨(d1,d2),⟨(cs.drop off).take a.size,(cs.drop off).drop a.size,noB,noB,(List.take_append_drop _ _).symm,fun _ h=>h,fun _ h=>h,fun _ h=>h.elim,e1,?_⟩,w1,w2⟩
   rw [List.drop_drop]
   exact e2
  refine ⟨fun T n cs x h ht=>?_,fun fs off n cs h hl hf=>?_⟩
  ·simp only [kL] at h
   split at h
   case h_2=>cases h
   case h_1 fs hu=>
   simp only [Bool.and_eq_true] at h
   obtain ⟨h1,h2⟩:=h
   have h1:=Nat.eq_of_beq_eq_true h1
   split at h2
   case h_2=>cases h2
   case h_1 f l hfl=>
   simp only [Bool.and_eq_true] at h2
   obtain ⟨⟨⟨g1,g2⟩,g3⟩,g4⟩:=h2
   obtain ⟨xs,m,rfl,_,hcl,hxl,hall⟩:=DataW.trod_struct hu ht
   have:=tail f l 0 m cs (Nat.eq_of_beq_eq_true g1) (Nat.eq_of_beq_eq_true g2) g3 (by rw [Nat.zero_add];exact g4) (by rw [hcl,h1];simp [K.size]) (fun g hg=>?_)
   ·rw [List.drop_zero] at this
    exact this
   ·rw [←hfl] at hg
    obtain ⟨i,hi⟩:=List.mem_iff_getElem?.1 hg
    rw [Array.getElem?_toList] at hi
    have hlt:=(Array.getElem?_eq_some_iff.1 hi).1
    rw [hall i g hi]
    exact ⟨xs[i]'(by omega),List.getElem?_eq_getElem _⟩
  ·cases fs with
   |nil=>simp [kL] at h
   |cons f l=>
    simp only [kL,Bool.and_eq_true] at h
    obtain ⟨⟨⟨g1,g2⟩,g3⟩,g4⟩:=h
    exact tail f l off n cs (Nat.eq_of_beq_eq_true g1) (Nat.eq_of_beq_eq_true g2) g3 g4 (by rw [hl];simp [K.size]) hf
end
abbrev Args:List K→Type
 |[]=>Unit
 |k::l=>k.den×Args l
def avs:(l:List K)→Args l→List AV
 |[],_=>[]
 |k::l,d=>.imm true k d.1::avs l d.2
def wfs:(l:List K)→Args l→Prop
 |[],_=>True
 |k::l,d=>k.wf d.1∧wfs l d.2
theorem arq:∀(l:List K)(d:Args l),(avs l d).length=l.length:=by
 intro l
 induction l with
 |nil=>intro d;rfl
 |cons k l ih=>intro d;simp only [avs,List.length_cons,ih]
section
variable {P : Program} {H : Type} {enc : TypeId × Value → H}
def ajU(P:Program)(x:TypeId×K):Bool:=kL P x.2 (.inl x.1)&&x.2.plain&&P.readableRec x.1&&decide (x.1<P.types.size)
theorem avd{W:World}{C:Ctx}{rs:RF}(hZ:C.Z=fun b=>b<W.heap.size){base:Nat}{k:K}{T:TypeId}{v:Value}{d:DataW H}{p:List MemPlace}(hr:kL P k (.inl T)=true)(hp:k.plain=true)(hok:Value.okWide P W .any base T v)
  (h:DataW.Trod enc P W 0 (fun _=>true) true T v d p):∃dd:k.den,bP W C rs v (.imm true k dd)∧k.wf dd:=by
 obtain ⟨n,hn⟩:=h
 obtain ⟨dd,he,hw⟩:=(axu (θ:=C.θ) (S:=C.S) k).1 T n _ _ hr hn
 refine ⟨dd,?_,hw⟩
 rw [←hZ] at he
 cases k with
 |pair a b=>
  simp only [kL] at hr
  split at hr
  case h_2=>cases hr
  case h_1 fs hu=>
  simp only [Value.okWide,hu] at hok
  obtain ⟨cs,rfl,_⟩:=hok
  exact .inl (.inr (.inl ⟨rfl,cs.toList,by simp,hp,he⟩))
 |unit=>simp [kL] at hr
 |ptr=>simp [kL] at hr
 |fn=>simp [kL] at hr
 |int ik=>
  have hv:∃n,v=.int ik n:=by
   simp only [kL] at hr
   split at hr
   ·rename_i k hu;have:=of_decide_eq_true hr;subst this;exact okWide_int hu hok
   ·cases hr
  obtain ⟨n,rfl⟩:=hv
  exact .inl (.inr (.inr ⟨rfl,⟨hp,by simpa [Value.cells] using he⟩,rfl⟩))
 |bool=>
  have hv:∃n,v=.bool n:=by
   simp only [kL] at hr
   split at hr
   ·rename_i hu;exact okWide_bool hu hok
   ·cases hr
  obtain ⟨n,rfl⟩:=hv
  exact .inl (.inr (.inr ⟨rfl,⟨hp,by simpa [Value.cells] using he⟩,rfl⟩))
 |str=>
  have hv:∃n,v=.string n:=by
   simp only [kL] at hr
   split at hr
   ·rename_i hu;exact okWide_string hu hok
   ·cases hr
  obtain ⟨n,rfl⟩:=hv
  exact .inl (.inr (.inr ⟨rfl,⟨hp,by simpa [Value.cells] using he⟩,rfl⟩))
 |sl e=>
  have hv:∃a l c,v=.slice a l c:=by
   simp only [kL] at hr
   split at hr
   ·rename_i hu;exact okWide_slice hu hok
   ·cases hr
  obtain ⟨a,l,c,rfl⟩:=hv
  exact .inl (.inr (.inr ⟨rfl,⟨hp,by simpa [Value.cells] using he⟩,rfl⟩))
theorem trodAll_back(laid:laidOutB P=true){W W':World}(hb:Below W.heap.size W W'):∀(ks:List (TypeId×K)),ks.all (ajU P)=true→∀{vs:List Value}{ds:List (DataW H)}{p:List MemPlace},(∀x∈p,x.block<W.heap.size) →
  DataW.TrodAll enc P W 0 (fun _=>true) true (ks.map (·.1)) vs ds p→DataW.TrodAll enc P W' 0 (fun b=>decide (b<W.heap.size)) true (ks.map (·.1)) vs ds p∧ds.length=ks.length:=by
 intro ks
 induction ks with
 |nil=>intro _ vs ds p _ h;obtain ⟨rfl,rfl,rfl⟩:=trodAll_nil h;exact ⟨rfl,rfl⟩
 |cons x ks ih=>
  intro hk vs ds p hlt h
  rw [List.all_cons,Bool.and_eq_true] at hk
  obtain ⟨v,vs',d,ds',p1,q1,rfl,rfl,rfl,h1,h2⟩:=trodAll_cons h
  have hx:=hk.1
  simp only [ajU,Bool.and_eq_true,decide_eq_true_eq] at hx
  obtain ⟨g1,g2⟩:=ih hk.2 (fun y hy=>hlt y (by simp [hy])) h2
  exact ⟨⟨p1,q1,Below.trod laid hx.1.2 hx.2 h1 hb (fun y hy=>hlt y (by simp [hy])),g1,rfl⟩,by simp [g2]⟩
theorem aoV{W:World}{C:Ctx}{rs:RF}(hZ:C.Z=fun b=>b<W.heap.size){base:Nat}:∀(ks:List (TypeId×K)),ks.all (ajU P)=true→∀{vs:List Value}{ds:List (DataW H)}{p:List MemPlace},
  (∀(j:Nat) t v,(ks.map (·.1))[j]?=some t→vs[j]?=some v→Value.okWide P W .any base t v)→DataW.TrodAll enc P W 0 (fun _=>true) true (ks.map (·.1)) vs ds p →
  vs.length=ks.length∧∃dd:Args (ks.map (·.2)),wfs _ dd∧∀(i:Nat)(v:Value)(a:AV),vs[i]?=some v→(avs _ dd)[i]?=some a→bP W C rs v a:=by
 intro ks
 induction ks with
 |nil=>
  intro _ vs ds p _ h
  obtain ⟨rfl,rfl,rfl⟩:=trodAll_nil h
  exact ⟨rfl,(),trivial,fun i v a h=>by simp at h⟩
 |cons x ks ih=>
  intro hk vs ds p hok h
  rw [List.all_cons,Bool.and_eq_true] at hk
  obtain ⟨v,vs',d,ds',p1,q1,rfl,rfl,rfl,h1,h2⟩:=trodAll_cons h
  have hx:=hk.1
  simp only [ajU,Bool.and_eq_true,decide_eq_true_eq] at hx
  obtain ⟨g1,dd,g2,g3⟩:=ih hk.2 (fun j t v ht hv=>hok (j+1) t v (by simpa using ht) (by simpa using hv)) h2
  obtain ⟨d0,e1,e2⟩:=avd (rs:=rs) hZ hx.1.1.1 hx.1.1.2 (hok 0 x.1 v rfl rfl) h1
  refine ⟨by simp [g1],(d0,dd),⟨e2,g2⟩,fun i v' a hv ha=>?_⟩
  cases i with
  |zero=>
   simp only [List.getElem?_cons_zero,Option.some.injEq] at hv
   subst hv
   have ha:some (AV.imm true x.2 d0)=some a:=ha
   cases ha
   exact e1
  |succ i=>exact g3 i v' a (by simpa using hv) ha
theorem auP{Γ:Glb}{f:FuncId}{fn:Func}{rw:List Nat}{G:ZE→Tre aB}{sf:Bool}(hc:Contract P Γ f ⟨rw,G,sf⟩)(laid:laidOutB P=true)(ks:List (TypeId×K))(hp:fn.params.toList=ks.map (·.1))(hk:ks.all (ajU P)=true){rt:TypeId}
  (hr:fn.resultTypes = #[rt]) (hrt:P.underlying rt=some .bool) {s:ChangeSpec} (hv:s.vars=[]) (hs:∀ds:List (DataW H),ds.length=ks.length→s.fn H ds=⟨[.lit (.bool true)],ds,[]⟩)
  (hG:∀dd:Args (ks.map (·.2)),wfs _ dd→∃z,(G ⟨avs _ dd,[]⟩).run some=some ⟨.imm z .bool true,[],[]⟩) {W:World} {base:Nat} {args:Array Value} {ds gs:List (DataW H)} {before:List MemPlace}
  (hok:∀(j:Nat) t v,fn.params[j]?=some t→args[j]?=some v→Value.okWide P W .any base t v) (hW:DataW.Whole enc P fn.params.toList s.vars false W args.toList ds gs before) (hg0:(∀b∈Γ.blocks,b<W.heap.size)∧Γ.holds W) :
  Calls P f args W fun e W'=>∃v,e=.returned v∧s.post enc P fn false true false false W args v W':=by
 have hW':=hW
 obtain ⟨p,q,hA,hV,rfl,hfz,hnd⟩:=hW
 rw [hv] at hV
 obtain ⟨rfl,rfl⟩:=trodVars_none hV
 rw [hp] at hA
 have hlt:∀x∈p,x.block<W.heap.size:=fun x hx=>hW'.lt x (by simp [hx])
 have C0:Ctx:=⟨fun _=>0,fun _=>[],fun _=>noB,fun b=>b<W.heap.size,noB⟩
 have hok':∀(j:Nat) t v,(ks.map (·.1))[j]?=some t→args.toList[j]?=some v→Value.okWide P W .any base t v:=fun j t v ht hv=>hok j t v (by rw [←hp] at ht;rw [←Array.getElem?_toList];exact ht) (by rw [←Array.getElem?_toList];exact hv)
 obtain ⟨hlen,dd,hwf,hval⟩:=aoV (C:=⟨fun _=>0,fun _=>[],fun _=>noB,fun b=>b<W.heap.size,noB⟩) (rs:=acE []) rfl ks hk hok' hA
 obtain ⟨z,hg⟩:=hG dd hwf
 refine (hc W ⟨fun _=>0,fun _=>[],fun _=>noB,fun b=>b<W.heap.size,noB⟩ ⟨avs _ dd,[]⟩ _ args ?_ (by simp) (by rw [arq,List.length_map,←hlen,Array.length_toList]) (fun i v a hv ha=>hval i v a (by rw [Array.getElem?_toList];exact hv) ha) hg0 hg).mono fun e W' he=>?_
 ·have hno:∀q:aF,acE [] q=none:=by rintro ⟨q1,q2⟩;match q1 with
   |0=>simp [acE]
   |q1+1=>rfl
  exact ⟨(fun q y h=>by rw [hno] at h;cases h),(fun q q' y y' h=>by rw [hno] at h;cases h),(fun q y b h=>by rw [hno] at h;cases h),(fun b h=>h.elim id fun h=>h.elim),(fun q y h=>by rw [hno] at h;cases h)⟩
 ·cases e with
  |returned v=>
   obtain ⟨C',hpost,_⟩:=he
   have hvb:=hpost.val.bool
   subst hvb
   have hb:Below W.heap.size W W':=⟨hpost.kept.os,hpost.kept.tape,hpost.kept.output,hpost.kept.size,fun b hb=>hpost.kept.block b hb (fun ⟨i,x,h,_⟩=>by simp at h)⟩
   obtain ⟨hback,hdl⟩:=trodAll_back laid hb ks hk hlt hA
   refine ⟨_,rfl,ds,[],p++[],[],p,[],hW',?_,?_,?_,hb.frame _,fun h=>by cases h⟩
   ·rw [List.append_nil,hs ds hdl,hr]
    exact trodAll_mk1 (shut_bool hrt _)
   ·rw [List.append_nil,hs ds hdl,hp]
    exact hback
   ·rw [List.append_nil,hs ds hdl,hv]
    rfl
  |_=>exact he.elim
end
end Go.Abs
namespace Go.Abs
section
variable {R R' : Type} {r : R'} {g : R → Option R'}
def bE(k:K)(a:AV)(c:Bool→k.den→Tre R):Tre R:=match a with
 |.imm z k' d=>if h:k'=k then c z (h ▸ d) else .fail
 |_=>.fail
theorem aD{k:K}{a:AV}{c:Bool→k.den→Tre R}(h:(bE k a c).run g=some r):∃z d,a=.imm z k d∧(c z d).run g=some r:=by
 unfold bE at h
 split at h
 ·split at h
  ·rename_i hk;subst hk;exact ⟨_,_,rfl,h⟩
  ·cases h
 ·cases h
def anu(k:K)(a:AV)(c:Bool→k.den→Tre R):Tre R:=match a with
 |.iptr z k' d [.idx 0]=>if h:k'=.sl k then (match (h ▸ d:(K.sl k).den) with
   |[x]=>c z x
   |_=>.fail) else .fail
 |_=>.fail
theorem afD{k:K}{a:AV}{c:Bool→k.den→Tre R}(h:(anu k a c).run g=some r):∃z d,a=.iptr z (.sl k) [d] [.idx 0]∧(c z d).run g=some r:=by
 unfold anu at h
 split at h
 ·split at h
  ·rename_i hk;subst hk
   split at h
   ·rename_i x hx
    exact ⟨_,x,by rw [←hx],h⟩
   ·cases h
  ·cases h
 ·cases h
def aC(z0:Bool)(k:K)(a:AV)(c:k.den→Tre R):Tre R:=match a with
 |.imm z k' d=>if h:k'=k then (if z=z0 then c (h ▸ d) else .fail) else .fail
 |_=>.fail
theorem ak{z0:Bool}{k:K}{a:AV}{c:k.den→Tre R}(h:(aC z0 k a c).run g=some r):∃d,a=.imm z0 k d∧(c d).run g=some r:=by
 unfold aC at h
 split at h
 ·split at h
  ·rename_i hk
   subst hk
   split at h
   ·rename_i hz;subst hz;exact ⟨_,rfl,h⟩
   ·cases h
  ·cases h
 ·cases h
def azU(e:K)(a:AV)(c:Bool→List e.den→Tre R):Tre R:=match a with
 |.nn z e' d=>if h:e'=e then c z (h ▸ d) else .fail
 |_=>.fail
theorem atS{e:K}{a:AV}{c:Bool→List e.den→Tre R}(h:(azU e a c).run g=some r):∃z d,a=.nn z e d∧(c z d).run g=some r:=by
 unfold azU at h
 split at h
 ·split at h
  ·rename_i hk;subst hk;exact ⟨_,_,rfl,h⟩
  ·cases h
 ·cases h
def dz(q:aF)(p:Path)(a:AV)(c:Tre R):Tre R:=match a with
 |.ref q' p'=>if q'=q∧p'=p then c else .fail
 |_=>.fail
theorem bf{q:aF}{p:Path}{a:AV}{c:Tre R}(h:(dz q p a c).run g=some r):a=.ref q p∧c.run g=some r:=by
 unfold dz at h
 split at h
 ·split at h
  ·rename_i hk;obtain ⟨rfl,rfl⟩:=hk;exact ⟨rfl,h⟩
  ·cases h
 ·cases h
def firstIdx:Path→Nat
 |.idx n::_=>n
 |_::p=>firstIdx p
 |[]=>0
def as3:Path→Path→Bool
 |[],[]=>true
 |.fst::t,.fst::p=>as3 t p
 |.snd::t,.snd::p=>as3 t p
 |_,_=>false
def ap4:Path→Path→Bool
 |.fst::t,.fst::p=>ap4 t p
 |.snd::t,.snd::p=>ap4 t p
 |.idx _::t,.idx _::p=>as3 t p
 |_,_=>false
def av8:Path→Nat→Path
 |.idx _::t,n=>.idx n::t
 |s::t,n=>s::av8 t n
 |[],_=>[]
theorem ajH:∀(t p:Path),as3 t p=true→p=t
 |[],[],_=>rfl
 |.fst::t,.fst::p,h=>by rw [ajH t p h]
 |.snd::t,.snd::p,h=>by rw [ajH t p h]
theorem ajI:∀(t p:Path),ap4 t p=true→p=av8 t (firstIdx p)
 |.fst::t,.fst::p,h=>congrArg (Step.fst::·) (ajI t p h)
 |.snd::t,.snd::p,h=>congrArg (Step.snd::·) (ajI t p h)
 |.idx _::t,.idx n::p,h=>congrArg (Step.idx n::·) (ajH t p h)
def adM(q:aF)(t:Path)(a:AV)(c:Nat→Tre R):Tre R:=match a with
 |.ref r p=>bif req r q&&ap4 t p then c (firstIdx p) else .fail
 |_=>.fail
theorem Me{q:aF}{t:Path}{a:AV}{c:Nat→Tre R}(h:(adM q t a c).run g=some r):∃n,a=.ref q (av8 t n)∧(c n).run g=some r:=by
 unfold adM at h
 split at h
 case h_2=>cases h
 rename_i r' p'
 cases hk:(req r' q&&ap4 t p') with
 |false=>rw [hk] at h;cases h
 |true=>
  rw [hk] at h
  simp only [Bool.and_eq_true] at hk
  have hr:=cB.1 hk.1
  subst hr
  exact ⟨_,congrArg (AV.ref r') (ajI t p' hk.2),h⟩
def avr(q:aF)(p:Path)(a:AV)(c:Nat→Nat→Tre R):Tre R:=match a with
 |.slc q' p' lo n=>if q'=q∧p'=p then c lo n else .fail
 |_=>.fail
theorem arn{q:aF}{p:Path}{a:AV}{c:Nat→Nat→Tre R}(h:(avr q p a c).run g=some r):∃lo n,a=.slc q p lo n∧(c lo n).run g=some r:=by
 unfold avr at h
 split at h
 ·split at h
  ·rename_i hk;obtain ⟨rfl,rfl⟩:=hk;exact ⟨_,_,rfl,h⟩
  ·cases h
 ·cases h
def dU(q:aF)(p:Path)(a:AV)(c:Tre R):Tre R:=match a with
 |.ptr q' p'=>if q'=q∧p'=p then c else .fail
 |_=>.fail
theorem bF{q:aF}{p:Path}{a:AV}{c:Tre R}(h:(dU q p a c).run g=some r):a=.ptr q p∧c.run g=some r:=by
 unfold dU at h
 split at h
 ·split at h
  ·rename_i hk;obtain ⟨rfl,rfl⟩:=hk;exact ⟨rfl,h⟩
  ·cases h
 ·cases h
def aa4(f:Nat)(caps:List aF)(a:AV)(c:Tre R):Tre R:=match a with
 |.fn f' caps'=>if f'=f∧caps'=caps then c else .fail
 |_=>.fail
theorem nK{f:Nat}{caps:List aF}{a:AV}{c:Tre R}(h:(aa4 f caps a c).run g=some r):a=.fn f caps∧c.run g=some r:=by
 unfold aa4 at h
 split at h
 ·split at h
  ·rename_i hk;obtain ⟨rfl,rfl⟩:=hk;exact ⟨rfl,h⟩
  ·cases h
 ·cases h
def avq(a:AV)(c:Tre R):Tre R:=match a with
 |.nil=>c
 |_=>.fail
theorem arl{a:AV}{c:Tre R}(h:(avq a c).run g=some r):a=.nil∧c.run g=some r:=by
 unfold avq at h
 split at h
 ·exact ⟨rfl,h⟩
 ·cases h
def anv(a:AV)(c:AV→AV→Tre R):Tre R:=match a with
 |.pair x y=>c x y
 |_=>.fail
theorem afE{a:AV}{c:AV→AV→Tre R}(h:(anv a c).run g=some r):∃x y,a=.pair x y∧(c x y).run g=some r:=by
 unfold anv at h
 split at h
 ·exact ⟨_,_,rfl,h⟩
 ·cases h
def aJ{α:Type}(l:List α)(c:α→List α→Tre R):Tre R:=match l with
 |x::y=>c x y
 |_=>.fail
theorem au{α:Type}{l:List α}{c:α→List α→Tre R}(h:(aJ l c).run g=some r):∃x y,l=x::y∧(c x y).run g=some r:=by
 unfold aJ at h
 split at h
 ·exact ⟨_,_,rfl,h⟩
 ·cases h
def aU{α:Type}(l:List α)(c:Tre R):Tre R:=match l with
 |[]=>c
 |_=>.fail
theorem ay{α:Type}{l:List α}{c:Tre R}(h:(aU l c).run g=some r):l=[]∧c.run g=some r:=by
 unfold aU at h
 split at h
 ·exact ⟨rfl,h⟩
 ·cases h
def Js(mem:Bool)(k:K)(x:Root)(c:Mask→k.den→Tre R):Tre R:=
 if h:x.k=k then (bif Bool.beq x.mem mem then c x.m (h ▸ x.d) else .fail) else .fail
 where Bool.beq:Bool→Bool→Bool
 |true,b=>b
 |false,b=>!b
theorem eY{mem:Bool}{k:K}{x:Root}{c:Mask→k.den→Tre R}(h:(Js mem k x c).run g=some r):∃m d,x=⟨mem,k,m,d⟩∧(c m d).run g=some r:=by
 obtain ⟨mem',k',m',d'⟩:=x
 unfold Js at h
 split at h
 ·rename_i hk
  have hk:k'=k:=hk
  subst hk
  cases mem'<;>cases mem<;>first|exact ⟨_,_,rfl,h⟩|cases h
 ·cases h
def bD(mem:Bool)(k:K)(o:Option Root)(c:Mask→k.den→Tre R):Tre R:=match o with
 |some x=>Js mem k x c
 |none=>.fail
theorem aH{mem:Bool}{k:K}{o:Option Root}{c:Mask→k.den→Tre R}(h:(bD mem k o c).run g=some r):∃m d,o=some ⟨mem,k,m,d⟩∧(c m d).run g=some r:=by
 unfold bD at h
 split at h
 ·obtain ⟨m,d,hx,h2⟩:=eY h;exact ⟨m,d,by rw [hx],h2⟩
 ·cases h
def asM(m0 m:Mask)(c:Tre R):Tre R:=if m=m0 then c else .fail
theorem aQ{m0 m:Mask}{c:Tre R}(h:(asM m0 m c).run g=some r):m=m0∧c.run g=some r:=by
 unfold asM at h
 split at h
 ·exact ⟨‹_›,h⟩
 ·cases h
def vQ(m:Mask)(c:Bool→Tre R):Tre R:=match m with
 |.imm z=>c z
 |_=>.fail
theorem fH{m:Mask}{c:Bool→Tre R}(h:(vQ m c).run g=some r):∃z,m=.imm z∧(c z).run g=some r:=by
 unfold vQ at h
 split at h
 ·exact ⟨_,rfl,h⟩
 ·cases h
end
section
variable {σ β : Type}
def runN (step:σ→Tre (σ ⊕ β)):Nat→σ→Option β
 |0,_=>none
 |n+1,x=>(step x).run fun
  |.inl y=>runN step n y
  |.inr b=>some b
theorem P7(step:σ→Tre (σ ⊕ β))(n:Nat)(x:σ):runN step (n+1) x=((step x).run some).bind fun
  |.inl y=>runN step n y
  |.inr b=>some b:=Tre.run_bind _ _
theorem auQ(step:σ→Tre (σ ⊕ β)):∀(n:Nat)(x:σ)(b:β),runN step n x=some b→runN step (n+1) x=some b:=by
 intro n
 induction n with
 |zero=>intro x b h;cases h
 |succ n ih=>
  intro x b h
  rw [P7] at h ⊢
  cases hs:(step x).run some with
  |none=>rw [hs] at h;cases h
  |some y=>
   rw [hs] at h
   cases y with
   |inl y=>exact ih y b h
   |inr y=>exact h
theorem aij(step:σ→Tre (σ ⊕ β)){n m:Nat}(hnm:n≤m){x:σ}{b:β}(h:runN step n x=some b):runN step m x=some b:=by
 induction hnm with
 |refl=>exact h
 |step _ ih=>exact auQ step _ _ _ ih
open Classical in
def aR (step:σ→Tre (σ ⊕ β)) (x:σ):Option β:=
 match runN step 1000000000000 x with
 |some b=>some b
 |none=>if h:∃b,∃n,runN step n x=some b then some (Classical.choose h) else none
theorem XF{step:σ→Tre (σ ⊕ β)}{x:σ}{b:β}:aR step x=some b ↔ ∃n,runN step n x=some b:=by
 unfold aR
 generalize hN:(1000000000000:Nat)=N
 cases hr:runN step N x with
 |some b'=>
  constructor
  ·intro h;cases h;exact ⟨N,hr⟩
  ·rintro ⟨n,hn⟩
   have h1:=aij step (Nat.le_max_left n N) hn
   have h2:=aij step (Nat.le_max_right n N) hr
   rw [h1] at h2
   exact h2.symm
 |none=>
  constructor
  ·intro h
   dsimp only at h
   split at h
   ·rename_i hx
    simp only [Option.some.injEq] at h
    rw [←h]
    exact Classical.choose_spec hx
   ·cases h
  ·rintro ⟨n,hn⟩
   have hx:∃b,∃n,runN step n x=some b:=⟨b,n,hn⟩
   dsimp only
   rw [dif_pos hx]
   obtain ⟨m,hm⟩:=Classical.choose_spec hx
   have h1:=aij step (Nat.le_max_left n m) hn
   have h2:=aij step (Nat.le_max_right n m) hm
   rw [h1] at h2
   exact h2.symm
theorem ap8(step:σ→Tre (σ ⊕ β))(x:σ):aR step x=((step x).run some).bind fun
  |.inl y=>aR step y
  |.inr b=>some b:=by
 apply Option.ext
 intro b
 rw [XF]
 constructor
 ·rintro ⟨n,hn⟩
  cases n with
  |zero=>cases hn
  |succ n=>
   rw [P7] at hn
   cases hs:(step x).run some with
   |none=>rw [hs] at hn;cases hn
   |some y=>
    rw [hs] at hn
    cases y with
    |inl y=>exact XF.2 ⟨n,hn⟩
    |inr y=>exact hn
 ·intro h
  cases hs:(step x).run some with
  |none=>rw [hs] at h;cases h
  |some y=>
   rw [hs] at h
   cases y with
   |inl y=>
    obtain ⟨n,hn⟩:=XF.1 h
    exact ⟨n+1,by rw [P7,hs];exact hn⟩
   |inr y=>exact ⟨1,by rw [P7,hs];exact h⟩
variable {V : Env} {A : List (Nat × bK)}
def bU(kp kx:Keep)(c:St→Option (Ex×St))(e:Ex)(s:St):Option (Ex×St):=match e with
 |.normal=>c (restrict kp s)
 |e=>some (e,restrict kx s)
def bV(mk:σ→St)(out:β→Ex×St)(c:St→Option (Ex×St)):σ ⊕ β→Option (Ex×St)
 |.inl y=>c (mk y)
 |.inr b=>some (out b)
theorem auw{L:bK}{body:Code}{mk:σ→St}{out:β→Ex×St}{step:σ→Tre (σ ⊕ β)}
  (hstep:∀(x:σ)(c:St→Option (Ex×St)),den V A body (mk x) (bU L.kp L.kx c)=(step x).run (bV mk out c)):∀(n:Nat)(x:σ)(b:β),runN step n x=some b→iter L (fun s (c:Ex→St→Option (Ex×St))=>den V A body s c) n (mk x) (fun e s'=>some (e,s'))=some (out b):=by
 intro n
 induction n with
 |zero=>intro x b h;cases h
 |succ n ih=>
  intro x b h
  rw [P7] at h
  have h1:=hstep x fun s=>iter L (fun s (c:Ex→St→Option (Ex×St))=>den V A body s c) n s (fun e s'=>some (e,s'))
  rw [Tre.run_bind] at h1
  refine Eq.trans (Eq.trans ?_ h1) ?_
  ·rfl
  cases hs:(step x).run some with
  |none=>rw [hs] at h;cases h
  |some y=>
   rw [hs] at h
   cases y with
   |inl y=>exact ih y b h
   |inr y=>cases h;rfl
def bR (T:List (Nat×AV)) (U:List (aF×Option Root)):St:=⟨adC T,acC U,Ow (acC U) (U.map (·.1))⟩
def allT(tm:TF):List (Nat×AV)→Prop
 |[]=>True
 | (t,v)::l=>tm t=v∧allT tm l
def avm(rs:RF):List (aF×Option Root)→Prop
 |[]=>True
 | (q,x)::l=>rs q=x∧avm rs l
theorem axq{tm:TF}:∀(l:List Nat)(t:Nat),t∈l→adC (YV tm l) t=tm t:=by
 intro l
 induction l with
 |nil=>intro t h;cases h
 |cons x l ih=>
  intro t h
  simp only [YV,adC]
  by_cases he:t=x
  ·rw [beq_iff.2 he];subst he;rfl
  ·rw [iC he]
   exact ih t ((List.mem_cons.1 h).resolve_left he)
theorem aqy{rs:RF}:∀(l:List aF)(q:aF),q∈l→acC (keepR rs l) q=rs q:=by
 intro l
 induction l with
 |nil=>intro t h;cases h
 |cons x l ih=>
  intro t h
  simp only [keepR,acC]
  by_cases he:t=x
  ·rw [cB.2 he];subst he;rfl
  ·rw [iD he]
   exact ih t ((List.mem_cons.1 h).resolve_left he)
theorem auy{tm:TF}:∀(T:List (Nat×AV)),allT tm T→YV tm (T.map (·.1))=T:=by
 intro T
 induction T with
 |nil=>intro _;rfl
 |cons x T ih=>intro h;obtain ⟨t,v⟩:=x;obtain ⟨h1,h2⟩:=h;simp only [List.map_cons,YV,ih h2,h1]
theorem amG{rs:RF}:∀(U:List (aF×Option Root)),avm rs U→keepR rs (U.map (·.1))=U:=by
 intro U
 induction U with
 |nil=>intro _;rfl
 |cons x U ih=>intro h;obtain ⟨t,v⟩:=x;obtain ⟨h1,h2⟩:=h;simp only [List.map_cons,keepR,ih h2,h1]
theorem aoe{rs rs':RF}:∀(l:List aF),(∀q∈l,rs' q=rs q)→Ow rs' l=Ow rs l:=by
 intro l
 induction l with
 |nil=>intro _;rfl
 |cons x l ih=>
  intro h
  funext n
  simp only [Ow]
  rw [h x (by simp),ih fun q hq=>h q (by simp [hq])]
theorem akZ{kp:Keep}{s:St}:∀(T:List (Nat×AV)),(∀t∈T.map (·.1),t∈kp.1)→allT (restrict kp s).tmps T→allT s.tmps T:=by
 intro T
 induction T with
 |nil=>intro _ _;trivial
 |cons x T ih=>
  intro hm h
  obtain ⟨t,v⟩:=x
  refine ⟨?_,ih (fun u hu=>hm u (by simp at hu ⊢;exact .inr hu)) h.2⟩
  rw [←h.1]
  exact (axq _ t (hm t (by simp))).symm
theorem ak0{kp:Keep}{s:St}:∀(U:List (aF×Option Root)),(∀q∈U.map (·.1),q∈kp.2)→avm (restrict kp s).roots U→avm s.roots U:=by
 intro U
 induction U with
 |nil=>intro _ _;trivial
 |cons x U ih=>
  intro hm h
  obtain ⟨t,v⟩:=x
  refine ⟨?_,ih (fun u hu=>hm u (by simp at hu ⊢;exact .inr hu)) h.2⟩
  rw [←h.1]
  exact (aqy _ t (hm t (by simp))).symm
theorem aT{kp:Keep}{s:St}{T:List (Nat×AV)}{U:List (aF×Option Root)}(h1:kp.1=T.map (·.1))(h2:kp.2=U.map (·.1))(hT:allT (restrict kp s).tmps T)(hU:avm (restrict kp s).roots U):restrict kp s=bR T U:=by
 have hT':=akZ T (by rw [h1];exact fun _ h=>h) hT
 have hU':=ak0 U (by rw [h2];exact fun _ h=>h) hU
 unfold restrict bR
 rw [h1,h2,auy T hT',amG U hU']
 have:Ow s.roots (U.map (·.1))=Ow (acC U) (U.map (·.1)):=by
  refine aoe _ fun q hq=>?_
  have h3:=amG U hU'
  rw [←aqy (rs:=s.roots) (U.map (·.1)) q hq,h3]
 rw [this]
def gN:Code→List Code
 |.seq a b=>gN a++gN b
 |.cond _ a b=>gN a++gN b
 |.block _ a=>gN a
 |.loop a=>a::gN a
 |_=>[]
theorem ajL:∀(c:Code),(∀a∈gN c,∀i L,fI a=some i→jk i A=some L→bS V A a L)→aZ V A c:=by
 intro c
 induction c with
 |seq a b iha ihb=>intro h;exact ⟨iha fun x hx=>h x (by simp [gN,hx]),ihb fun x hx=>h x (by simp [gN,hx])⟩
 |cond x a b iha ihb=>intro h;exact ⟨iha fun x hx=>h x (by simp [gN,hx]),ihb fun x hx=>h x (by simp [gN,hx])⟩
 |block id a ih=>intro h;exact ih h
 |loop a ih=>intro h;exact ⟨ih fun x hx=>h x (by simp [gN,hx]),h a (by simp [gN])⟩
 |_=>intro _;trivial
def aY(c:Code)(n:Nat):Code:=(gN c).getD n .skip
theorem bB{c:Code}(h:(gN c).length=0):aZ V A c:=ajL c fun a ha=>by rw [List.eq_nil_of_length_eq_zero h] at ha;cases ha
theorem bC{c:Code}{n:Nat}(hn:(gN c).length=n)(h:∀k,k<n→∀i L,fI (aY c k)=some i→jk i A=some L→bS V A (aY c k) L):aZ V A c:=by
 refine ajL c fun a ha=>?_
 obtain ⟨k,hk,rfl⟩:=List.mem_iff_getElem.1 ha
 have:=h k (by omega)
 unfold aY at this
 rw [List.getD_eq_getElem?_getD,List.getElem?_eq_getElem hk] at this
 exact this
theorem bq{a:Code}{id:Nat}{L:bK}(h1:fI a=some id)(h2:jk id A=some L)(h:bS V A a L):∀i L',fI a=some i→jk i A=some L'→bS V A a L':=by
 intro i L' h3 h4
 rw [h1] at h3
 cases h3
 rw [h2] at h4
 cases h4
 exact h
theorem bA{a:Code}{L:bK} (h:∀(s:St)(e:Ex)(s':St),(L.sm (restrict L.kp s)).run some=some (e,s') →
  ∃(σ β:Type) (mk:σ→St) (out:β→Ex×St) (step:σ→Tre (σ ⊕ β)) (x:σ) (b:β),restrict L.kp s=mk x∧aR step x=some b∧out b=(e,s') ∧
   ∀(x:σ)(c:St→Option (Ex×St)),den V A a (mk x) (bU L.kp L.kx c)=(step x).run (bV mk out c)):bS V A a L:=by
 intro s e s' hs
 obtain ⟨σ,β,mk,out,step,x,b,h1,h2,h3,h4⟩:=h s e s' hs
 obtain ⟨n,hn⟩:=XF.1 h2
 refine ⟨n,?_⟩
 rw [h1,←h3]
 exact auw h4 n x b hn
theorem EF{α:Type}{b:Bool}{t f:Tre α}{x y:α}(h1:t.run some=some x)(h2:f.run some=some y):(Tre.cond b t f).run some=some (cond b x y):=by cases b<;>assumption
theorem bT{ρ γ δ:Type}{o:Option ρ}{out:ρ→γ}{x:δ}{c:γ→Option δ}(h:(Tre.mat o fun y=>Tre.ret (out y)).run c=some x):∃y,o=some y∧c (out y)=some x:=by
 rw [Tre.oF] at h
 cases o with
 |none=>cases h
 |some y=>exact ⟨y,rfl,h⟩
theorem jR{β δ α:Type}{o:Option β}{k:β→Tre α}{x:δ}{c:α→Option δ}(h:(Tre.mat o k).run c=some x):∃y,o=some y∧(k y).run c=some x:=by
 rw [Tre.oF] at h
 cases o with
 |none=>cases h
 |some y=>exact ⟨y,rfl,h⟩
theorem axt{α δ:Type}{b:Bool}{A B:Tre α}{c:α→Option δ}{x:δ}(hb:b=true)(h:(cond b A B).run c=some x):A.run c=some x:=by subst hb;exact h
theorem avb{α δ:Type}{b:Bool}{A B:Tre α}{c:α→Option δ}{x:δ}(hb:b=false)(h:(cond b A B).run c=some x):B.run c=some x:=by subst hb;exact h
theorem bJ{ρ:Type}{t:Tre ρ}{out:ρ→aB}{d:Option aB}{co:aB}(hd:d=t.run fun y=>some (out y))(h:(Tre.mat (t.run some) fun y=>Tre.ret (out y)).run some=some co):(Tre.mat d Tre.ret).run some=some co:=by
 obtain ⟨y,h1,h2⟩:=bT h
 rw [hd,Tre.run_bind t,h1]
 exact h2
theorem xq{ρ:Type}{t:Tre ρ}{out:ρ→aB}{d:Option aB}{co:aB}{y:ρ}(hd:d=t.run fun y=>some (out y))(hs:t.run some=some y)(h:(Tre.ret (out y):Tre aB).run some=some co):(Tre.mat d Tre.ret).run some=some co:=by
 rw [hd,Tre.run_bind t,hs]
 exact h
theorem xg{ρ:Type}{t:Tre ρ}{out:ρ→aB}{d:Option aB}{co:aB}{o:Option ρ}(hd:d=t.run fun y=>some (out y))(hs:∀y,o=some y→t.run some=some y)(h:(Tre.mat o fun y=>Tre.ret (out y)).run some=some co):(Tre.mat d Tre.ret).run some=some co:=by
 obtain ⟨y,h1,h2⟩:=bT h
 exact xq hd (hs y h1) h2
theorem aiV{ρ:Type}{t:Tre ρ}{out:ρ→aB}{k:ρ→Tre aB}{d:Option aB}{co:aB}(hd:d=t.run fun y=>some (out y))(h:(Tre.mat (t.run some) k).run some=some co)(hk:∀x,(k x).run some=some (out x)):(Tre.mat d Tre.ret).run some=some co:=by
 obtain ⟨y,h1,h2⟩:=jR h
 rw [hk] at h2
 rw [hd,Tre.run_bind t,h1]
 exact h2
theorem anA{P:Program}{Γ:Glb}{f:FuncId}{q0 q1 q:Ctr}{e:K}(h0:Contract P Γ f q0)(h1:Contract P Γ f q1) (hq:∀ci co,(q.G ci).run some=some co→∃z d,ci=⟨[.imm z (.sl e) d],[]⟩ ∧
  (q1.G ⟨[.nn z e d],[]⟩).run some=some co∧(d=[]→(q0.G ⟨[.nil],[]⟩).run some=some co)) (hs:q.soft=false:=by rfl):Contract P Γ f q:=by
 intro w C ci co vals hM hptr hsz hvals hgl hG
 obtain ⟨z,d,rfl,g1,g0⟩:=hq ci co hG
 obtain ⟨v,rfl⟩:∃v,vals = #[v]:=by
  match vals,hsz with
  |⟨[v]⟩,_=>exact ⟨v,rfl⟩
 have hv:=hvals 0 v _ rfl rfl
 obtain ⟨hA,hc⟩:=hv.cell (by simp) rfl (by simp) (by simp)
 have key:(v=.slice none 0 0∧d=[])∨∃a n c,v=.slice (some a) n c:=by
  rcases hA.2 with ⟨h,_⟩|⟨_,rfl,a,h⟩|⟨_,b,off,cap,c,T,fz,h,_⟩
  ·cases h
  ·simp only [List.cons.injEq,and_true] at h
   cases a with
   |none=>exact .inl ⟨h,rfl⟩
   |some a=>exact .inr ⟨a,_,_,h⟩
  ·simp only [List.cons.injEq,and_true] at h
   exact .inr ⟨_,_,_,h⟩
 have one:∀{av:AV},bP w C (acE []) v av→∀(i:Nat)(v':Value)(a:AV),(#[v]:Array Value)[i]?=some v'→[av][i]?=some a→bP w C (acE []) v' a:=by
  intro av hav i v' a h1 h2
  cases i with
  |zero=>simp only [List.getElem?_cons_zero,Option.some.injEq] at h2;subst h2;simp at h1;subst h1;exact hav
  |succ i=>simp at h2
 have conv:∀{args:List AV}{sf:Bool}{e':Ending}{w':World},(match e' with
   |.returned v=>∃C',Ux w C ⟨args,[]⟩ co v w' C'∧(sf=true→air w C ⟨args,[]⟩ co w' C')
   |_=>False)→(match e' with
   |.returned v=>∃C',Ux w C ⟨[.imm z (.sl e) d],[]⟩ co v w' C'∧(q.soft=true→air w C ⟨[.imm z (.sl e) d],[]⟩ co w' C')
   |_=>False):=by
  intro args sf e' w' h
  cases e' with
  |returned v=>obtain ⟨C',hp,_⟩:=h;exact ⟨C',⟨hp.Z,hp.S,hp.θ,hp.mem,hp.val,hp.ρ,hp.kept,hp.foot,hp.zn⟩,fun h=>by rw [hs] at h;cases h⟩
  |_=>exact h
 rcases key with ⟨rfl,hd⟩|⟨a,n,c,rfl⟩
 ·refine Calls.mono ?_ (fun e' w' h=>conv (args:=[.nil]) (sf:=q0.soft) h)
  exact h0 w C ⟨[.nil],[]⟩ co #[.slice none 0 0] hM (by simp) rfl (one (.inl (.inr (.inr ⟨rfl,rfl,rfl⟩)))) hgl (g0 hd)
 ·refine Calls.mono ?_ (fun e' w' h=>conv (args:=[.nn z e d]) (sf:=q1.soft) h)
  exact h1 w C ⟨[.nn z e d],[]⟩ co #[.slice (some a) n c] hM (by simp) rfl (one (.inl (.inr (.inr ⟨rfl,⟨hA.1,hA.2,a,n,c,rfl⟩,rfl⟩)))) hgl g1
def _root_.Go.Abs.AV.isRef:AV→Bool
 |.ref _ _=>true
 |_=>false
end
end Go.Abs
namespace Go.Abs
theorem dN{n:Int}(h1:-9223372036854775808≤n)(h2:n≤9223372036854775807):aP .i64 n=n:=Go.IntWalk.i64_in n ⟨h1,h2⟩
theorem aV{i:Nat}(h:i<4611686018427387904):aP .i64 ((i:Int)+1)=((i+1:Nat):Int):=by
 rw [dN (by omega) (by omega)];rfl
theorem amF{n:Int}(h1:0≤n)(h2:n≤18446744073709551615):aP .u64 n=n:=by
 unfold aP IntKind.wrap
 simp only [IntKind.signed,IntKind.bits,Bool.false_and,Bool.false_eq_true,if_false]
 exact Int.emod_eq_of_lt h1 (by omega)
theorem aem(n:Int):0≤aP .u64 n:=by
 unfold aP IntKind.wrap
 simp only [IntKind.signed,IntKind.bits,Bool.false_and,Bool.false_eq_true,if_false]
 exact Int.emod_nonneg _ (by decide)
def inR(n a b:Int):Bool:=decide (a≤n)&&decide (n≤b)
theorem kF{n a b:Int}:inR n a b=true↔a≤n∧n≤b:=by simp [inR]
theorem auv{n a b:Int}:inR n a b=false↔n<a∨b<n:=by
 cases h:inR n a b with
 |true=>rw [kF] at h;simp;omega
 |false=>
  simp only [true_iff]
  have:¬(a≤n∧n≤b):=fun h2=>by rw [kF.2 h2] at h;cases h
  omega
def ak1{α:Type}(b:Bool)(x:α):Option α:=cond b (some x) none
theorem Ao{α:Type}{b:Bool}{x y:α}(h:ak1 b x=some y):b=true∧x=y:=by
 cases b with
 |true=>exact ⟨rfl,Option.some.inj h⟩
 |false=>cases h
theorem pV{α:Type}{b:Bool}{x:α}(h:b=true):ak1 b x=some x:=by rw [h];rfl
def lim{α:Type}(n:Nat)(x:α):Option α:=if n≤1048576 then some x else none
theorem ab8{α:Type}{n:Nat}{x y:α}(h:lim n x=some y):n≤1048576∧x=y:=by
 unfold lim at h
 split at h
 ·exact ⟨‹_›,Option.some.inj h⟩
 ·cases h
theorem KF{α:Type}{n:Nat}{x:α}(h:n≤1048576):lim n x=some x:=if_pos h
abbrev gH{α:Type}(xs:List α):Option (List α):=lim xs.length xs
section
variable {σ β α γ ρ R : Type} {step : σ → Tre (σ ⊕ β)}
theorem mR{x y:σ}(h:(step x).run some=some (.inl y)):aR step x=aR step y:=by rw [ap8,h];rfl
theorem fB{x:σ}{b:β}(h:(step x).run some=some (.inr b)):aR step x=some b:=by rw [ap8,h];rfl
theorem dP{xs:List α}{i:Nat}{x:α}{k:α→Tre ρ}{e:Tre ρ}{c:ρ→Option R}(h:xs[i]?=some x) :
  (Tre.cond (decide ((i:Int)<(xs.length:Int))) (.ite (0≤(i:Int)∧(i:Int)<(xs.length:Int)) (.mat xs[(i:Int).toNat]? k)) e).run c=(k x).run c:=by
 have hi:i<xs.length:=(List.getElem?_eq_some_iff.1 h).1
 rw [Tre.aG,show decide ((i:Int)<(xs.length:Int))=true from by simp;omega,cond_true,Tre.run_ite,if_pos ⟨by omega,by omega⟩,Tre.oF,Int.toNat_natCast,h]
 rfl
theorem dF{xs:List α}{i:Nat}{x:α}{k:α→Tre ρ}{c:ρ→Option R}(h:xs[i]?=some x) :
  (Tre.ite (0≤(i:Int)∧(i:Int)<(xs.length:Int)) (.mat xs[(i:Int).toNat]? k)).run c=(k x).run c:=by
 have hi:i<xs.length:=(List.getElem?_eq_some_iff.1 h).1
 rw [Tre.run_ite,if_pos ⟨by omega,by omega⟩,Tre.oF,Int.toNat_natCast,h]
 rfl
theorem dw{n:Int}{t e:Tre ρ}{c:ρ→Option R}:(Tre.cond (decide (n<n)) t e).run c=e.run c:=by
 rw [Tre.aG,show decide (n<n)=false from by simp];rfl
theorem ah{o:Option α}{x:α}{k:α→Tre ρ}{c:ρ→Option R}(h:o=some x):(Tre.mat o k).run c=(k x).run c:=by rw [Tre.oF,h];rfl
def qY(f:Nat→γ→α→γ ⊕ β)(fin:γ→β):Nat→γ→List α→β
 |_,acc,[]=>fin acc
 |i,acc,x::l=>match f i acc x with
  |.inl a=>qY f fin (i+1) a l
  |.inr b=>b
theorem mD{xs:List α}(st:Nat→γ→σ)(f:Nat→γ→α→γ ⊕ β)(fin:γ→β)(I:Nat→γ→Prop)
  (hs:∀i acc x,xs[i]?=some x→I i acc→(step (st i acc)).run some=some (match f i acc x with
   |.inl a=>.inl (st (i+1) a)
   |.inr b=>.inr b)∧∀a,f i acc x=.inl a→I (i+1) a)
  (he:∀acc,I xs.length acc→(step (st xs.length acc)).run some=some (.inr (fin acc))):∀(l:List α)(i:Nat)(acc:γ),xs.drop i=l→i≤xs.length→I i acc→aR step (st i acc)=some (qY f fin i acc l):=by
 intro l
 induction l with
 |nil=>
  intro i acc hl hi hI
  have:i=xs.length:=by have:=List.drop_eq_nil_iff.1 hl;omega
  subst this
  exact fB (he acc hI)
 |cons x l ih=>
  intro i acc hl hi hI
  have hx:xs[i]?=some x:=by
   have:=congrArg (·[0]?) hl
   simpa using this
  have hi':i<xs.length:=(List.getElem?_eq_some_iff.1 hx).1
  obtain ⟨h1,h2⟩:=hs i acc x hx hI
  simp only [qY]
  cases hf:f i acc x with
  |inl a=>
   rw [hf] at h1
   rw [mR h1]
   exact ih (i+1) a (by rw [←List.drop_drop,hl];rfl) (by omega) (h2 a hf)
  |inr b=>
   rw [hf] at h1
   exact fB h1
theorem arT{xs:List α}(st:Nat→γ→σ)(f:Nat→γ→α→γ ⊕ β)(fin:γ→β)
  (hs:∀i acc x,xs[i]?=some x→(step (st i acc)).run some=some (match f i acc x with
   |.inl a=>.inl (st (i+1) a)
   |.inr b=>.inr b))
  (he:∀acc,(step (st xs.length acc)).run some=some (.inr (fin acc))) (acc:γ):aR step (st 0 acc)=some (qY f fin 0 acc xs):=
 mD (xs:=xs) st f fin (fun _ _=>True) (fun i a x h _=>⟨hs i a x h,fun _ _=>trivial⟩) (fun a _=>he a) xs 0 acc rfl (Nat.zero_le _) trivial
def UG(f:Nat→α→Option β)(fin:β):Nat→List α→β
 |_,[]=>fin
 |i,x::l=>match f i x with
  |some b=>b
  |none=>UG f fin (i+1) l
theorem OT{step:Int→Tre (Int ⊕ β)}{xs:List α}(f:Nat→α→Option β)(fin:β)
  (hs:∀(i:Nat) x,xs[i]?=some x→(step (i:Int)).run some=some (match f i x with
   |none=>.inl ((i+1:Nat):Int)
   |some b=>.inr b)) (he:(step (xs.length:Int)).run some=some (.inr fin)):aR step 0=some (UG f fin 0 xs):=by
 have key:∀(l:List α)(i:Nat),xs.drop i=l→i≤xs.length→aR step (i:Int)=some (UG f fin i l):=by
  intro l
  induction l with
  |nil=>
   intro i hl hi
   have:i=xs.length:=by have:=List.drop_eq_nil_iff.1 hl;omega
   subst this
   exact fB he
  |cons x l ih=>
   intro i hl hi
   have hx:xs[i]?=some x:=by
    have:=congrArg (·[0]?) hl
    simpa using this
   have hi':i<xs.length:=(List.getElem?_eq_some_iff.1 hx).1
   have h1:=hs i x hx
   simp only [UG]
   cases hf:f i x with
   |none=>
    rw [hf] at h1
    rw [mR h1]
    exact ih (i+1) (by rw [←List.drop_drop,hl];rfl) (by omega)
   |some b=>
    rw [hf] at h1
    exact fB h1
 exact key xs 0 rfl (Nat.zero_le _)
def oq(p:α→Bool):Nat→List α→Int
 |_,[]=>-1
 |i,x::l=>cond (p x) (i:Int) (oq p (i+1) l)
theorem Xq{p:α→Bool}:∀(l:List α)(i:Nat),(match UG (β:=Int ⊕ Unit) (fun i x=>cond (p x) (some (.inl (i:Int))) none) (.inr ()) i l with
  |.inl n=>n
  |.inr _=>-1)=oq p i l:=by
 intro l
 induction l with
 |nil=>intro i;rfl
 |cons x l ih=>
  intro i
  simp only [UG,oq]
  cases p x with
  |true=>rfl
  |false=>exact ih _
theorem awq{p:α→Bool}:∀(l:List α)(i:Nat),decide (oq p i l ≥ 0)=l.any p:=by
 intro l
 induction l with
 |nil=>intro i;rfl
 |cons x l ih=>
  intro i
  simp only [oq,List.any_cons]
  rcases Bool.eq_false_or_eq_true (p x) with hp|hp
  ·simp [hp]
  ·have:=ih (i+1)
   simp only [hp,cond_false,Bool.false_or]
   exact this
end
def eqR{α:Type} [DecidableEq α] (n:Nat) (x y:α):Option Bool:=if n≤1048576∧x=y then some true else none
theorem av7{α:Type} [DecidableEq α] {n:Nat} {x y:α} {b:Bool} (h:eqR n x y=some b):n≤1048576∧x=y∧b=true:=by
 unfold eqR at h
 split at h
 ·rename_i hh;exact ⟨hh.1,hh.2,(Option.some.inj h).symm⟩
 ·cases h
theorem aiR{α:Type} [DecidableEq α] {n:Nat} {x:α} (h:n≤1048576):eqR n x x=some true:=if_pos ⟨h,rfl⟩
theorem aum{α β:Type}(fin:List α→β):∀(l:List α)(i:Nat)(acc:List α),acc.length=i+l.length→qY (fun i acc x=>(.inl (acc.set i x):List α ⊕ β)) fin i acc l=fin (acc.take i++l):=by
 intro l
 induction l with
 |nil=>intro i acc h;simp only [qY,List.append_nil];rw [List.take_of_length_le (by simp at h;omega)]
 |cons x l ih=>
  intro i acc h
  simp only [qY]
  simp only [List.length_cons] at h
  rw [ih (i+1) (acc.set i x) (by simp;omega)]
  congr 1
  rw [List.take_set,List.take_add_one]
  have hi:i<acc.length:=by omega
  rw [List.getElem?_eq_getElem hi]
  rw [List.set_append]
  simp [List.length_take,Nat.min_eq_left (Nat.le_of_lt hi)]
end Go.Abs
namespace Go.Abs
theorem XC{n:Nat}(h:n<9223372036854775808):aP .i64 (n:Int)=n:=dN (by omega) (by omega)
theorem XG{n:Nat}(h:n<18446744073709551616):(BitVec.ofInt 64 (n:Int)).toNat=n:=by
 rw [BitVec.ofInt_natCast,BitVec.toNat_ofNat,Nat.mod_eq_of_lt h]
theorem ou{a b:Nat}(ha:a<2 ^ 63)(hb:b<2 ^ 63):jJ .i64 (a:Int) (b:Int)=((a^^^b:Nat):Int):=by
 have hx:a^^^b<2 ^ 63:=Nat.xor_lt_two_pow ha hb
 have:(BitVec.ofInt 64 (a:Int)^^^BitVec.ofInt 64 (b:Int)).toNat=a^^^b:=by
  rw [BitVec.toNat_xor,XG (by omega),XG (by omega)]
 unfold jJ
 show aP .i64 (((BitVec.ofInt 64 (a:Int)^^^BitVec.ofInt 64 (b:Int)).toNat:Nat):Int)=_
 rw [this,XC (by omega)]
theorem awn{a b:Nat}(ha:a<2 ^ 63)(hb:b<2 ^ 63):ahy .i64 (a:Int) (b:Int)=((a&&&b:Nat):Int):=by
 have hx:a&&&b<2 ^ 63:=Nat.and_lt_two_pow _ hb
 have:(BitVec.ofInt 64 (a:Int)&&&BitVec.ofInt 64 (b:Int)).toNat=a&&&b:=by
  rw [BitVec.toNat_and,XG (by omega),XG (by omega)]
 unfold ahy
 show aP .i64 (((BitVec.ofInt 64 (a:Int)&&&BitVec.ofInt 64 (b:Int)).toNat:Nat):Int)=_
 rw [this,XC (by omega)]
theorem awx{a j:Nat}(hj:j≤64):aak .i64 (a:Int) (j:Int)=((a >>> j:Nat):Int):=by
 unfold aak
 rw [Int.toNat_natCast,show min j (IntKind.bits .i64)=j from Nat.min_eq_left hj,Nat.shiftRight_eq_div_pow,Int.fdiv_eq_ediv_of_nonneg _ (by exact_mod_cast Nat.zero_le _)]
 push_cast
 rfl
def CJ(x j:Int):Bool:=decide (ahy .i64 (aak .i64 x j) 1=1)
theorem Jm{a j:Nat}(ha:a<2 ^ 63)(hj:j≤64):CJ (a:Int) (j:Int)=a.testBit j:=by
 have h1:a >>> j<2 ^ 63:=by rw [Nat.shiftRight_eq_div_pow];exact Nat.lt_of_le_of_lt (Nat.div_le_self _ _) ha
 unfold CJ
 rw [awx hj,show (1:Int)=((1:Nat):Int) from rfl,awn h1 (by decide),Nat.and_one_is_mod,Nat.testBit_eq_decide_div_mod_eq,Nat.shiftRight_eq_div_pow]
 rw [Bool.eq_iff_iff]
 simp only [decide_eq_true_eq]
 omega
inductive Sp (l:List Nat):Nat→Prop
 |zero:Sp l 0
 |add {r v:Nat}:r∈l→Sp l v→Sp l (r^^^v)
theorem Sp.mem{l:List Nat}{r:Nat}(h:r∈l):Sp l r:=by
 have:=Sp.add h (Sp.zero)
 rwa [Nat.xor_zero] at this
theorem Sp.xor{l:List Nat}{a b:Nat}(ha:Sp l a)(hb:Sp l b):Sp l (a^^^b):=by
 induction ha with
 |zero=>rwa [Nat.zero_xor]
 |add h _ ih=>rw [Nat.xor_assoc];exact .add h ih
theorem Sp.trans{l l':List Nat}(h:∀r∈l,Sp l' r){v:Nat}(hv:Sp l v):Sp l' v:=by
 induction hv with
 |zero=>exact .zero
 |add hr _ ih=>exact (h _ hr).xor ih
def Lo(r p:Nat):Prop:=r.testBit p=true∧∀q,q<p→r.testBit q=false
theorem Lo.uniq{r p q:Nat}(h1:Lo r p)(h2:Lo r q):p=q:=by
 rcases Nat.lt_trichotomy p q with h|h|h
 ·have:=h2.2 p h;rw [h1.1] at this;cases this
 ·exact h
 ·have:=h1.2 q h;rw [h2.1] at this;cases this
def Red(c:Nat)(E:List (Nat×Nat)):Prop:=(∀a∈E,a.1<c∧Lo a.2 a.1)∧E.Pairwise fun a b=>a.1<b.1∧a.2.testBit b.1=false
def comb(f:Nat→Bool):List (Nat×Nat)→Nat
 |[]=>0
 |a::l=>cond (f a.1) (a.2^^^comb f l) (comb f l)
theorem avy(f g:Nat→Bool):∀l:List (Nat×Nat),comb (fun x=>f x ^^ g x) l=comb f l^^^comb g l:=by
 intro l
 induction l with
 |nil=>exact (Nat.xor_self 0).symm
 |cons a l ih=>
  simp only [comb,ih]
  cases f a.1<;>cases g a.1<;>simp only [Bool.false_xor,Bool.true_xor,Bool.not_true,Bool.not_false,cond_true,cond_false]
  ·rw [←Nat.xor_assoc,←Nat.xor_assoc,Nat.xor_comm a.2]
  ·rw [Nat.xor_assoc]
  ·rw [Nat.xor_assoc a.2,Nat.xor_comm (comb f l) (a.2^^^comb g l),←Nat.xor_assoc,←Nat.xor_assoc,Nat.xor_self,Nat.zero_xor,Nat.xor_comm]
theorem adR(f:Nat→Bool):∀l:List (Nat×Nat),(∀a∈l,f a.1=false)→comb f l=0:=by
 intro l h
 induction l with
 |nil=>rfl
 |cons a l ih=>simp only [comb,h a (.head _),cond_false];exact ih fun x hx=>h x (.tail _ hx)
theorem ZK(f:Nat→Bool){p:Nat}:∀l:List (Nat×Nat),(∀a∈l,a.2.testBit p=false)→(comb f l).testBit p=false:=by
 intro l h
 induction l with
 |nil=>simp [comb]
 |cons a l ih=>
  have:=ih fun x hx=>h x (.tail _ hx)
  simp only [comb]
  cases f a.1
  ·exact this
  ·simp [Nat.testBit_xor,this,h a (.head _)]
theorem Red.tail{c:Nat}{a:Nat×Nat}{l:List (Nat×Nat)}(h:Red c (a::l)):Red c l:=⟨fun x hx=>h.1 x (.tail _ hx),(List.pairwise_cons.1 h.2).2⟩
theorem avx{c:Nat}:∀(E:List (Nat×Nat)),Red c E→∀a∈E,comb (fun p=>p == a.1) E=a.2:=by
 intro E
 induction E with
 |nil=>intro _ a ha;cases ha
 |cons b l ih=>
  intro h a ha
  have hp:=(List.pairwise_cons.1 h.2).1
  simp only [comb]
  cases ha with
  |head=>
   rw [adR _ l fun x hx=>by have:=(hp x hx).1;simp;omega]
   simp
  |tail _ ha=>
   have:(b.1 == a.1)=false:=by have:=(hp a ha).1;simp;omega
   rw [this]
   exact ih h.tail a ha
theorem Sp.comb{c:Nat}{E:List (Nat×Nat)}(h:Red c E){v:Nat}(hv:Sp (E.map (·.2)) v):∃f,v=Abs.comb f E:=by
 induction hv with
 |zero=>exact ⟨fun _=>false,(adR _ _ fun _ _=>rfl).symm⟩
 |add hr _ ih=>
  obtain ⟨f,rfl⟩:=ih
  obtain ⟨a,ha,rfl⟩:=List.mem_map.1 hr
  exact ⟨_,by rw [avy (fun p=>p == a.1) f,avx E h a ha]⟩
theorem avv{c:Nat}(f:Nat→Bool):∀(E:List (Nat×Nat)),Red c E→∀a∈E,(comb f E).testBit a.1=f a.1:=by
 intro E
 induction E with
 |nil=>intro _ a ha;cases ha
 |cons b l ih=>
  intro h a ha
  have hp:=(List.pairwise_cons.1 h.2).1
  simp only [comb]
  cases ha with
  |head=>
   have h0:(comb f l).testBit b.1=false:=ZK f l fun x hx=>(h.1 x (.tail _ hx)).2.2 _ (hp x hx).1
   cases hf:f b.1
   ·exact h0
   ·simp [Nat.testBit_xor,h0,(h.1 b (.head _)).2.1]
  |tail _ ha=>
   have hb:=(hp a ha).2
   have:=ih h.tail a ha
   cases f b.1
   ·exact this
   ·simp [Nat.testBit_xor,this,hb]
theorem avw{c:Nat}(f:Nat→Bool):∀(E:List (Nat×Nat)),Red c E→comb f E=0∨∃a∈E,Lo (comb f E) a.1:=by
 intro E
 induction E with
 |nil=>intro _;exact .inl rfl
 |cons b l ih=>
  intro h
  have hp:=(List.pairwise_cons.1 h.2).1
  have hb:=(h.1 b (.head _)).2
  simp only [comb]
  cases f b.1
  ·rcases ih h.tail with h0|⟨a,ha,hl⟩
   ·exact .inl h0
   ·exact .inr ⟨a,.tail _ ha,hl⟩
  ·refine .inr ⟨b,.head _,?_,fun q hq=>?_⟩
   ·have h0:(comb f l).testBit b.1=false:=ZK f l fun x hx=>(h.1 x (.tail _ hx)).2.2 _ (hp x hx).1
    simp [Nat.testBit_xor,h0,hb.1]
   ·have h0:(comb f l).testBit q=false:=ZK f l fun x hx=>(h.1 x (.tail _ hx)).2.2 _ (Nat.lt_trans hq (hp x hx).1)
    simp [Nat.testBit_xor,h0,hb.2 q hq]
theorem Red.apart{c:Nat}:∀{E:List (Nat×Nat)},Red c E→∀{a b:Nat×Nat},a∈E→b∈E→a.1≠b.1→a.2.testBit b.1=false:=by
 intro E
 induction E with
 |nil=>intro _ a b ha;cases ha
 |cons x l ih=>
  intro h a b ha hb hne
  have hp:=(List.pairwise_cons.1 h.2).1
  cases ha with
  |head=>
   cases hb with
   |head=>exact absurd rfl hne
   |tail _ hb=>exact (hp b hb).2
  |tail _ ha=>
   cases hb with
   |head=>exact (h.1 a (.tail _ ha)).2.2 _ (hp a ha).1
   |tail _ hb=>exact ih h.tail ha hb hne
theorem Red.find{c:Nat}{E:List (Nat×Nat)}(h:Red c E){v p:Nat}(hv:Sp (E.map (·.2)) v)(hl:Lo v p):∃a∈E,a.1=p:=by
 obtain ⟨f,rfl⟩:=hv.comb h
 rcases avw f E h with h0|⟨a,ha,hl'⟩
 ·rw [h0] at hl;have:=hl.1;simp at this
 ·exact ⟨a,ha,hl'.uniq hl⟩
theorem Red.sub{c c':Nat}{E E':List (Nat×Nat)}(h:Red c E)(h':Red c' E')(hs:∀v,Sp (E.map (·.2)) v↔Sp (E'.map (·.2)) v):∀a∈E,a∈E':=by
 intro a ha
 have ha1:=(h.1 a ha).2
 have hin:∀b∈E,∃b'∈E',b'.1=b.1:=fun b hb=>h'.find ((hs _).1 (.mem (List.mem_map.2 ⟨b,hb,rfl⟩))) (h.1 b hb).2
 obtain ⟨a',ha',he⟩:=hin a ha
 have ha1':=(h'.1 a' ha').2
 have hw:Sp (E.map (·.2)) (a.2^^^a'.2):=(Sp.mem (List.mem_map.2 ⟨a,ha,rfl⟩)).xor ((hs _).2 (.mem (List.mem_map.2 ⟨a',ha',rfl⟩)))
 obtain ⟨g,hg⟩:=hw.comb h
 have hz:∀b∈E,g b.1=false:=by
  intro b hb
  rw [←avv g E h b hb,←hg,Nat.testBit_xor]
  by_cases hab:a.1=b.1
  ·rw [←hab,ha1.1,←he,ha1'.1];rfl
  ·obtain ⟨b',hb',he'⟩:=hin b hb
   rw [h.apart ha hb hab,←he',h'.apart ha' hb' (by rw [he,he'];exact hab)];rfl
 rw [adR g E hz] at hg
 have h2:a.2=a'.2:=by
  have h3:=congrArg (· ^^^ a'.2) hg
  simp only [Nat.xor_assoc,Nat.xor_self,Nat.xor_zero,Nat.zero_xor] at h3
  exact h3
 have:a=a':=Prod.ext he.symm h2
 rw [this]
 exact ha'
theorem au4:∀(E E':List (Nat×Nat)),(E.Pairwise fun a b=>a.1<b.1)→(E'.Pairwise fun a b=>a.1<b.1)→(∀a∈E,a∈E')→(∀a∈E',a∈E)→E=E':=by
 intro E
 induction E with
 |nil=>
  intro E' _ _ _ h
  cases E' with
  |nil=>rfl
  |cons b l=>have:=h b (.head _);cases this
 |cons a l ih=>
  intro E' hE hE' h1 h2
  cases E' with
  |nil=>have:=h1 a (.head _);cases this
  |cons b l'=>
   have hp:=List.pairwise_cons.1 hE
   have hp':=List.pairwise_cons.1 hE'
   have hab:a=b:=by
    have i1:=h1 a (.head _)
    have i2:=h2 b (.head _)
    cases i1 with
    |head=>rfl
    |tail _ i1=>
     cases i2 with
     |head=>rfl
     |tail _ i2=>have:=hp'.1 a i1;have:=hp.1 b i2;omega
   subst hab
   congr 1
   refine ih l' hp.2 hp'.2 (fun x hx=>?_) (fun x hx=>?_)
   ·have:=h1 x (.tail _ hx)
    cases this with
    |head=>have:=hp.1 _ hx;omega
    |tail _ h=>exact h
   ·have:=h2 x (.tail _ hx)
    cases this with
    |head=>have:=hp'.1 _ hx;omega
    |tail _ h=>exact h
theorem Red.uniq{c c':Nat}{E E':List (Nat×Nat)}(h:Red c E)(h':Red c' E')(hs:∀v,Sp (E.map (·.2)) v↔Sp (E'.map (·.2)) v):E=E':=
 au4 E E' (h.2.imp fun h=>h.1) (h'.2.imp fun h=>h.1) (h.sub h' hs) (h'.sub h fun v=>(hs v).symm)
def u6(rows E:List Nat):Prop:=∃P c,Red c P∧P.map (·.2)=E∧∀v,Sp rows v↔Sp E v
def ech (rows:List Nat):List Nat:=by
 classical
 exact if h:∃E,u6 rows E then Classical.choose h else []
theorem u6.eq{rows E E':List Nat}(h:u6 rows E)(h':u6 rows E'):E=E':=by
 obtain ⟨P,c,hr,rfl,hs⟩:=h
 obtain ⟨P',c',hr',rfl,hs'⟩:=h'
 rw [hr.uniq hr' fun v=>(hs v).symm.trans (hs' v)]
theorem arN{rows E:List Nat}(h:u6 rows E):ech rows=E:=by
 have hx:∃E,u6 rows E:=⟨E,h⟩
 unfold ech
 rw [dif_pos hx]
 exact (Classical.choose_spec hx).eq h
def iM(c r x:Nat):Nat:=cond (x.testBit c) (x^^^r) x
theorem amo{c r x:Nat}(hr:r.testBit c=true):(iM c r x).testBit c=false:=by
 unfold iM
 cases h:x.testBit c
 ·exact h
 ·simp [Nat.testBit_xor,h,hr]
theorem Xp{c r x q:Nat}(hr:r.testBit q=false):(iM c r x).testBit q=x.testBit q:=by
 unfold iM
 cases x.testBit c
 ·rfl
 ·simp [Nat.testBit_xor,hr]
theorem aa8{c r x b:Nat}(hr:r<2 ^ b)(hx:x<2 ^ b):iM c r x<2 ^ b:=by
 unfold iM
 cases x.testBit c
 ·exact hx
 ·exact Nat.xor_lt_two_pow hx hr
structure Inv(orig:List Nat)(c:Nat)(E:List (Nat×Nat))(R:List Nat):Prop where
 red:Red c E
 low:∀x∈R,∀q,q<c→x.testBit q=false
 span:∀v,Sp orig v↔Sp (E.map (·.2)++R) v
theorem Inv.skip{orig:List Nat}{c:Nat}{E:List (Nat×Nat)}{R:List Nat}(h:Inv orig c E R)(hc:∀x∈R,x.testBit c=false):Inv orig (c+1) E R:=
 ⟨⟨fun a ha=>⟨Nat.lt_succ_of_lt (h.red.1 a ha).1,(h.red.1 a ha).2⟩,h.red.2⟩,fun x hx q hq=>by
  rcases Nat.lt_succ_iff_lt_or_eq.1 hq with h1|rfl
  ·exact h.low x hx q h1
  ·exact hc x hx,h.span⟩
theorem Inv.step{orig:List Nat}{c:Nat}{E:List (Nat×Nat)}{R R':List Nat}{r:Nat}(h:Inv orig c E R)(hr:r∈R)(hb:r.testBit c=true)
  (h1:∀y∈R',y=0∨∃x∈R,y=iM c r x) (h2:∀x∈R,x=r∨iM c r x∈R'):Inv orig (c+1) (E.map (fun a=>(a.1,iM c r a.2))++[(c,r)]) R':=by
 have hlow:=h.low r hr
 refine ⟨⟨?_,?_⟩,?_,?_⟩
 ·intro a ha
  rcases List.mem_append.1 ha with ha|ha
  ·obtain ⟨b,hb',rfl⟩:=List.mem_map.1 ha
   obtain ⟨i1,i2⟩:=h.red.1 b hb'
   refine ⟨Nat.lt_succ_of_lt i1,?_,fun q hq=>?_⟩
   ·dsimp only;rw [Xp (hlow _ i1)];exact i2.1
   ·dsimp only at hq ⊢;rw [Xp (hlow _ (Nat.lt_trans hq i1))];exact i2.2 q hq
  ·simp only [List.mem_singleton] at ha
   subst ha
   exact ⟨Nat.lt_succ_self _,hb,hlow⟩
 ·refine List.pairwise_append.2 ⟨?_,List.pairwise_singleton _ _,?_⟩
  ·refine List.pairwise_map.2 ((List.pairwise_iff_forall_sublist.2 ?_))
   intro a b hs
   have hmem:a∈E∧b∈E:=⟨hs.subset (.head _),hs.subset (.tail _ (.head _))⟩
   have:=List.pairwise_iff_forall_sublist.1 h.red.2 hs
   exact ⟨this.1,by dsimp only;rw [Xp (hlow _ (h.red.1 b hmem.2).1)];exact this.2⟩
  ·intro a ha b hb'
   simp only [List.mem_singleton] at hb'
   subst hb'
   obtain ⟨x,hx,rfl⟩:=List.mem_map.1 ha
   exact ⟨(h.red.1 x hx).1,amo hb⟩
 ·intro y hy q hq
  rcases h1 y hy with rfl|⟨x,hx,rfl⟩
  ·simp
  ·rcases Nat.lt_succ_iff_lt_or_eq.1 hq with h3|rfl
   ·rw [Xp (hlow _ h3)];exact h.low x hx q h3
   ·exact amo hb
 ·have hr1:Sp (E.map (·.2)++R) r:=.mem (List.mem_append_right _ hr)
  have key:∀{L:List Nat}{x:Nat},Sp L r→Sp L x→Sp L (iM c r x):=by
   intro L x i1 i2
   unfold iM
   cases x.testBit c
   ·exact i2
   ·exact i2.xor i1
  have key2:∀{L:List Nat}{x:Nat},Sp L r→Sp L (iM c r x)→Sp L x:=by
   intro L x i1 i2
   unfold iM at i2
   cases hx:x.testBit c
   ·rw [hx] at i2;exact i2
   ·rw [hx] at i2
    have:=Sp.xor i2 i1
    simp only [cond_true] at this
    rwa [Nat.xor_assoc,Nat.xor_self,Nat.xor_zero] at this
  have hmap:(E.map (fun a=>(a.1,iM c r a.2))++[(c,r)]).map (·.2)=E.map (fun a=>iM c r a.2)++[r]:=by simp [List.map_map,Function.comp_def]
  rw [hmap]
  intro v
  rw [h.span v]
  have hr2:Sp (E.map (fun a=>iM c r a.2)++[r]++R') r:=.mem (by simp)
  constructor
  ·refine Sp.trans fun x hx=>?_
   rcases List.mem_append.1 hx with hx|hx
   ·obtain ⟨a,ha,rfl⟩:=List.mem_map.1 hx
    exact key2 hr2 (.mem (List.mem_append_left _ (List.mem_append_left _ (List.mem_map.2 ⟨a,ha,rfl⟩))))
   ·rcases h2 x hx with rfl|h3
    ·exact hr2
    ·exact key2 hr2 (.mem (List.mem_append_right _ h3))
  ·refine Sp.trans fun x hx=>?_
   rcases List.mem_append.1 hx with hx|hx
   ·rcases List.mem_append.1 hx with hx|hx
    ·obtain ⟨a,ha,rfl⟩:=List.mem_map.1 hx
     exact key hr1 (.mem (List.mem_append_left _ (List.mem_map.2 ⟨a,ha,rfl⟩)))
    ·simp only [List.mem_singleton] at hx
     subst hx
     exact hr1
   ·rcases h1 x hx with rfl|⟨y,hy,rfl⟩
    ·exact .zero
    ·exact key hr1 (.mem (List.mem_append_right _ hy))
theorem Inv.done{orig:List Nat}{c:Nat}{E:List (Nat×Nat)}{R:List Nat}(h:Inv orig c E R)(hz:∀x∈R,x=0):u6 orig (E.map (·.2)):=by
 refine ⟨E,c,h.red,rfl,fun v=>(h.span v).trans ⟨?_,?_⟩⟩
 ·refine Sp.trans fun x hx=>?_
  rcases List.mem_append.1 hx with hx|hx
  ·exact .mem hx
  ·rw [hz x hx];exact .zero
 ·exact Sp.trans fun x hx=>.mem (List.mem_append_left _ hx)
theorem Inv.start(orig:List Nat):Inv orig 0 [] orig:=⟨⟨fun a ha=>by (cases ha),.nil⟩,fun _ _ q hq=>absurd hq (Nat.not_lt_zero q),fun _=>Iff.rfl⟩
theorem adF{x b:Nat}(h:x<2 ^ b)(hq:∀q,q<b→x.testBit q=false):x=0:=by
 refine Nat.eq_of_testBit_eq fun q=>?_
 rw [Nat.zero_testBit]
 by_cases h1:q<b
 ·exact hq q h1
 ·exact Nat.testBit_lt_two_pow (Nat.lt_of_lt_of_le h (Nat.pow_le_pow_right (by decide) (by omega)))
abbrev up(l:List Nat):List Int:=l.map fun n:Nat=>(n:Int)
theorem aq7{l:List Nat}{i x:Nat}(h:l[i]?=some x):(up l)[i]?=some (x:Int):=by simp [up,h]
theorem Xl(l:List Nat)(i x:Nat):(up l).set i (x:Int)=up (l.set i x):=by simp [up,List.map_set]
theorem Hy(l:List Nat):(up l).length=l.length:=by simp [up]
def AX(g:Nat→Nat→Nat)(i:Nat)(l:List Nat):List Nat:=l.mapIdx fun j x=>if j<i then g j x else x
theorem acs(g:Nat→Nat→Nat)(i:Nat)(l:List Nat):(AX g i l).length=l.length:=by simp [AX]
theorem aif{g:Nat→Nat→Nat}{i j x:Nat}{l:List Nat}(h:l[j]?=some x):(AX g i l)[j]?=some (if j<i then g j x else x):=by simp [AX,h]
theorem auI(g:Nat→Nat→Nat)(l:List Nat):AX g 0 l=l:=by
 refine List.ext_getElem? fun j=>?_
 simp [AX]
theorem aqv{g:Nat→Nat→Nat}{i x:Nat}{l:List Nat}(h:l[i]?=some x):(AX g i l).set i (g i x)=AX g (i+1) l:=by
 refine List.ext_getElem? fun j=>?_
 have hi:i<l.length:=(List.getElem?_eq_some_iff.1 h).1
 rw [List.getElem?_set]
 by_cases hj:i=j
 ·subst hj
  rw [if_pos rfl,acs,if_pos hi,aif h,if_pos (Nat.lt_succ_self _)]
 ·rw [if_neg hj]
  unfold AX
  rw [List.getElem?_mapIdx,List.getElem?_mapIdx]
  congr 1
  funext y
  by_cases h1:j<i
  ·rw [if_pos h1,if_pos (by omega)]
  ·rw [if_neg h1,if_neg (by omega)]
theorem awV(g:Nat→Nat→Nat)(l:List Nat):AX g l.length l=l.mapIdx g:=by
 refine List.ext_getElem? fun j=>?_
 unfold AX
 rw [List.getElem?_mapIdx,List.getElem?_mapIdx]
 cases h:l[j]? with
 |none=>rfl
 |some x=>simp [(List.getElem?_eq_some_iff.1 h).1]
theorem amT{β:Type}{step:(Int×List Int)→Tre ((Int×List Int) ⊕ β)}(g:Nat→Nat→Nat)(l:List Nat)(fin:List Int→β)
  (hs:∀(i:Nat) x,l[i]?=some x→(step ((i:Int),up (AX g i l))).run some=some (.inl (((i+1:Nat):Int),up (AX g (i+1) l))))
  (he:(step ((l.length:Int),up (AX g l.length l))).run some=some (.inr (fin (up (AX g l.length l))))):aR step (0,up l)=some (fin (up (l.mapIdx g))):=by
 have key:∀(n i:Nat),i+n=l.length→aR step ((i:Int),up (AX g i l))=some (fin (up (l.mapIdx g))):=by
  intro n
  induction n with
  |zero=>
   intro i hi
   have:i=l.length:=hi
   subst this
   rw [←awV]
   exact fB he
  |succ n ih=>
   intro i hi
   have h1:i<l.length:=by omega
   rw [mR (hs i l[i] (List.getElem?_eq_getElem h1))]
   exact ih (i+1) (by omega)
 have:=key l.length 0 (by omega)
 rw [auI] at this
 exact this
theorem an9(f:Nat→Nat)(l:List Nat):l.mapIdx (fun _ x=>f x)=l.map f:=by
 refine List.ext_getElem? fun i=>?_
 simp
theorem aoa{A B:List Nat}{r k:Nat}{f:Nat→Nat}{g:Nat→Nat→Nat}(hk:A.length=k)(hg:∀i x,i≠k→g i x=f x)(hr:g k r=r):(A++r::B).mapIdx g=A.map f++r::B.map f:=by
 subst hk
 refine List.ext_getElem? fun i=>?_
 rw [List.getElem?_mapIdx]
 rcases Nat.lt_trichotomy i A.length with h|h|h
 ·rw [List.getElem?_append_left h,List.getElem?_append_left (by simpa using h),List.getElem?_map]
  congr 1
  funext x
  exact hg i x (by omega)
 ·subst h
  rw [List.getElem?_append_right (Nat.le_refl _),List.getElem?_append_right (by simp)]
  simp [hr]
 ·rw [List.getElem?_append_right (by omega),List.getElem?_append_right (by simp;omega),List.length_map]
  obtain ⟨n,hn⟩:∃n,i-A.length=n+1:=⟨i-A.length-1,by omega⟩
  rw [hn,List.getElem?_cons_succ,List.getElem?_cons_succ,List.getElem?_map]
  congr 1
  funext x
  exact hg i x (by omega)
theorem zZ{α:Type}(p:α→Bool):∀(l:List α)(i:Nat),(oq p i l = -1∧∀x∈l,p x=false)∨∃k x,l[k]?=some x∧p x=true∧oq p i l=((i+k:Nat):Int):=by
 intro l
 induction l with
 |nil=>intro i;exact .inl ⟨rfl,fun x hx=>by cases hx⟩
 |cons a l ih=>
  intro i
  simp only [oq]
  cases ha:p a
  ·rcases ih (i+1) with ⟨h1,h2⟩|⟨k,x,h1,h2,h3⟩
   ·exact .inl ⟨h1,fun x hx=>by
     cases hx with
     |head=>exact ha
     |tail _ hx=>exact h2 x hx⟩
   ·exact .inr ⟨k+1,x,h1,h2,by rw [cond_false,h3];congr 1;omega⟩
  ·exact .inr ⟨0,a,rfl,ha,rfl⟩
theorem aoi{α ρ R:Type}{xs:List α}{i:Nat}{x:α}{k:α→Tre ρ}{c:ρ→Option R}(h:xs[i]?=some x) :
  (Tre.ite (0≤(i:Int)∧(i:Int)<(xs.length:Int)) (.mat xs[i]? k)).run c=(k x).run c:=by
 have hi:i<xs.length:=(List.getElem?_eq_some_iff.1 h).1
 rw [Tre.run_ite,if_pos ⟨by omega,by omega⟩,Tre.oF,h]
 rfl
def KH(b:Nat)(xs:List Int):Bool:=decide (xs.length≤1048576)&&xs.all fun x=>decide (0≤x)&&decide (x<((2 ^ b:Nat):Int))
theorem aeM{b:Nat}{xs:List Int}(h:KH b xs=true):∃ns:List Nat,xs=up ns∧ns.length≤1048576∧(∀n∈ns,n<2 ^ b)∧xs.map Int.toNat=ns:=by
 unfold KH at h
 simp only [Bool.and_eq_true,decide_eq_true_eq,List.all_eq_true] at h
 refine ⟨xs.map Int.toNat,?_,by simpa using h.1,?_,rfl⟩
 ·unfold up
  rw [List.map_map]
  exact ((List.map_congr_left (g:=id) fun x hx=>Int.toNat_of_nonneg (h.2 x hx).1).trans (List.map_id _)).symm
 ·intro n hn
  obtain ⟨x,hx,rfl⟩:=List.mem_map.1 hn
  have:=h.2 x hx
  omega
theorem auH{b:Nat}{ns:List Nat}(h1:ns.length≤1048576)(h2:∀n∈ns,n<2 ^ b):KH b (up ns)=true:=by
 unfold KH
 simp only [Bool.and_eq_true,decide_eq_true_eq,List.all_eq_true]
 refine ⟨by simpa using h1,fun x hx=>?_⟩
 obtain ⟨n,hn,rfl⟩:=List.mem_map.1 hx
 have:=h2 n hn
 omega
def adY (xs:List Int):List Int:=up (ech (xs.map Int.toNat))
theorem up_toNat(ns:List Nat):(up ns).map Int.toNat=ns:=by
 unfold up
 rw [List.map_map]
 exact (List.map_congr_left (g:=id) fun x _=>rfl).trans (List.map_id _)
theorem aAK{b c:Nat}(h:b≤c):2 ^ b≤2 ^ c:=Nat.pow_le_pow_right (by decide) h
def marks(k:Int)(n:Nat):List Int:=(List.range' 0 n).map fun i:Nat=>k+(i:Int)
theorem apE{α β:Type}(k:Int)(fin:List Int→β):∀(l:List α)(i:Nat)(acc:List Int),acc.length=i+l.length→qY (fun i acc _=>(.inl (acc.set i (k+(i:Int))):List Int ⊕ β)) fin i acc l=fin (acc.take i++(List.range' i l.length).map fun i:Nat=>k+(i:Int)):=by
 intro l
 induction l with
 |nil=>intro i acc h;simp only [qY,List.length_nil,List.range'_zero,List.map_nil,List.append_nil];rw [List.take_of_length_le (by simp at h;omega)]
 |cons x l ih=>
  intro i acc h
  simp only [qY]
  simp only [List.length_cons] at h
  rw [ih (i+1) (acc.set i (k+(i:Int))) (by simp;omega)]
  congr 1
  rw [List.take_set,List.take_add_one]
  have hi:i<acc.length:=by omega
  rw [List.getElem?_eq_getElem hi,List.set_append,List.length_cons,List.range'_succ]
  simp [List.length_take,Nat.min_eq_left (Nat.le_of_lt hi)]
end Go.Abs
namespace Go.Abs
end Go.Abs
namespace Go.Abs
end Go.Abs
namespace Go.Abs
def sW:List Nat→List Nat
 |[]=>[0]
 |x::l=>sW l++(sW l).map (x ^^^ ·)
theorem akO:∀l:List Nat,(sW l).length=2 ^ l.length:=by
 intro l
 induction l with
 |nil=>rfl
 |cons x l ih=>simp only [sW,List.length_append,List.length_map,ih,List.length_cons,Nat.pow_succ];omega
theorem aq1:∀l:List Nat,0∈sW l:=by
 intro l
 induction l with
 |nil=>simp [sW]
 |cons x l ih=>exact List.mem_append.2 (.inl ih)
theorem aa0(a b:Nat):a^^^(a^^^b)=b:=by rw [←Nat.xor_assoc,Nat.xor_self,Nat.zero_xor]
theorem asC:∀{l:List Nat}{r v:Nat},r∈l→v∈sW l→r^^^v∈sW l:=by
 intro l
 induction l with
 |nil=>intro r v hr;cases hr
 |cons x l ih=>
  intro r v hr hv
  simp only [sW,List.mem_append,List.mem_map] at hv ⊢
  cases hr with
  |head=>
   rcases hv with hv|⟨w,hw,rfl⟩
   ·exact .inr ⟨v,hv,rfl⟩
   ·exact .inl (by rw [aa0];exact hw)
  |tail _ hr=>
   rcases hv with hv|⟨w,hw,rfl⟩
   ·exact .inl (ih hr hv)
   ·exact .inr ⟨r^^^w,ih hr hw,by rw [←Nat.xor_assoc,Nat.xor_comm x r,Nat.xor_assoc]⟩
theorem Sp.sums{l:List Nat}{v:Nat}(h:Sp l v):v∈sW l:=by
 induction h with
 |zero=>exact aq1 l
 |add hr _ ih=>exact asC hr ih
theorem ay3:∀{l:List Nat}{v:Nat},v∈sW l→Sp l v:=by
 intro l
 induction l with
 |nil=>intro v hv;simp only [sW,List.mem_singleton] at hv;subst hv;exact .zero
 |cons x l ih=>
  intro v hv
  simp only [sW,List.mem_append,List.mem_map] at hv
  have hs:∀{w},Sp l w→Sp (x::l) w:=fun h=>h.trans fun r hr=>Sp.mem (.tail _ hr)
  rcases hv with hv|⟨w,hw,rfl⟩
  ·exact hs (ih hv)
  ·exact .add (.head _) (hs (ih hw))
theorem aq2{p:Nat}:∀{l:List Nat}{v:Nat},(∀r∈l,r.testBit p=false)→v∈sW l→v.testBit p=false:=by
 intro l
 induction l with
 |nil=>intro v _ hv;simp only [sW,List.mem_singleton] at hv;subst hv;simp
 |cons x l ih=>
  intro v h hv
  simp only [sW,List.mem_append,List.mem_map] at hv
  rcases hv with hv|⟨w,hw,rfl⟩
  ·exact ih (fun r hr=>h r (.tail _ hr)) hv
  ·rw [Nat.testBit_xor,h x (.head _),ih (fun r hr=>h r (.tail _ hr)) hw];rfl
theorem Red.nodup{c:Nat}:∀{E:List (Nat×Nat)},Red c E→(sW (E.map (·.2))).Nodup:=by
 intro E
 induction E with
 |nil=>intro _;simp [sW]
 |cons a l ih=>
  intro h
  have hp:=(List.pairwise_cons.1 h.2).1
  have hl:∀r∈l.map (·.2),r.testBit a.1=false:=by
   intro r hr
   obtain ⟨b,hb,rfl⟩:=List.mem_map.1 hr
   exact ((h.1 b (.tail _ hb)).2).2 a.1 (hp b hb).1
  have ha:a.2.testBit a.1=true:=(h.1 a (.head _)).2.1
  simp only [List.map_cons,sW]
  rw [List.nodup_append]
  refine ⟨ih h.tail,?_,?_⟩
  ·rw [List.nodup_iff_pairwise_ne]
   refine List.pairwise_map.2 ((List.nodup_iff_pairwise_ne.1 (ih h.tail)).imp ?_)
   intro x y hxy hne
   exact hxy (by rw [←aa0 a.2 x,hne,aa0])
  ·intro x hx y hy hxy
   obtain ⟨w,hw,rfl⟩:=List.mem_map.1 hy
   have h1:=aq2 hl hx
   have h2:=aq2 hl hw
   rw [hxy,Nat.testBit_xor,ha,h2] at h1
   cases h1
theorem awN{α:Type} [DecidableEq α]:∀{l l':List α},l.Nodup→(∀x∈l,x∈l')→l.length≤l'.length:=by
 intro l
 induction l with
 |nil=>intro l' _ _;exact Nat.zero_le _
 |cons x l ih=>
  intro l' hn hs
  rw [List.nodup_cons] at hn
  have hx:=hs x (.head _)
  have:=ih (l':=l'.erase x) hn.2 (fun y hy=>by
   have hne:y≠x:=by rintro rfl;exact hn.1 hy
   exact (List.mem_erase_of_ne hne).2 (hs y (.tail _ hy)))
  rw [List.length_erase_of_mem hx] at this
  have hpos:0<l'.length:=List.length_pos_of_mem hx
  simp only [List.length_cons]
  omega
theorem u6.le{rows E:List Nat}(h:u6 rows E):E.length≤rows.length:=by
 obtain ⟨P,c,hr,rfl,hs⟩:=h
 have:=awN hr.nodup (fun x hx=>((hs x).2 (ay3 hx)).sums)
 rw [akO,akO] at this
 exact (Nat.pow_le_pow_iff_right (by decide)).1 this
theorem Sp.map{rows:List Nat}{f:Nat→Nat}(h0:f 0=0)(hf:∀a b,f (a^^^b)=f a^^^f b){v:Nat}(h:Sp rows v):Sp (rows.map f) (f v):=by
 induction h with
 |zero=>rw [h0];exact .zero
 |add hr _ ih=>rw [hf];exact .add (List.mem_map.2 ⟨_,hr,rfl⟩) ih
end Go.Abs
namespace Go.Abs
def ah5(h:Nat):Nat→List Nat→Nat
 |_,[]=>0
 |i,x::l=>cond (h.testBit i) x 0^^^ah5 h (i+1) l
theorem ana{h:Nat}:∀(l:List Nat)(i:Nat),(∀q,i≤q→h.testBit q=false)→ah5 h i l=0:=by
 intro l
 induction l with
 |nil=>intro i _;rfl
 |cons x l ih=>
  intro i hq
  simp only [ah5]
  rw [hq i (Nat.le_refl i),ih (i+1) fun q h=>hq q (by omega),cond_false,Nat.xor_self]
theorem anb(l:List Nat)(i:Nat):ah5 0 i l=0:=ana l i fun q _=>Nat.zero_testBit q
theorem axB(x a b:Nat):a^^^b=(x^^^a)^^^(x^^^b):=by
 rw [Nat.xor_comm x a,Nat.xor_assoc,←Nat.xor_assoc x x b,Nat.xor_self,Nat.zero_xor]
theorem axa(a b:Nat):∀(l:List Nat)(i:Nat),ah5 (a^^^b) i l=ah5 a i l^^^ah5 b i l:=by
 intro l
 induction l with
 |nil=>intro i;exact (Nat.xor_self 0).symm
 |cons x l ih=>
  intro i
  simp only [ah5]
  rw [ih,Nat.testBit_xor]
  cases a.testBit i<;>cases b.testBit i
  ·simp only [Bool.xor_false,cond_false,Nat.zero_xor]
  ·simp only [Bool.false_xor,cond_true,cond_false,Nat.zero_xor]
   rw [Nat.xor_comm,Nat.xor_assoc,Nat.xor_comm (ah5 b (i+1) l)]
  ·simp only [Bool.xor_false,cond_true,cond_false,Nat.zero_xor]
   rw [Nat.xor_assoc]
  ·simp only [Bool.xor_self,cond_true,cond_false,Nat.zero_xor]
   exact axB x _ _
theorem aqU:∀(l:List Nat)(i j:Nat){x:Nat},l[j]?=some x→ah5 (2 ^ (i+j)) i l=x:=by
 intro l
 induction l with
 |nil=>intro i j x h;simp at h
 |cons y l ih=>
  intro i j x h
  simp only [ah5]
  cases j with
  |zero=>
   simp only [List.getElem?_cons_zero,Option.some.injEq] at h
   subst h
   rw [Nat.add_zero,Nat.testBit_two_pow_self,cond_true,ana l (i+1) fun q hq=>by rw [Nat.testBit_two_pow];exact decide_eq_false (by omega),Nat.xor_zero]
  |succ j=>
   simp only [List.getElem?_cons_succ] at h
   rw [Nat.testBit_two_pow,decide_eq_false (by omega),cond_false,Nat.zero_xor,show i+(j+1)=i+1+j by omega]
   exact ih (i+1) j h
structure aa2(N:Nat)(S:List Nat):Prop where
 len:S.length=N
 head:∀i x,S[i]?=some x→x&&&(2 ^ N-1)=2 ^ i
theorem aa2.bit{N:Nat}{S:List Nat}(h:aa2 N S){i x q:Nat}(hx:S[i]?=some x)(hq:q<N):x.testBit q=decide (i=q):=by
 have:=congrArg (·.testBit q) (h.head i x hx)
 simpa [Nat.testBit_and,Nat.testBit_two_pow_sub_one,Nat.testBit_two_pow,hq] using this
theorem aa2.back{N:Nat}{S:List Nat}(h:aa2 N S){v:Nat}(hv:Sp S v):ah5 (v&&&(2 ^ N-1)) 0 S=v:=by
 induction hv with
 |zero=>rw [Nat.zero_and,anb]
 |add hr _ ih=>
  obtain ⟨i,hi⟩:=List.getElem?_of_mem hr
  rw [Nat.and_xor_distrib_right,axa,ih,h.head i _ hi]
  have:=aqU S 0 i hi
  rw [Nat.zero_add] at this
  rw [this]
theorem akM:∀(l:List (Nat×Nat))(lo b:Nat),(l.Pairwise fun a b=>a.1<b.1)→(∀a∈l,lo≤a.1∧a.1<b)→l.length≤b-lo:=by
 intro l
 induction l with
 |nil=>intro lo b _ _;exact Nat.zero_le _
 |cons a l ih=>
  intro lo b h hb
  obtain ⟨h1,h2⟩:=List.pairwise_cons.1 h
  have:=ih (a.1+1) b h2 fun x hx=>⟨h1 x hx,(hb x (.tail _ hx)).2⟩
  have h0:=hb a (.head _)
  simp only [List.length_cons]
  omega
theorem adx:∀(l:List (Nat×Nat))(lo:Nat),(l.Pairwise fun a b=>a.1<b.1)→(∀a∈l,lo≤a.1∧a.1<lo+l.length)→∀(i:Nat)(a:Nat×Nat),l[i]?=some a→a.1=lo+i:=by
 intro l
 induction l with
 |nil=>intro lo _ _ i a h;simp at h
 |cons b l ih=>
  intro lo h hb i a ha
  obtain ⟨h1,h2⟩:=List.pairwise_cons.1 h
  simp only [List.length_cons] at hb
  have h0:=hb b (.head _)
  have hl:=akM l (b.1+1) (lo+(l.length+1)) h2 fun x hx=>⟨h1 x hx,(hb x (.tail _ hx)).2⟩
  have hb0:b.1=lo:=by omega
  cases i with
  |zero=>simp only [List.getElem?_cons_zero,Option.some.injEq] at ha;subst ha;exact hb0
  |succ i=>
   simp only [List.getElem?_cons_succ] at ha
   rw [ih (lo+1) h2 (fun x hx=>⟨by have:=h1 x hx;omega,by have:=(hb x (.tail _ hx)).2;omega⟩) i a ha]
   omega
theorem aa2.full{N:Nat}{S rows E:List Nat}(h:aa2 N S)(hs:∀r∈rows,Sp S r)(he:u6 rows E)(hl:E.length=N):E=S:=by
 obtain ⟨P,c,hr,rfl,hsp⟩:=he
 rw [List.length_map] at hl
 have hin:∀a∈P,Sp S a.2:=fun a ha=>Sp.trans hs ((hsp a.2).2 (Sp.mem (List.mem_map.2 ⟨a,ha,rfl⟩)))
 have hpos:∀a∈P,a.1<N:=fun a ha=>by
  refine Nat.lt_of_not_le fun hge=>?_
  have h0:a.2&&&(2 ^ N-1)=0:=by
   refine Nat.eq_of_testBit_eq fun q=>?_
   rw [Nat.testBit_and,Nat.testBit_two_pow_sub_one,Nat.zero_testBit]
   by_cases hq:q<N
   ·rw [(hr.1 a ha).2.2 q (by omega)];rfl
   ·rw [decide_eq_false hq,Bool.and_false]
  have h1:=h.back (hin a ha)
  rw [h0,anb] at h1
  have h2:=(hr.1 a ha).2.1
  rw [←h1,Nat.zero_testBit] at h2
  cases h2
 have hidx:=adx P 0 (hr.2.imp fun h=>h.1) fun a ha=>⟨Nat.zero_le _,by have:=hpos a ha;omega⟩
 refine List.ext_getElem? fun i=>?_
 rw [List.getElem?_map]
 cases ha:P[i]? with
 |none=>
  have hi:=List.getElem?_eq_none_iff.1 ha
  rw [List.getElem?_eq_none_iff.2 (show S.length≤i by have:=h.len;omega)]
  rfl
 |some a=>
  have hi:i<P.length:=(List.getElem?_eq_some_iff.1 ha).1
  have ham:=List.mem_of_getElem? ha
  have ha1:a.1=i:=by rw [hidx i a ha];omega
  have hiS:i<S.length:=by have:=h.len;omega
  have hx:S[i]?=some S[i]:=List.getElem?_eq_getElem hiS
  have hhead:a.2&&&(2 ^ N-1)=2 ^ i:=by
   refine Nat.eq_of_testBit_eq fun q=>?_
   rw [Nat.testBit_and,Nat.testBit_two_pow_sub_one,Nat.testBit_two_pow]
   by_cases hq:q<N
   ·rw [decide_eq_true hq,Bool.and_true]
    by_cases hqi:i=q
    ·subst hqi;rw [decide_eq_true rfl,←ha1];exact (hr.1 a ham).2.1
    ·have hb:P[q]?=some P[q]:=List.getElem?_eq_getElem (by omega)
     have hb1:P[q].1=q:=by rw [hidx q _ hb];omega
     have:=hr.apart ham (List.mem_of_getElem? hb) (by omega)
     rw [hb1] at this
     rw [this,decide_eq_false hqi]
   ·rw [decide_eq_false hq,Bool.and_false,decide_eq_false (by omega)]
  have h1:=h.back (hin a ham)
  have h2:=aqU S 0 i hx
  rw [Nat.zero_add] at h2
  rw [hhead,h2] at h1
  rw [hx,Option.map_some,h1]
theorem aa2.ech{N:Nat}{S:List Nat}(h:aa2 N S):u6 S S:=by
 refine ⟨(List.range N).zip S,N,⟨fun a ha=>?_,?_⟩,?_,fun v=>Iff.rfl⟩
 ·obtain ⟨i,hi⟩:=List.getElem?_of_mem ha
  rw [List.getElem?_zip_eq_some] at hi
  obtain ⟨h1,h2⟩:=hi
  have hiN:i<N:=by have:=(List.getElem?_eq_some_iff.1 h1).1;simpa using this
  rw [List.getElem?_range hiN,Option.some.injEq] at h1
  refine ⟨by omega,by rw [h.bit h2 (by omega)];exact decide_eq_true h1,fun q hq=>by rw [h.bit h2 (by omega)];exact decide_eq_false (by omega)⟩
 ·rw [List.pairwise_iff_getElem]
  intro i j hi hj hij
  simp only [List.length_zip,List.length_range,h.len,Nat.min_self] at hi hj
  simp only [List.getElem_zip,List.getElem_range]
  refine ⟨hij,?_⟩
  rw [h.bit (List.getElem?_eq_getElem (by have:=h.len;omega)) hj]
  exact decide_eq_false (by omega)
 ·exact List.map_snd_zip (by simp [h.len])
theorem u6.heads{N:Nat}{rows E A:List Nat}(h:u6 rows E)(hA:u6 (rows.map (· &&& (2 ^ N-1))) A)(hE:E.length=N)(hAl:A.length=N):aa2 N E:=by
 obtain ⟨P,c,hr,rfl,hs⟩:=h
 rw [List.length_map] at hE
 have hlow:∀a∈P,a.1<N:=by
  intro a ha
  refine Decidable.byContradiction fun hn=>?_
  have hz:∀q,q<N→a.2.testBit q=false:=fun q hq=>(hr.1 a ha).2.2 q (by omega)
  have hza:a.2&&&(2 ^ N-1)=0:=by
   refine Nat.eq_of_testBit_eq fun q=>?_
   rw [Nat.testBit_and,Nat.testBit_two_pow_sub_one,Nat.zero_testBit]
   by_cases hq:q<N
   ·rw [hz q hq];rfl
   ·simp [hq]
  have hA2:u6 (((P.erase a).map (·.2)).map (· &&& (2 ^ N-1))) A:=by
   obtain ⟨Q,d,h1,h2,h3⟩:=hA
   refine ⟨Q,d,h1,h2,fun v=>Iff.trans ⟨fun hv=>?_,fun hv=>?_⟩ (h3 v)⟩
   ·refine Sp.trans (fun x hx=>?_) hv
    obtain ⟨y,hy,rfl⟩:=List.mem_map.1 hx
    obtain ⟨b,hb,rfl⟩:=List.mem_map.1 hy
    have:=((hs b.2).2 (Sp.mem (List.mem_map.2 ⟨b,List.mem_of_mem_erase hb,rfl⟩))).map (f:=(· &&& (2 ^ N-1))) (Nat.zero_and _) (fun a b=>Nat.and_xor_distrib_right)
    exact this
   ·have key:∀w,Sp (P.map (·.2)) w→Sp (((P.erase a).map (·.2)).map (· &&& (2 ^ N-1))) (w&&&(2 ^ N-1)):=by
     intro w hw
     induction hw with
     |zero=>rw [Nat.zero_and];exact .zero
     |add hx _ ih=>
      obtain ⟨b,hb,rfl⟩:=List.mem_map.1 hx
      rw [Nat.and_xor_distrib_right]
      by_cases hba:b=a
      ·rw [hba,hza,Nat.zero_xor];exact ih
      ·exact .add (List.mem_map.2 ⟨b.2,List.mem_map.2 ⟨b,(List.mem_erase_of_ne hba).2 hb,rfl⟩,rfl⟩) ih
    refine Sp.trans (fun x hx=>?_) hv
    obtain ⟨r,hr2,rfl⟩:=List.mem_map.1 hx
    exact key r ((hs r).1 (Sp.mem hr2))
  have:=hA2.le
  rw [List.length_map,List.length_map,List.length_erase_of_mem ha] at this
  have:=List.length_pos_of_mem ha
  omega
 have hsort:=hr.2.imp (S:=fun a b:Nat×Nat=>a.1<b.1) fun h=>h.1
 have hat:=adx P 0 hsort fun a ha=>⟨Nat.zero_le _,by have:=hlow a ha;omega⟩
 refine ⟨by rw [List.length_map];exact hE,fun i x hx=>?_⟩
 rw [List.getElem?_map] at hx
 obtain ⟨a,ha,rfl⟩:=Option.map_eq_some_iff.1 hx
 have hai:=hat i a ha
 have ham:=List.mem_of_getElem? ha
 have hiN:=hlow a ham
 refine Nat.eq_of_testBit_eq fun q=>?_
 rw [Nat.testBit_and,Nat.testBit_two_pow_sub_one,Nat.testBit_two_pow]
 by_cases hq:q<N
 ·obtain ⟨b,hb⟩:∃b,P[q]?=some b:=⟨_,List.getElem?_eq_getElem (by omega)⟩
  have hbq:=hat q b hb
  by_cases hiq:i=q
  ·subst hiq
   have:=(hr.1 a ham).2.1
   rw [show a.1=i by omega] at this
   simp [this,hq]
  ·have:=hr.apart ham (List.mem_of_getElem? hb) (by omega)
   rw [show b.1=q by omega] at this
   simp [this,hiq]
 ·have:i≠q:=by omega
  simp [hq,this]
end Go.Abs
namespace Go.Abs
end Go.Abs
namespace Go.Proofs.YtihiobjhogpmdaaGreat
open Go Go.Abs Go.Proofs
abbrev aL:K:=(.pair (.int .i64) (.pair (.int .i64) .unit))
abbrev an0:K:=(.pair (.int .i64) (.pair (.sl (.int .i64)) .unit))
abbrev aX:K:=(.pair aL (.pair (.sl (.int .i64)) (.pair (.int .i64) .unit)))
abbrev eu:K:=(.pair aL (.pair (.int .i64) (.pair (.sl (.sl (.int .i64))) .unit)))
def tau:List (Nat×TI):=[(24,⟨(.sl (.int .i64)),24,2⟩),(30,⟨aL,16,0⟩),(2,⟨(.int .i64),8,0⟩),(32,⟨aX,48,0⟩),(77,⟨(.sl (.sl (.int .i64))),24,24⟩),(108,⟨eu,48,0⟩),(3,⟨(.int .i64),8,0⟩),(26,⟨aX,48,0⟩),(23,⟨aL,16,0⟩),(116,⟨(.sl (.int .i64)),24,3⟩),(1,⟨.fn,8,0⟩),(4,⟨.bool,1,0⟩),(5,⟨(.int .u8),1,0⟩),(9,⟨.str,16,0⟩),(12,⟨(.int .u64),8,0⟩),(13,⟨(.pair .str (.pair (.int .u64) .unit)),24,0⟩),(21,⟨(.int .i32),4,0⟩),(22,⟨aL,16,0⟩),(25,⟨aX,48,0⟩),(27,⟨.fn,8,0⟩),(29,⟨.fn,8,0⟩),(31,⟨aX,48,0⟩),(33,⟨.fn,8,0⟩),(34,⟨.fn,8,0⟩),(35,⟨.fn,8,0⟩),(36,⟨.fn,8,0⟩),(37,⟨.fn,8,0⟩),(38,⟨.fn,8,0⟩),(39,⟨.fn,8,0⟩),(41,⟨.fn,8,0⟩),(42,⟨an0,32,0⟩),(43,⟨an0,32,0⟩),(44,⟨.fn,8,0⟩),(45,⟨.fn,8,0⟩),(46,⟨an0,32,0⟩),(47,⟨.fn,8,0⟩),(48,⟨.fn,8,0⟩),(49,⟨.fn,8,0⟩),(50,⟨.fn,8,0⟩),(51,⟨.fn,8,0⟩),(52,⟨.ptr,8,0⟩),(54,⟨.fn,8,0⟩),(55,⟨.fn,8,0⟩),(56,⟨.fn,8,0⟩),(58,⟨.fn,8,0⟩),(59,⟨.fn,8,0⟩),(60,⟨.fn,8,0⟩),(61,⟨.fn,8,0⟩),(62,⟨.fn,8,0⟩),(63,⟨.fn,8,0⟩),(64,⟨.fn,8,0⟩),(65,⟨.ptr,8,0⟩),(66,⟨.fn,8,0⟩),(67,⟨.fn,8,0⟩),(68,⟨.fn,8,0⟩),(70,⟨.fn,8,0⟩),(71,⟨.fn,8,0⟩),(72,⟨.fn,8,0⟩),(73,⟨.fn,8,0⟩),(74,⟨.fn,8,0⟩),(75,⟨.fn,8,0⟩),(76,⟨.fn,8,0⟩),(78,⟨.fn,8,0⟩),(79,⟨.fn,8,0⟩),(80,⟨.fn,8,0⟩),(81,⟨.fn,8,0⟩),(82,⟨.fn,8,0⟩),(83,⟨.fn,8,0⟩),(84,⟨.fn,8,0⟩),(85,⟨.fn,8,0⟩),(86,⟨.fn,8,0⟩),(87,⟨.fn,8,0⟩),(89,⟨.fn,8,0⟩),(90,⟨.fn,8,0⟩),(91,⟨.fn,8,0⟩),(92,⟨(.int .u64),8,0⟩),(93,⟨.fn,8,0⟩),(94,⟨.fn,8,0⟩),(95,⟨.fn,8,0⟩),(96,⟨.fn,8,0⟩),(97,⟨.fn,8,0⟩),(98,⟨.fn,8,0⟩),(99,⟨.fn,8,0⟩),(100,⟨.fn,8,0⟩),(101,⟨.fn,8,0⟩),(102,⟨.fn,8,0⟩),(103,⟨.fn,8,0⟩),(104,⟨.fn,8,0⟩),(105,⟨.fn,8,0⟩),(106,⟨.fn,8,0⟩),(107,⟨eu,48,0⟩),(109,⟨.fn,8,0⟩),(110,⟨.fn,8,0⟩),(111,⟨.fn,8,0⟩),(112,⟨.fn,8,0⟩),(113,⟨.fn,8,0⟩),(114,⟨.fn,8,0⟩),(115,⟨.fn,8,0⟩),(117,⟨.fn,8,0⟩),(118,⟨.fn,8,0⟩),(119,⟨.fn,8,0⟩),(120,⟨.fn,8,0⟩),(121,⟨.fn,8,0⟩),(127,⟨.fn,8,0⟩),(128,⟨(.int .u32),4,0⟩),(131,⟨.fn,8,0⟩),(132,⟨.ptr,8,0⟩),(137,⟨.fn,8,0⟩)]
theorem bg{E:List (Nat×Ctr)}{Z:List (Nat×List Frz)}:iL Tryz.prog ⟨tau,E,Z⟩:=axy (axx (by kernel_rfl)) (by kernel_rfl)
theorem aBU:Go.Abs.Enters Tryz.prog 7:=⟨Tryz.f7,Tryz.func7,by kernel_rfl,by kernel_rfl⟩
theorem aBV:Go.Abs.Enters Tryz.prog 9:=⟨Tryz.f9,Tryz.func9,by kernel_rfl,by kernel_rfl⟩
theorem azb:Go.Abs.Enters Tryz.prog 10:=⟨Tryz.f10,Tryz.func10,by kernel_rfl,by kernel_rfl⟩
theorem aA6:Go.Abs.Enters Tryz.prog 11:=⟨Tryz.f11,Tryz.func11,by kernel_rfl,by kernel_rfl⟩
theorem azc:Go.Abs.Enters Tryz.prog 12:=⟨Tryz.f12,Tryz.func12,by kernel_rfl,by kernel_rfl⟩
theorem aA7:Go.Abs.Enters Tryz.prog 13:=⟨Tryz.f13,Tryz.func13,by kernel_rfl,by kernel_rfl⟩
theorem aA8:Go.Abs.Enters Tryz.prog 14:=⟨Tryz.f14,Tryz.func14,by kernel_rfl,by kernel_rfl⟩
theorem azd:Go.Abs.Enters Tryz.prog 15:=⟨Tryz.f15,Tryz.func15,by kernel_rfl,by kernel_rfl⟩
theorem aA9:Go.Abs.Enters Tryz.prog 16:=⟨Tryz.f16,Tryz.func16,by kernel_rfl,by kernel_rfl⟩
theorem aBa:Go.Abs.Enters Tryz.prog 17:=⟨Tryz.f17,Tryz.func17,by kernel_rfl,by kernel_rfl⟩
theorem aBb:Go.Abs.Enters Tryz.prog 18:=⟨Tryz.f18,Tryz.func18,by kernel_rfl,by kernel_rfl⟩
theorem aBd:Go.Abs.Enters Tryz.prog 27:=⟨Tryz.f27,Tryz.func27,by kernel_rfl,by kernel_rfl⟩
theorem aBe:Go.Abs.Enters Tryz.prog 28:=⟨Tryz.f28,Tryz.func28,by kernel_rfl,by kernel_rfl⟩
theorem aBf:Go.Abs.Enters Tryz.prog 29:=⟨Tryz.f29,Tryz.func29,by kernel_rfl,by kernel_rfl⟩
theorem aBg:Go.Abs.Enters Tryz.prog 30:=⟨Tryz.f30,Tryz.func30,by kernel_rfl,by kernel_rfl⟩
theorem aBh:Go.Abs.Enters Tryz.prog 31:=⟨Tryz.f31,Tryz.func31,by kernel_rfl,by kernel_rfl⟩
theorem aBi:Go.Abs.Enters Tryz.prog 32:=⟨Tryz.f32,Tryz.func32,by kernel_rfl,by kernel_rfl⟩
theorem aze:Go.Abs.Enters Tryz.prog 33:=⟨Tryz.f33,Tryz.func33,by kernel_rfl,by kernel_rfl⟩
theorem avW:Go.Abs.Enters Tryz.prog 34:=⟨Tryz.f34,Tryz.func34,by kernel_rfl,by kernel_rfl⟩
theorem avX:Go.Abs.Enters Tryz.prog 35:=⟨Tryz.f35,Tryz.func35,by kernel_rfl,by kernel_rfl⟩
theorem aBj:Go.Abs.Enters Tryz.prog 36:=⟨Tryz.f36,Tryz.func36,by kernel_rfl,by kernel_rfl⟩
theorem aBk:Go.Abs.Enters Tryz.prog 37:=⟨Tryz.f37,Tryz.func37,by kernel_rfl,by kernel_rfl⟩
theorem avY:Go.Abs.Enters Tryz.prog 38:=⟨Tryz.f38,Tryz.func38,by kernel_rfl,by kernel_rfl⟩
theorem azf:Go.Abs.Enters Tryz.prog 39:=⟨Tryz.f39,Tryz.func39,by kernel_rfl,by kernel_rfl⟩
theorem aBl:Go.Abs.Enters Tryz.prog 40:=⟨Tryz.f40,Tryz.func40,by kernel_rfl,by kernel_rfl⟩
theorem aBm:Go.Abs.Enters Tryz.prog 42:=⟨Tryz.f42,Tryz.func42,by kernel_rfl,by kernel_rfl⟩
theorem aBn:Go.Abs.Enters Tryz.prog 43:=⟨Tryz.f43,Tryz.func43,by kernel_rfl,by kernel_rfl⟩
theorem apy:Go.Abs.Enters Tryz.prog 45:=⟨Tryz.f45,Tryz.func45,by kernel_rfl,by kernel_rfl⟩
theorem aBo:Go.Abs.Enters Tryz.prog 46:=⟨Tryz.f46,Tryz.func46,by kernel_rfl,by kernel_rfl⟩
theorem aBp:Go.Abs.Enters Tryz.prog 47:=⟨Tryz.f47,Tryz.func47,by kernel_rfl,by kernel_rfl⟩
theorem avZ:Go.Abs.Enters Tryz.prog 48:=⟨Tryz.f48,Tryz.func48,by kernel_rfl,by kernel_rfl⟩
theorem aBq:Go.Abs.Enters Tryz.prog 53:=⟨Tryz.f53,Tryz.func53,by kernel_rfl,by kernel_rfl⟩
theorem azg:Go.Abs.Enters Tryz.prog 54:=⟨Tryz.f54,Tryz.func54,by kernel_rfl,by kernel_rfl⟩
theorem aBr:Go.Abs.Enters Tryz.prog 55:=⟨Tryz.f55,Tryz.func55,by kernel_rfl,by kernel_rfl⟩
theorem apz:Go.Abs.Enters Tryz.prog 56:=⟨Tryz.f56,Tryz.func56,by kernel_rfl,by kernel_rfl⟩
theorem aBs:Go.Abs.Enters Tryz.prog 57:=⟨Tryz.f57,Tryz.func57,by kernel_rfl,by kernel_rfl⟩
theorem aBt:Go.Abs.Enters Tryz.prog 58:=⟨Tryz.f58,Tryz.func58,by kernel_rfl,by kernel_rfl⟩
theorem aBu:Go.Abs.Enters Tryz.prog 59:=⟨Tryz.f59,Tryz.func59,by kernel_rfl,by kernel_rfl⟩
theorem azh:Go.Abs.Enters Tryz.prog 60:=⟨Tryz.f60,Tryz.func60,by kernel_rfl,by kernel_rfl⟩
theorem aBv:Go.Abs.Enters Tryz.prog 61:=⟨Tryz.f61,Tryz.func61,by kernel_rfl,by kernel_rfl⟩
theorem apA:Go.Abs.Enters Tryz.prog 62:=⟨Tryz.f62,Tryz.func62,by kernel_rfl,by kernel_rfl⟩
theorem aBw:Go.Abs.Enters Tryz.prog 63:=⟨Tryz.f63,Tryz.func63,by kernel_rfl,by kernel_rfl⟩
theorem azi:Go.Abs.Enters Tryz.prog 64:=⟨Tryz.f64,Tryz.func64,by kernel_rfl,by kernel_rfl⟩
theorem asR:Go.Abs.Enters Tryz.prog 65:=⟨Tryz.f65,Tryz.func65,by kernel_rfl,by kernel_rfl⟩
theorem aBx:Go.Abs.Enters Tryz.prog 66:=⟨Tryz.f66,Tryz.func66,by kernel_rfl,by kernel_rfl⟩
theorem aBy:Go.Abs.Enters Tryz.prog 67:=⟨Tryz.f67,Tryz.func67,by kernel_rfl,by kernel_rfl⟩
theorem afJ:Go.Abs.Enters Tryz.prog 68:=⟨Tryz.f68,Tryz.func68,by kernel_rfl,by kernel_rfl⟩
theorem azj:Go.Abs.Enters Tryz.prog 69:=⟨Tryz.f69,Tryz.func69,by kernel_rfl,by kernel_rfl⟩
theorem azk:Go.Abs.Enters Tryz.prog 70:=⟨Tryz.f70,Tryz.func70,by kernel_rfl,by kernel_rfl⟩
theorem aBz:Go.Abs.Enters Tryz.prog 72:=⟨Tryz.f72,Tryz.func72,by kernel_rfl,by kernel_rfl⟩
theorem aBA:Go.Abs.Enters Tryz.prog 73:=⟨Tryz.f73,Tryz.func73,by kernel_rfl,by kernel_rfl⟩
theorem amq:Go.Abs.Enters Tryz.prog 75:=⟨Tryz.f75,Tryz.func75,by kernel_rfl,by kernel_rfl⟩
theorem azl:Go.Abs.Enters Tryz.prog 76:=⟨Tryz.f76,Tryz.func76,by kernel_rfl,by kernel_rfl⟩
theorem aBB:Go.Abs.Enters Tryz.prog 77:=⟨Tryz.f77,Tryz.func77,by kernel_rfl,by kernel_rfl⟩
theorem aBC:Go.Abs.Enters Tryz.prog 78:=⟨Tryz.f78,Tryz.func78,by kernel_rfl,by kernel_rfl⟩
theorem aBD:Go.Abs.Enters Tryz.prog 80:=⟨Tryz.f80,Tryz.func80,by kernel_rfl,by kernel_rfl⟩
theorem av4:Go.Abs.Enters Tryz.prog 83:=⟨Tryz.f83,Tryz.func83,by kernel_rfl,by kernel_rfl⟩
theorem aBE:Go.Abs.Enters Tryz.prog 84:=⟨Tryz.f84,Tryz.func84,by kernel_rfl,by kernel_rfl⟩
theorem azm:Go.Abs.Enters Tryz.prog 85:=⟨Tryz.f85,Tryz.func85,by kernel_rfl,by kernel_rfl⟩
theorem amr:Go.Abs.Enters Tryz.prog 86:=⟨Tryz.f86,Tryz.func86,by kernel_rfl,by kernel_rfl⟩
theorem asS:Go.Abs.Enters Tryz.prog 87:=⟨Tryz.f87,Tryz.func87,by kernel_rfl,by kernel_rfl⟩
theorem aBF:Go.Abs.Enters Tryz.prog 88:=⟨Tryz.f88,Tryz.func88,by kernel_rfl,by kernel_rfl⟩
theorem aBG:Go.Abs.Enters Tryz.prog 89:=⟨Tryz.f89,Tryz.func89,by kernel_rfl,by kernel_rfl⟩
theorem aBH:Go.Abs.Enters Tryz.prog 90:=⟨Tryz.f90,Tryz.func90,by kernel_rfl,by kernel_rfl⟩
theorem aBI:Go.Abs.Enters Tryz.prog 91:=⟨Tryz.f91,Tryz.func91,by kernel_rfl,by kernel_rfl⟩
theorem asT:Go.Abs.Enters Tryz.prog 92:=⟨Tryz.f92,Tryz.func92,by kernel_rfl,by kernel_rfl⟩
theorem aBJ:Go.Abs.Enters Tryz.prog 93:=⟨Tryz.f93,Tryz.func93,by kernel_rfl,by kernel_rfl⟩
theorem aBK:Go.Abs.Enters Tryz.prog 94:=⟨Tryz.f94,Tryz.func94,by kernel_rfl,by kernel_rfl⟩
theorem azn:Go.Abs.Enters Tryz.prog 95:=⟨Tryz.f95,Tryz.func95,by kernel_rfl,by kernel_rfl⟩
theorem azo:Go.Abs.Enters Tryz.prog 96:=⟨Tryz.f96,Tryz.func96,by kernel_rfl,by kernel_rfl⟩
theorem aBL:Go.Abs.Enters Tryz.prog 97:=⟨Tryz.f97,Tryz.func97,by kernel_rfl,by kernel_rfl⟩
theorem aBM:Go.Abs.Enters Tryz.prog 98:=⟨Tryz.f98,Tryz.func98,by kernel_rfl,by kernel_rfl⟩
theorem av5:Go.Abs.Enters Tryz.prog 99:=⟨Tryz.f99,Tryz.func99,by kernel_rfl,by kernel_rfl⟩
theorem azY:Go.Abs.Enters Tryz.prog 100:=⟨Tryz.f100,Tryz.func100,by kernel_rfl,by kernel_rfl⟩
theorem azZ:Go.Abs.Enters Tryz.prog 101:=⟨Tryz.f101,Tryz.func101,by kernel_rfl,by kernel_rfl⟩
theorem avQ:Go.Abs.Enters Tryz.prog 102:=⟨Tryz.f102,Tryz.func102,by kernel_rfl,by kernel_rfl⟩
theorem avR:Go.Abs.Enters Tryz.prog 103:=⟨Tryz.f103,Tryz.func103,by kernel_rfl,by kernel_rfl⟩
theorem az0:Go.Abs.Enters Tryz.prog 106:=⟨Tryz.f106,Tryz.func106,by kernel_rfl,by kernel_rfl⟩
theorem az1:Go.Abs.Enters Tryz.prog 107:=⟨Tryz.f107,Tryz.func107,by kernel_rfl,by kernel_rfl⟩
theorem ad1:Go.Abs.Enters Tryz.prog 108:=⟨Tryz.f108,Tryz.func108,by kernel_rfl,by kernel_rfl⟩
theorem avS:Go.Abs.Enters Tryz.prog 111:=⟨Tryz.f111,Tryz.func111,by kernel_rfl,by kernel_rfl⟩
theorem az2:Go.Abs.Enters Tryz.prog 112:=⟨Tryz.f112,Tryz.func112,by kernel_rfl,by kernel_rfl⟩
theorem az3:Go.Abs.Enters Tryz.prog 113:=⟨Tryz.f113,Tryz.func113,by kernel_rfl,by kernel_rfl⟩
theorem az4:Go.Abs.Enters Tryz.prog 114:=⟨Tryz.f114,Tryz.func114,by kernel_rfl,by kernel_rfl⟩
theorem az5:Go.Abs.Enters Tryz.prog 115:=⟨Tryz.f115,Tryz.func115,by kernel_rfl,by kernel_rfl⟩
theorem arP:Go.Abs.Enters Tryz.prog 116:=⟨Tryz.f116,Tryz.func116,by kernel_rfl,by kernel_rfl⟩
theorem avT:Go.Abs.Enters Tryz.prog 117:=⟨Tryz.f117,Tryz.func117,by kernel_rfl,by kernel_rfl⟩
theorem az6:Go.Abs.Enters Tryz.prog 118:=⟨Tryz.f118,Tryz.func118,by kernel_rfl,by kernel_rfl⟩
theorem az7:Go.Abs.Enters Tryz.prog 119:=⟨Tryz.f119,Tryz.func119,by kernel_rfl,by kernel_rfl⟩
theorem az8:Go.Abs.Enters Tryz.prog 120:=⟨Tryz.f120,Tryz.func120,by kernel_rfl,by kernel_rfl⟩
theorem az9:Go.Abs.Enters Tryz.prog 121:=⟨Tryz.f121,Tryz.func121,by kernel_rfl,by kernel_rfl⟩
theorem avU:Go.Abs.Enters Tryz.prog 122:=⟨Tryz.f122,Tryz.func122,by kernel_rfl,by kernel_rfl⟩
theorem aAa:Go.Abs.Enters Tryz.prog 123:=⟨Tryz.f123,Tryz.func123,by kernel_rfl,by kernel_rfl⟩
theorem aAb:Go.Abs.Enters Tryz.prog 124:=⟨Tryz.f124,Tryz.func124,by kernel_rfl,by kernel_rfl⟩
theorem aAc:Go.Abs.Enters Tryz.prog 125:=⟨Tryz.f125,Tryz.func125,by kernel_rfl,by kernel_rfl⟩
theorem avV:Go.Abs.Enters Tryz.prog 126:=⟨Tryz.f126,Tryz.func126,by kernel_rfl,by kernel_rfl⟩
theorem aAd:Go.Abs.Enters Tryz.prog 127:=⟨Tryz.f127,Tryz.func127,by kernel_rfl,by kernel_rfl⟩
theorem aAe:Go.Abs.Enters Tryz.prog 128:=⟨Tryz.f128,Tryz.func128,by kernel_rfl,by kernel_rfl⟩
theorem aAf:Go.Abs.Enters Tryz.prog 129:=⟨Tryz.f129,Tryz.func129,by kernel_rfl,by kernel_rfl⟩
theorem aAg:Go.Abs.Enters Tryz.prog 130:=⟨Tryz.f130,Tryz.func130,by kernel_rfl,by kernel_rfl⟩
theorem arQ:Go.Abs.Enters Tryz.prog 133:=⟨Tryz.f133,Tryz.func133,by kernel_rfl,by kernel_rfl⟩
theorem aAh:Go.Abs.Enters Tryz.prog 134:=⟨Tryz.f134,Tryz.func134,by kernel_rfl,by kernel_rfl⟩
theorem aAi:Go.Abs.Enters Tryz.prog 135:=⟨Tryz.f135,Tryz.func135,by kernel_rfl,by kernel_rfl⟩
theorem aAj:Go.Abs.Enters Tryz.prog 136:=⟨Tryz.f136,Tryz.func136,by kernel_rfl,by kernel_rfl⟩
theorem aAk:Go.Abs.Enters Tryz.prog 137:=⟨Tryz.f137,Tryz.func137,by kernel_rfl,by kernel_rfl⟩
theorem aAl:Go.Abs.Enters Tryz.prog 138:=⟨Tryz.f138,Tryz.func138,by kernel_rfl,by kernel_rfl⟩
theorem aAm:Go.Abs.Enters Tryz.prog 139:=⟨Tryz.f139,Tryz.func139,by kernel_rfl,by kernel_rfl⟩
theorem aAn:Go.Abs.Enters Tryz.prog 140:=⟨Tryz.f140,Tryz.func140,by kernel_rfl,by kernel_rfl⟩
abbrev aM:=((Int×(Int×Unit))×((List Int)×(Int×Unit)))
abbrev dQ:=((Int×(Int×Unit))×(Int×((List (List Int))×Unit)))
def ajB (p0:List Int) (p1:Int):Tre Int:=
 let v1:=aP .i64 (p1-(p0.length:Int))
 .cond (decide (v1<0))
  (.ret (-1))
  (.ret v1)
def an4 (p0:List Int) (p1:Int):Option Int:=(ajB p0 p1).run some
def ow(p0:List Int)(p1:Int):Int:=
 let v1:=aP .i64 (p1-(p0.length:Int))
 cond (decide (v1<0))
  (-1)
  (v1)
theorem ahD(p0:List Int)(p1:Int):an4 p0 p1=some (ow p0 p1):=(EF rfl rfl)
-- more
theorem ajD{xs:List Int}(h:xs.length≤maxLen)(hn:¬ow xs 1048576<0):xs.length≤1048576:=by
 unfold maxLen at h
 unfold ow at hn
 dsimp only at hn
 rw [dN (by omega) (by omega)] at hn
 by_cases h2:(1048576:Int)-xs.length<0
 ·simp [h2] at hn
 ·omega
def Rj:Env:=⟨tau,[],[]⟩
def ab1:Code:=(Tryz.f27.body).getD .skip
def ab0:FnI:=⟨ab1,Tryz.f27.results.toList,Tryz.f27.resultTypes.toList,[]⟩
def VH (_zp0:Bool) (_p0:List Int) (_p1:Int):Int→aB:=fun r=>⟨(.imm true (.int .i64) r),[],[]⟩
theorem alp:∀(zp0:Bool)(p0:List Int)(p1:Int),bN Rj ab0 ⟨[(.imm zp0 (.sl (.int .i64)) p0),(.imm true (.int .i64) p1)],[]⟩=(ajB p0 p1).run fun r=>some (VH zp0 p0 p1 r):=fun _ _ _=>by kernel_rfl
def abZ (av:List AV) (rs:List Root):Tre aB:=
 aJ av fun a0_ av0=>
 aJ av0 fun a1_ av1=>
 aU av1<|
 aU rs<|
 bE (.sl (.int .i64)) a0_ fun z2 d1=>
 aC true (.int .i64) a1_ fun d3=>
 .ret (VH z2 d1 d3 (ow d1 d3))
def ab2:Ctr:=⟨[],fun ci=>abZ ci.args ci.roots,false⟩
theorem ajC:bM Tryz.prog .none Rj:=aN
theorem alq:Contract Tryz.prog .none 27 ab2:=by
 have hl:aZ Rj [] ab1:=bB (by kernel_rfl)
 refine (aI (F:=ab0) bg ajC Tryz.func27 (by kernel_rfl) (by kernel_rfl) (by kernel_rfl) hl []).weaken ?_
 rintro ⟨av,rs⟩ co h
 have h:(abZ av rs).run some=some co:=h
 obtain ⟨a0_,av0,rfl,h_0⟩:=au h
 obtain ⟨a1_,av1,rfl,h_1⟩:=au h_0
 obtain ⟨rfl,h_2⟩:=ay h_1
 obtain ⟨rfl,h_3⟩:=ay h_2
 obtain ⟨z2,d1,rfl,h_4⟩:=aD h_3
 obtain ⟨d3,rfl,h_5⟩:=ak h_4
 exact xq (alp z2 d1 d3) (ahD d1 d3) h_5
def YZ (p0:aM) (p1:Int):Tre Int:=
 .cond (decide ((ow p0.2.1 p1)<0))
  (.ret (-1))
  (.ret (ow p0.2.1 p1))
def ahC (p0:aM) (p1:Int):Option Int:=(YZ p0 p1).run some
def tL(p0:aM)(p1:Int):Int:=
 cond (decide ((ow p0.2.1 p1)<0))
  (-1)
  ((ow p0.2.1 p1))
theorem aao(p0:aM)(p1:Int):ahC p0 p1=some (tL p0 p1):=(EF rfl rfl)
def GJ:Env:=⟨tau,[(27,ab2)],[]⟩
def SN:Code:=(Tryz.f7.body).getD .skip
def SL:FnI:=⟨SN,Tryz.f7.results.toList,Tryz.f7.resultTypes.toList,[]⟩
def MS (_zp0:Bool) (_p0:aM) (_p1:Int):Int→aB:=fun r=>⟨(.imm true (.int .i64) r),[],[]⟩
theorem aes:∀(zp0:Bool)(p0:aM)(p1:Int),bN GJ SL ⟨[(.imm zp0 aX p0),(.imm true (.int .i64) p1)],[]⟩=(YZ p0 p1).run fun r=>some (MS zp0 p0 p1 r):=fun _ _ _=>by kernel_rfl
def SK (av:List AV) (rs:List Root):Tre aB:=
 aJ av fun a0_ av0=>
 aJ av0 fun a1_ av1=>
 aU av1<|
 aU rs<|
 bE aX a0_ fun z2 d1=>
 aC true (.int .i64) a1_ fun d3=>
 .ret (MS z2 d1 d3 (tL d1 d3))
def SQ:Ctr:=⟨[],fun ci=>SK ci.args ci.roots,false⟩
theorem abY:bM Tryz.prog .none GJ:=(aA alq aBd aN)
theorem aeu:Contract Tryz.prog .none 7 SQ:=by
 have hl:aZ GJ [] SN:=bB (by kernel_rfl)
 refine (aI (F:=SL) bg abY Tryz.func7 (by kernel_rfl) (by kernel_rfl) (by kernel_rfl) hl []).weaken ?_
 rintro ⟨av,rs⟩ co h
 have h:(SK av rs).run some=some co:=h
 obtain ⟨a0_,av0,rfl,h_0⟩:=au h
 obtain ⟨a1_,av1,rfl,h_1⟩:=au h_0
 obtain ⟨rfl,h_2⟩:=ay h_1
 obtain ⟨rfl,h_3⟩:=ay h_2
 obtain ⟨z2,d1,rfl,h_4⟩:=aD h_3
 obtain ⟨d3,rfl,h_5⟩:=ak h_4
 exact xq (aes z2 d1 d3) (aao d1 d3) h_5
def amK (_p0:(Int×(Int×Unit))):Tre Unit:=
 .ret ()
def ap2 (p0:(Int×(Int×Unit))):Option Unit:=(amK p0).run some
theorem ajE(p0:(Int×(Int×Unit))):ap2 p0=some ():=rfl
def VI:Env:=⟨tau,[],[]⟩
def af9:Code:=(Tryz.f30.body).getD .skip
def af8:FnI:=⟨af9,Tryz.f30.results.toList,Tryz.f30.resultTypes.toList,[]⟩
def Y0 (p0:(Int×(Int×Unit))):Unit→aB:=fun _=>⟨(.imm true aL p0),[],[]⟩
theorem an5:∀(p0:(Int×(Int×Unit))),bN VI af8 ⟨[(.imm true aL p0)],[]⟩=(amK p0).run fun r=>some (Y0 p0 r):=fun _=>by kernel_rfl
def af7 (av:List AV) (rs:List Root):Tre aB:=
 aJ av fun a0_ av0=>
 aU av0<|
 aU rs<|
 aC true aL a0_ fun d1=>
 .ret (Y0 d1 ())
def aga:Ctr:=⟨[],fun ci=>af7 ci.args ci.roots,false⟩
theorem alr:bM Tryz.prog .none VI:=aN
theorem an6:Contract Tryz.prog .none 30 aga:=by
 have hl:aZ VI [] af9:=bB (by kernel_rfl)
 refine (aI (F:=af8) bg alr Tryz.func30 (by kernel_rfl) (by kernel_rfl) (by kernel_rfl) hl []).weaken ?_
 rintro ⟨av,rs⟩ co h
 have h:(af7 av rs).run some=some co:=h
 obtain ⟨a0_,av0,rfl,h_0⟩:=au h
 obtain ⟨rfl,h_1⟩:=ay h_0
 obtain ⟨rfl,h_2⟩:=ay h_1
 obtain ⟨d1,rfl,h_3⟩:=ak h_2
 exact xq (an5 d1) (ajE d1) h_3
def oW (h3_0_0:List Int):(Int×(List Int))→Tre ((Int×(List Int)) ⊕ (List Int)):=fun s3=>
 .cond (decide (s3.1<(h3_0_0.length:Int)))
  (.ite (0≤s3.1∧s3.1<(h3_0_0.length:Int))<|
  .mat (h3_0_0[s3.1.toNat]?) fun x1=>
  .ite (0≤s3.1∧s3.1<(s3.2.length:Int))<|
  .mat (s3.2[s3.1.toNat]?) fun _=>
  let v3:=s3.2.set s3.1.toNat x1
  .ret (.inl (aP .i64 (s3.1+1),v3)))
  (.ret (.inr s3.2))
def aap (p0:List Int):Tre (List Int):=
 .ite (((.int .i64):K)=(.int .i64)∧0≤(p0.length:Int)∧(p0.length:Int)=(p0.length:Int)∧(p0.length:Int)*(8:Nat)≤140737488355328∧1≤8)<|
 .mat (aR (oW p0) (0,List.replicate (p0.length:Int).toNat (0:Int))) fun l4=>
 .ret l4
def ab4 (p0:List Int):Option (List Int):=(aap p0).run some
theorem ahE(p0:List Int)(y:List Int)(h:gH p0=some y):ab4 p0=some y:=by
 obtain ⟨hl,rfl⟩:=ab8 h
 unfold ab4 aap
 rw [Tre.run_ite,if_pos ⟨rfl,by omega,rfl,by omega,by omega⟩,Tre.oF]
 have:=mD (xs:=p0) (step:=oW p0) (fun i acc=>((i:Int),acc)) (fun i acc x=>.inl (acc.set i x)) id (fun i acc=>acc.length=p0.length) (by
  intro i acc x hx hI
  have hi:i<p0.length:=(List.getElem?_eq_some_iff.1 hx).1
  refine ⟨?_,fun a ha=>by cases ha;simpa using hI⟩
  unfold oW
  rw [dP hx]
  rw [show acc.length=p0.length from hI]
  rw [Tre.run_ite,if_pos ⟨by dsimp only;omega,by dsimp only;omega⟩,Tre.oF]
  dsimp only
  rw [Int.toNat_natCast,List.getElem?_eq_getElem (by omega:i<acc.length),Option.bind_some,Tre.aK,aV (by omega)])
  (by
  intro acc hI
  unfold oW
  exact dw)
  p0 0 (List.replicate p0.length 0) rfl (Nat.zero_le _) (by simp)
 rw [Int.toNat_natCast]
 rw [show ((0:Int),List.replicate p0.length (0:Int))=(((0:Nat):Int),List.replicate p0.length 0) from rfl,this,aum _ _ _ _ (by simp)]
 simp [Tre.aK]
def BX:Env:=⟨tau,[],[]⟩
def I4:Code:=(Tryz.f10.body).getD .skip
def DT (z3_0:Bool) (h3_0_0:List Int):(Int×(List Int))→St:=fun x=>bR [(0,(.imm z3_0 (.sl (.int .i64)) h3_0_0)),(3,(.ref (5,0) [])),(4,(.imm true (.int .i64) x.1))] [((5,0),some ⟨false,(.sl (.int .i64)),.own,x.2⟩)]
def BZ (_z3_0:Bool) (_h3_0_0:List Int):(List Int)→Ex×St:=fun x=>(.exit 0,bR [(3,(.ref (5,0) []))] [((5,0),some ⟨false,(.sl (.int .i64)),.own,x⟩)])
def S9 (s:St):Tre (Ex×St):=
 bE (.sl (.int .i64)) (s.tmps 0) fun z3 d2=>
 dz (5,0) [] (s.tmps 3)<|
 aC true (.int .i64) (s.tmps 4) fun d6=>
 bD false (.sl (.int .i64)) (s.roots (5,0)) fun m8 d9=>
 asM .own m8<|
 .mat (aR (oW d2) (d6,d9)) fun x=>.ret (BZ z3 d2 x)
def nP:bK:=⟨([0,3,4],[(5,0)]),([3],[(5,0)]),S9⟩
def IZ:List (Nat×bK):=[(3,nP)]
theorem aaq:∀(z3_0:Bool)(h3_0_0:List Int)(x:(Int×(List Int)))(c:St→Option (Ex×St)),den BX IZ (aY I4 0) (DT z3_0 h3_0_0 x) (bU nP.kp nP.kx c)=(oW h3_0_0 x).run (bV (DT z3_0 h3_0_0) (BZ z3_0 h3_0_0) c):=fun _ _ _ _=>by
 kernel_rfl
theorem aex:bS BX IZ (aY I4 0) nP:=bA fun s e s' h=>by
 generalize hs:restrict nP.kp s=s1 at h
 have h:(S9 s1).run some=some (e,s'):=h
 obtain ⟨z3,d2,e1,h_0⟩:=aD h
 obtain ⟨e4,h_1⟩:=bf h_0
 obtain ⟨d6,e5,h_2⟩:=ak h_1
 obtain ⟨m8,d9,e7,h_3⟩:=aH h_2
 obtain ⟨rfl,h_4⟩:=aQ h_3
 obtain ⟨y,hy,hz⟩:=bT h_4
 refine ⟨_,_,DT z3 d2,BZ z3 d2,oW d2,(d6,d9),y,?_,hy,?_,aaq z3 d2⟩
 ·subst hs;exact aT (T:=[(0,(.imm z3 (.sl (.int .i64)) d2)),(3,(.ref (5,0) [])),(4,(.imm true (.int .i64) d6))]) (U:=[((5,0),some ⟨false,(.sl (.int .i64)),.own,d9⟩)]) rfl rfl ⟨e1,e4,e5,trivial⟩ ⟨e7,trivial⟩
 ·exact Option.some.inj hz
def ab6:FnI:=⟨I4,Tryz.f10.results.toList,Tryz.f10.resultTypes.toList,IZ⟩
def VJ (_zp0:Bool) (_p0:List Int):(List Int)→aB:=fun r=>⟨(.ref (1,0) []),[],[⟨false,(.sl (.int .i64)),.own,r⟩]⟩
theorem als:∀(zp0:Bool)(p0:List Int),bN BX ab6 ⟨[(.imm zp0 (.sl (.int .i64)) p0)],[]⟩=(aap p0).run fun r=>some (VJ zp0 p0 r):=fun _ _=>by kernel_rfl
def ab5 (av:List AV) (rs:List Root):Tre aB:=
 aJ av fun a0_ av0=>
 aU av0<|
 aU rs<|
 bE (.sl (.int .i64)) a0_ fun z2 d1=>
 .mat (gH d1) fun r=>.ret (VJ z2 d1 r)
def Rk:Ctr:=⟨[],fun ci=>ab5 ci.args ci.roots,false⟩
theorem ajF:bM Tryz.prog .none BX:=aN
theorem Y1:Contract Tryz.prog .none 10 Rk:=by
 have hl:aZ BX IZ I4:=(bC (n:=1) (by kernel_rfl) fun k hk=>by
   match k,hk with
   |0,_=>exact bq (id:=3) (L:=nP) (by kernel_rfl) (by kernel_rfl) aex)
 refine (aI (F:=ab6) bg ajF Tryz.func10 (by kernel_rfl) (by kernel_rfl) (by kernel_rfl) hl []).weaken ?_
 rintro ⟨av,rs⟩ co h
 have h:(ab5 av rs).run some=some co:=h
 obtain ⟨a0_,av0,rfl,h_0⟩:=au h
 obtain ⟨rfl,h_1⟩:=ay h_0
 obtain ⟨rfl,h_2⟩:=ay h_1
 obtain ⟨z2,d1,rfl,h_3⟩:=aD h_2
 exact xg (als z2 d1) (ahE d1) h_3
def Ov (p0:aM):Tre ((Int×(Int×Unit))×(Int×Unit)×(List Int)):=
 .mat (gH p0.2.1) fun r1=>
 .ret (p0.1,p0.2.2,r1)
def lJ (p0:aM):Option ((Int×(Int×Unit))×(Int×Unit)×(List Int)):=(Ov p0).run some
def GK:Env:=⟨tau,[(30,aga),(10,Rk)],[]⟩
def SX:Code:=(Tryz.f9.body).getD .skip
def SV:FnI:=⟨SX,Tryz.f9.results.toList,Tryz.f9.resultTypes.toList,[]⟩
def MU (_zp0:Bool) (_p0:aM):((Int×(Int×Unit))×(Int×Unit)×(List Int))→aB:=fun r=>⟨(.pair (.imm true aL r.1) (.pair (.ref (1,0) []) (.imm true (.pair (.int .i64) .unit) r.2.1))),[],[⟨false,(.sl (.int .i64)),.own,r.2.2⟩]⟩
theorem aev:∀(zp0:Bool)(p0:aM),bN GK SV ⟨[(.imm zp0 aX p0)],[]⟩=(Ov p0).run fun r=>some (MU zp0 p0 r):=fun _ _=>by kernel_rfl
def SS (av:List AV) (rs:List Root):Tre aB:=
 aJ av fun a0_ av0=>
 aU av0<|
 aU rs<|
 bE aX a0_ fun z2 d1=>
 .mat (lJ d1) fun r=>.ret (MU z2 d1 r)
def SY:Ctr:=⟨[],fun ci=>SS ci.args ci.roots,false⟩
theorem ab3:bM Tryz.prog .none GK:=(aA an6 aBg (aA Y1 azb aN))
theorem aew:Contract Tryz.prog .none 9 SY:=by
 have hl:aZ GK [] SX:=bB (by kernel_rfl)
 refine (aI (F:=SV) bg ab3 Tryz.func9 (by kernel_rfl) (by kernel_rfl) (by kernel_rfl) hl []).weaken ?_
 rintro ⟨av,rs⟩ co h
 have h:(SS av rs).run some=some co:=h
 obtain ⟨a0_,av0,rfl,h_0⟩:=au h
 obtain ⟨rfl,h_1⟩:=ay h_0
 obtain ⟨rfl,h_2⟩:=ay h_1
 obtain ⟨z2,d1,rfl,h_3⟩:=aD h_2
 exact bJ (aev z2 d1) h_3
def aol (p0:Int) (p1:Int) (p2:Int):Tre Bool:=
 .cond (decide (p0 ≥ p1))
  (.ret (decide (p0≤p2)))
  (.ret false)
def amY (p0:Int) (p1:Int) (p2:Int):Option Bool:=(aol p0 p1 p2).run some
theorem aom(n a b:Int):amY n a b=some (inR n a b):=by
 unfold amY aol inR
 by_cases h:a≤n
 ·simp [Tre.aG,Tre.aK,h]
 ·simp [Tre.aG,Tre.aK,h]
def aeV:Env:=⟨tau,[],[]⟩
def am1:Code:=(Tryz.f86.body).getD .skip
def am0:FnI:=⟨am1,Tryz.f86.results.toList,Tryz.f86.resultTypes.toList,[]⟩
def agi (_p0:Int) (_p1:Int) (_p2:Int):Bool→aB:=fun r=>⟨(.imm true .bool r),[],[]⟩
theorem asq:∀(p0:Int)(p1:Int)(p2:Int),bN aeV am0 ⟨[(.imm true (.int .i64) p0),(.imm true (.int .i64) p1),(.imm true (.int .i64) p2)],[]⟩=(aol p0 p1 p2).run fun r=>some (agi p0 p1 p2 r):=fun _ _ _=>by kernel_rfl
def amZ (av:List AV) (rs:List Root):Tre aB:=
 aJ av fun a0_ av0=>
 aJ av0 fun a1_ av1=>
 aJ av1 fun a2_ av2=>
 aU av2<|
 aU rs<|
 aC true (.int .i64) a0_ fun d1=>
 aC true (.int .i64) a1_ fun d2=>
 aC true (.int .i64) a2_ fun d3=>
 .ret (agi d1 d2 d3 (inR d1 d2 d3))
def D6:Ctr:=⟨[],fun ci=>amZ ci.args ci.roots,false⟩
theorem aqG:bM Tryz.prog .none aeV:=aN
theorem D7:Contract Tryz.prog .none 86 D6:=by
 have hl:aZ aeV [] am1:=bB (by kernel_rfl)
 refine (aI (F:=am0) bg aqG Tryz.func86 (by kernel_rfl) (by kernel_rfl) (by kernel_rfl) hl []).weaken ?_
 rintro ⟨av,rs⟩ co h
 have h:(amZ av rs).run some=some co:=h
 obtain ⟨a0_,av0,rfl,h_0⟩:=au h
 obtain ⟨a1_,av1,rfl,h_1⟩:=au h_0
 obtain ⟨a2_,av2,rfl,h_2⟩:=au h_1
 obtain ⟨rfl,h_3⟩:=ay h_2
 obtain ⟨rfl,h_4⟩:=ay h_3
 obtain ⟨d1,rfl,h_5⟩:=ak h_4
 obtain ⟨d2,rfl,h_6⟩:=ak h_5
 obtain ⟨d3,rfl,h_7⟩:=ak h_6
 exact xq (asq d1 d2 d3) (aom d1 d2 d3) h_7
def Cj:(Int×Int)→Tre ((Int×Int) ⊕ Int):=fun s2=>
 .cond (decide (s2.1>0))
  (let v1:=aP .i64 (Int.tdiv s2.1 2)
  .ret (.inl (v1,aP .i64 (s2.2+1))))
  (.ret (.inr s2.2))
def agn (p0:Int):Tre Int:=
 .mat (aR Cj (p0,-1)) fun l2=>
 .ret l2
def o7 (p0:Int):Option Int:=(agn p0).run some
def zq:Env:=⟨tau,[],[]⟩
def EH:Code:=(Tryz.f116.body).getD .skip
def Ck:(Int×Int)→St:=fun x=>bR [(0,(.imm true (.int .i64) x.1)),(3,(.imm true (.int .i64) x.2))] []
def Ac:Int→Ex×St:=fun x=>(.exit 0,bR [(3,(.imm true (.int .i64) x))] [])
def Qe (s:St):Tre (Ex×St):=
 aC true (.int .i64) (s.tmps 0) fun d2=>
 aC true (.int .i64) (s.tmps 3) fun d4=>
 .mat (aR Cj (d2,d4)) fun x=>.ret (Ac x)
def mH:bK:=⟨([0,3],[]),([3],[]),Qe⟩
def EG:List (Nat×bK):=[(2,mH)]
theorem Yj:∀(x:(Int×Int))(c:St→Option (Ex×St)),den zq EG (aY EH 0) (Ck x) (bU mH.kp mH.kx c)=(Cj x).run (bV (Ck) (Ac) c):=fun _ _=>by
 kernel_rfl
theorem acN:bS zq EG (aY EH 0) mH:=bA fun s e s' h=>by
 generalize hs:restrict mH.kp s=s1 at h
 have h:(Qe s1).run some=some (e,s'):=h
 obtain ⟨d2,e1,h_0⟩:=ak h
 obtain ⟨d4,e3,h_1⟩:=ak h_0
 obtain ⟨y,hy,hz⟩:=bT h_1
 refine ⟨_,_,Ck,Ac,Cj,(d2,d4),y,?_,hy,?_,Yj⟩
 ·subst hs;exact aT (T:=[(0,(.imm true (.int .i64) d2)),(3,(.imm true (.int .i64) d4))]) (U:=[]) rfl rfl ⟨e1,e3,trivial⟩ trivial
 ·exact Option.some.inj hz
def Zb:FnI:=⟨EH,Tryz.f116.results.toList,Tryz.f116.resultTypes.toList,EG⟩
def Tj (_p0:Int):Int→aB:=fun r=>⟨(.imm true (.int .i64) r),[],[]⟩
theorem akg:∀(p0:Int),bN zq Zb ⟨[(.imm true (.int .i64) p0)],[]⟩=(agn p0).run fun r=>some (Tj p0 r):=fun _=>by kernel_rfl
def Za (av:List AV) (rs:List Root):Tre aB:=
 aJ av fun a0_ av0=>
 aU av0<|
 aU rs<|
 aC true (.int .i64) a0_ fun d1=>
 .mat (o7 d1) fun r=>.ret (Tj d1 r)
def EI:Ctr:=⟨[],fun ci=>Za ci.args ci.roots,false⟩
theorem ahM:bM Tryz.prog .none zq:=aN
theorem KQ:Contract Tryz.prog .none 116 EI:=by
 have hl:aZ zq EG EH:=(bC (n:=1) (by kernel_rfl) fun k hk=>by
   match k,hk with
   |0,_=>exact bq (id:=2) (L:=mH) (by kernel_rfl) (by kernel_rfl) acN)
 refine (aI (F:=Zb) bg ahM Tryz.func116 (by kernel_rfl) (by kernel_rfl) (by kernel_rfl) hl []).weaken ?_
 rintro ⟨av,rs⟩ co h
 have h:(Za av rs).run some=some co:=h
 obtain ⟨a0_,av0,rfl,h_0⟩:=au h
 obtain ⟨rfl,h_1⟩:=ay h_0
 obtain ⟨rfl,h_2⟩:=ay h_1
 obtain ⟨d1,rfl,h_3⟩:=ak h_2
 exact bJ (akg d1) h_3
def Ja (h2_0_1:Int) (h2_0_2:Int):Int→Tre (Int ⊕ Int):=fun s2=>
 .mat (o7 s2) fun r2=>
 .cond (decide (r2 ≥ h2_0_2))
  (.mat (o7 s2) fun r3=>
  let v4:=aP .u64 (aP .i64 (r3-h2_0_2))
  .ite (0≤v4)<|
  let v5:=jJ .i64 s2 (ael .i64 h2_0_1 v4)
  .ret (.inl v5))
  (.ret (.inr s2))
def am5 (p0:Int) (p1:Int):Tre Int:=
 .mat (o7 p1) fun r1=>
 .mat (aR (Ja p1 r1) p0) fun l6=>
 .ret l6
def Wn (p0:Int) (p1:Int):Option Int:=(am5 p0 p1).run some
def Gc:Env:=⟨tau,[(116,EI)],[]⟩
def Nk:Code:=(Tryz.f103.body).getD .skip
def GZ (h2_0_1:Int) (h2_0_2:Int):Int→St:=fun x=>bR [(0,(.imm true (.int .i64) x)),(1,(.imm true (.int .i64) h2_0_1)),(5,(.imm true (.int .i64) h2_0_2))] []
def Eb (_h2_0_1:Int) (_h2_0_2:Int):Int→Ex×St:=fun x=>(.exit 0,bR [(0,(.imm true (.int .i64) x))] [])
def Wp (s:St):Tre (Ex×St):=
 aC true (.int .i64) (s.tmps 0) fun d2=>
 aC true (.int .i64) (s.tmps 1) fun d4=>
 aC true (.int .i64) (s.tmps 5) fun d6=>
 .mat (aR (Ja d4 d6) d2) fun x=>.ret (Eb d4 d6 x)
def qF:bK:=⟨([0,1,5],[]),([0],[]),Wp⟩
def Nj:List (Nat×bK):=[(2,qF)]
theorem acV:∀(h2_0_1:Int)(h2_0_2:Int)(x:Int)(c:St→Option (Ex×St)),den Gc Nj (aY Nk 0) (GZ h2_0_1 h2_0_2 x) (bU qF.kp qF.kx c)=(Ja h2_0_1 h2_0_2 x).run (bV (GZ h2_0_1 h2_0_2) (Eb h2_0_1 h2_0_2) c):=fun _ _ _ _=>by
 kernel_rfl
theorem ahP:bS Gc Nj (aY Nk 0) qF:=bA fun s e s' h=>by
 generalize hs:restrict qF.kp s=s1 at h
 have h:(Wp s1).run some=some (e,s'):=h
 obtain ⟨d2,e1,h_0⟩:=ak h
 obtain ⟨d4,e3,h_1⟩:=ak h_0
 obtain ⟨d6,e5,h_2⟩:=ak h_1
 obtain ⟨y,hy,hz⟩:=bT h_2
 refine ⟨_,_,GZ d4 d6,Eb d4 d6,Ja d4 d6,d2,y,?_,hy,?_,acV d4 d6⟩
 ·subst hs;exact aT (T:=[(0,(.imm true (.int .i64) d2)),(1,(.imm true (.int .i64) d4)),(5,(.imm true (.int .i64) d6))]) (U:=[]) rfl rfl ⟨e1,e3,e5,trivial⟩ trivial
 ·exact Option.some.inj hz
def agu:FnI:=⟨Nk,Tryz.f103.results.toList,Tryz.f103.resultTypes.toList,Nj⟩
def Ze (_p0:Int) (_p1:Int):Int→aB:=fun r=>⟨(.imm true (.int .i64) r),[],[]⟩
theorem aot:∀(p0:Int)(p1:Int),bN Gc agu ⟨[(.imm true (.int .i64) p0),(.imm true (.int .i64) p1)],[]⟩=(am5 p0 p1).run fun r=>some (Ze p0 p1 r):=fun _ _=>by kernel_rfl
def agt (av:List AV) (rs:List Root):Tre aB:=
 aJ av fun a0_ av0=>
 aJ av0 fun a1_ av1=>
 aU av1<|
 aU rs<|
 aC true (.int .i64) a0_ fun d1=>
 aC true (.int .i64) a1_ fun d2=>
 .mat (Wn d1 d2) fun r=>.ret (Ze d1 d2 r)
def Wo:Ctr:=⟨[],fun ci=>agt ci.args ci.roots,false⟩
theorem alG:bM Tryz.prog .none Gc:=(aA KQ arP aN)
theorem acW:Contract Tryz.prog .none 103 Wo:=by
 have hl:aZ Gc Nj Nk:=(bC (n:=1) (by kernel_rfl) fun k hk=>by
   match k,hk with
   |0,_=>exact bq (id:=2) (L:=qF) (by kernel_rfl) (by kernel_rfl) ahP)
 refine (aI (F:=agu) bg alG Tryz.func103 (by kernel_rfl) (by kernel_rfl) (by kernel_rfl) hl []).weaken ?_
 rintro ⟨av,rs⟩ co h
 have h:(agt av rs).run some=some co:=h
 obtain ⟨a0_,av0,rfl,h_0⟩:=au h
 obtain ⟨a1_,av1,rfl,h_1⟩:=au h_0
 obtain ⟨rfl,h_2⟩:=ay h_1
 obtain ⟨rfl,h_3⟩:=ay h_2
 obtain ⟨d1,rfl,h_4⟩:=ak h_3
 obtain ⟨d2,rfl,h_5⟩:=ak h_4
 exact bJ (aot d1 d2) h_5
def pU (h5_0_0:Int) (h5_0_1:Int):Int→Tre (Int ⊕ (Bool ⊕ Unit)):=fun s5=>
 .mat (o7 s5) fun r2=>
 .cond (decide (r2<h5_0_1))
  (.mat (Wn h5_0_0 s5) fun r3=>
  .cond (decide (r3=0))
   (.ret (.inr (.inl false)))
   (.ret (.inl (aP .i64 (s5+1)))))
  (.ret (.inr (.inr ())))
def Qg (p0:Int):Tre Bool:=
 .mat (o7 p0) fun r1=>
 .cond (decide (r1<1))
  (.ret false)
  (.cond (decide (r1>5))
   (.ret false)
   (.mat (aR (pU p0 r1) 2) fun l4=>
   .alt l4
    (fun a5=>
     .ret a5)
    (fun _=>
     .ret true)))
def KT (p0:Int):Option Bool:=(Qg p0).run some
def mV:Env:=⟨tau,[(116,EI),(103,Wo)],[]⟩
def rZ:Code:=(Tryz.f134.body).getD .skip
def sj (h5_0_0:Int) (h5_0_1:Int):Int→St:=fun x=>bR [(0,(.imm true (.int .i64) h5_0_0)),(3,(.imm true (.int .i64) h5_0_1)),(4,(.imm true (.int .i64) x))] []
def kY (_h5_0_0:Int) (_h5_0_1:Int):(Bool ⊕ Unit)→Ex×St
 |.inl x=>(.ret,bR [(2,(.imm true .bool x))] [])
 |.inr _=>(.exit 0,bR [(2,.dead)] [])
def CZ (s:St):Tre (Ex×St):=
 aC true (.int .i64) (s.tmps 0) fun d2=>
 aC true (.int .i64) (s.tmps 3) fun d4=>
 aC true (.int .i64) (s.tmps 4) fun d6=>
 .mat (aR (pU d2 d4) d6) fun x=>.alt x (fun a0=>.ret (kY d2 d4 (.inl a0))) (fun b0=>.ret (kY d2 d4 (.inr b0)))
def iq:bK:=⟨([0,3,4],[]),([2],[]),CZ⟩
def rY:List (Nat×bK):=[(5,iq)]
theorem OA:∀(h5_0_0:Int)(h5_0_1:Int)(x:Int)(c:St→Option (Ex×St)),den mV rY (aY rZ 0) (sj h5_0_0 h5_0_1 x) (bU iq.kp iq.kx c)=(pU h5_0_0 h5_0_1 x).run (bV (sj h5_0_0 h5_0_1) (kY h5_0_0 h5_0_1) c):=fun _ _ _ _=>by
 kernel_rfl
theorem RA:bS mV rY (aY rZ 0) iq:=bA fun s e s' h=>by
 generalize hs:restrict iq.kp s=s1 at h
 have h:(CZ s1).run some=some (e,s'):=h
 obtain ⟨d2,e1,h_0⟩:=ak h
 obtain ⟨d4,e3,h_1⟩:=ak h_0
 obtain ⟨d6,e5,h_2⟩:=ak h_1
 obtain ⟨y,hy,hz⟩:=jR h_2
 refine ⟨_,_,sj d2 d4,kY d2 d4,pU d2 d4,d6,y,?_,hy,?_,OA d2 d4⟩
 ·subst hs;exact aT (T:=[(0,(.imm true (.int .i64) d2)),(3,(.imm true (.int .i64) d4)),(4,(.imm true (.int .i64) d6))]) (U:=[]) rfl rfl ⟨e1,e3,e5,trivial⟩ trivial
 ·rcases y with x|x<;>exact Option.some.inj hz
def KV:FnI:=⟨rZ,Tryz.f134.results.toList,Tryz.f134.resultTypes.toList,rY⟩
def Ga (_p0:Int):Bool→aB:=fun r=>⟨(.imm true .bool r),[],[]⟩
theorem Yk:∀(p0:Int),bN mV KV ⟨[(.imm true (.int .i64) p0)],[]⟩=(Qg p0).run fun r=>some (Ga p0 r):=fun _=>by kernel_rfl
def KU (av:List AV) (rs:List Root):Tre aB:=
 aJ av fun a0_ av0=>
 aU av0<|
 aU rs<|
 aC true (.int .i64) a0_ fun d1=>
 .mat (KT d1) fun r=>.ret (Ga d1 r)
def KW:Ctr:=⟨[],fun ci=>KU ci.args ci.roots,false⟩
theorem Wi:bM Tryz.prog .none mV:=(aA KQ arP (aA acW avR aN))
theorem Yl:Contract Tryz.prog .none 134 KW:=by
 have hl:aZ mV rY rZ:=(bC (n:=1) (by kernel_rfl) fun k hk=>by
   match k,hk with
   |0,_=>exact bq (id:=5) (L:=iq) (by kernel_rfl) (by kernel_rfl) RA)
 refine (aI (F:=KV) bg Wi Tryz.func134 (by kernel_rfl) (by kernel_rfl) (by kernel_rfl) hl []).weaken ?_
 rintro ⟨av,rs⟩ co h
 have h:(KU av rs).run some=some co:=h
 obtain ⟨a0_,av0,rfl,h_0⟩:=au h
 obtain ⟨rfl,h_1⟩:=ay h_0
 obtain ⟨rfl,h_2⟩:=ay h_1
 obtain ⟨d1,rfl,h_3⟩:=ak h_2
 exact bJ (Yk d1) h_3
def GU (p0:Int):Tre Bool:=
 .cond (decide (p0>0))
  (.cond (decide (p0<64))
   (.mat (KT p0) fun r1=>
   .ret r1)
   (.ret false))
  (.ret false)
def vG (p0:Int):Option Bool:=(GU p0).run some
def Ci:Env:=⟨tau,[(134,KW)],[]⟩
def M9:Code:=(Tryz.f115.body).getD .skip
def M8:FnI:=⟨M9,Tryz.f115.results.toList,Tryz.f115.resultTypes.toList,[]⟩
def Iu (_p0:Int):Bool→aB:=fun r=>⟨(.imm true .bool r),[],[]⟩
theorem aaA:∀(p0:Int),bN Ci M8 ⟨[(.imm true (.int .i64) p0)],[]⟩=(GU p0).run fun r=>some (Iu p0 r):=fun _=>by kernel_rfl
def M7 (av:List AV) (rs:List Root):Tre aB:=
 aJ av fun a0_ av0=>
 aU av0<|
 aU rs<|
 aC true (.int .i64) a0_ fun d1=>
 .mat (vG d1) fun r=>.ret (Iu d1 r)
def Na:Ctr:=⟨[],fun ci=>M7 ci.args ci.roots,false⟩
theorem Yi:bM Tryz.prog .none Ci:=(aA Yl aAh aN)
theorem aaB:Contract Tryz.prog .none 115 Na:=by
 have hl:aZ Ci [] M9:=bB (by kernel_rfl)
 refine (aI (F:=M8) bg Yi Tryz.func115 (by kernel_rfl) (by kernel_rfl) (by kernel_rfl) hl []).weaken ?_
 rintro ⟨av,rs⟩ co h
 have h:(M7 av rs).run some=some co:=h
 obtain ⟨a0_,av0,rfl,h_0⟩:=au h
 obtain ⟨rfl,h_1⟩:=ay h_0
 obtain ⟨rfl,h_2⟩:=ay h_1
 obtain ⟨d1,rfl,h_3⟩:=ak h_2
 exact bJ (aaA d1) h_3
-- shared
def allI{α:Type}(p:Nat→α→Bool):Nat→List α→Bool
 |_,[]=>true
 |i,x::l=>p i x&&allI p (i+1) l
theorem arf{α:Type}{p:α→Bool}:∀(l:List α)(i:Nat),allI (fun _ x=>p x) i l=l.all p:=by
 intro l
 induction l with
 |nil=>intro i;rfl
 |cons x l ih=>intro i;simp only [allI,List.all_cons,ih]
theorem arS{α β:Type}{p:Nat→α→Bool}{b0 b1:β}:∀(l:List α)(i:Nat),qY (γ:=Unit) (fun i _ x=>cond (p i x) (.inl ()) (.inr b0)) (fun _=>b1) i () l=cond (allI p i l) b1 b0:=by
 intro l
 induction l with
 |nil=>intro i;rfl
 |cons x l ih=>
  intro i
  simp only [qY,allI]
  cases p i x with
  |true=>simp only [cond_true,Bool.true_and];exact ih _
  |false=>rfl
theorem avn{α β:Type}{step:Int→Tre (Int ⊕ β)}{xs:List α}(p:Nat→α→Bool)(b0 b1:β)
  (hs:∀i x,xs[i]?=some x→(∀j y,j<i→xs[j]?=some y→p j y=true)→(step (i:Int)).run some=some (cond (p i x) (.inl ((i+1:Nat):Int)) (.inr b0)))
  (he:(step (xs.length:Int)).run some=some (.inr b1)):aR step 0=some (cond (allI p 0 xs) b1 b0):=by
 have:=mD (xs:=xs) (step:=step) (γ:=Unit) (fun i _=>(i:Int)) (fun i _ x=>cond (p i x) (.inl ()) (.inr b0)) (fun _=>b1) (fun i _=>∀j y,j<i→xs[j]?=some y→p j y=true)
  (by
   intro i acc x hx hI
   refine ⟨?_,?_⟩
   ·rw [hs i x hx hI]
    cases p i x<;>rfl
   ·intro a ha j y hj hy
    cases hp:p i x with
    |false=>rw [hp] at ha;cases ha
    |true=>
     by_cases hji:j=i
     ·subst hji;rw [hx] at hy;cases hy;exact hp
     ·exact hI j y (by omega) hy)
  (fun _ _=>he) xs 0 () rfl (Nat.zero_le _) (by intro j y h;omega)
 rw [←arS xs 0]
 exact this
theorem al7{α β:Type}{step:Int→Tre (Int ⊕ β)}{xs:List α}(p:α→Bool)(b0 b1:β)
  (hs:∀(i:Nat) x,xs[i]?=some x→(step (i:Int)).run some=some (cond (p x) (.inl ((i+1:Nat):Int)) (.inr b0)))
  (he:(step (xs.length:Int)).run some=some (.inr b1)):aR step 0=some (cond (xs.all p) b1 b0):=by
 rw [←arf xs 0]
 exact avn (fun _ x=>p x) b0 b1 (fun i x hx _=>hs i x hx) he
theorem awp{α:Type}{p:α→Bool}(l:List α):(!decide (oq (fun x=>!p x) 0 l ≥ 0))=l.all p:=by
 rw [awq]
 induction l with
 |nil=>rfl
 |cons x l ih=>simp only [List.any_cons,List.all_cons,←ih,Bool.not_or,Bool.not_not]
def awX{α β:Type}(f:Nat→α→Option β):Nat→List α→List β
 |_,[]=>[]
 |i,x::l=>match f i x with
  |some y=>y::awX f (i+1) l
  |none=>awX f (i+1) l
theorem gM{i:Nat}(h0:0<i)(h:i<4611686018427387904):aP .i64 ((i:Int)-1)=((i-1:Nat):Int):=by
 rw [dN (by omega) (by omega)];omega
theorem len2{e:List Int}(h:e.length=2):∃a b,e=[a,b]:=by
 match e,h with
 |[a,b],_=>exact ⟨a,b,rfl⟩
-- shared
abbrev TF3:=Int×Int×Unit
def aiU:List (Int×Int):=[(1,2),(1,3),(2,7),(3,11),(3,13),(4,19),(4,25),(4,31),(5,37),(5,41),(5,47),(5,55),(5,59),(5,61)]
def aO(f:TF3):Bool:=aiU.contains (f.1,f.2.1)
theorem UF{f:TF3}(h:aO f=true):(f.1,f.2.1)∈aiU:=by simpa [aO] using h
theorem nX{f:TF3}(h:aO f=true):1≤f.1∧f.1≤5:=by
 have h:=UF h
 have:∀x∈aiU,1≤x.1∧x.1≤5:=by decide
 exact this _ h
theorem anF{f:TF3}(h:aO f=true):2≤f.2.1∧f.2.1≤61:=by
 have h:=UF h
 have:∀x∈aiU,2≤x.2∧x.2≤61:=by decide
 exact this _ h
theorem apB{F:TF3→Option Bool}(hd:∀f:TF3,inR f.1 1 5=false→F f=some false)
  (hb:∀f:TF3,(f.2.1<0∨64≤f.2.1)→F f=some false)
  (hk:((List.range' 1 5).all fun d=>(List.range 64).all fun p=>F ((d:Int),(p:Int),()) == some (aO ((d:Int),(p:Int),())))=true) (f:TF3):F f=some (aO f):=by
 have hno:∀g:TF3,(¬(1≤g.1∧g.1≤5)∨¬(0≤g.2.1∧g.2.1<64))→aO g=false:=by
  intro g hg
  cases h:aO g with
  |false=>rfl
  |true=>
   have h1:=nX h
   have h2:=anF h
   omega
 obtain ⟨d,p,⟨⟩⟩:=f
 by_cases h1:1≤d∧d≤5
 ·by_cases h2:0≤p∧p<64
  ·obtain ⟨n,rfl⟩:=Int.eq_ofNat_of_zero_le (show 0≤d by omega)
   obtain ⟨m,rfl⟩:=Int.eq_ofNat_of_zero_le h2.1
   have h3:=List.all_eq_true.1 (List.all_eq_true.1 hk n (List.mem_range'_1.2 (by omega))) m (List.mem_range.2 (by omega))
   exact eq_of_beq h3
  ·rw [hb _ (by show p<0∨64≤p;omega),hno _ (.inr h2)]
 ·rw [hd _ (auv.2 (by show d<1∨5<d;omega)),hno _ (.inl h1)]
def aik (p0:(Int×(Int×Unit))):Tre Bool:=
 .cond (inR p0.1 1 5)
  (.mat (vG p0.2.1) fun r1=>
  .cond r1
   (.mat (o7 p0.2.1) fun r2=>
   .ret (decide (r2=p0.1)))
   (.ret false))
  (.ret false)
def D9 (p0:(Int×(Int×Unit))):Option Bool:=(aik p0).run some
-- more
theorem aaD(f:Int×Int×Unit):D9 f=some (aO f):=by
 refine apB ?_ ?_ (by kernel_rfl) f
 ·intro f h
  unfold D9 aik
  rw [Tre.aG,h];rfl
 ·intro f h
  unfold D9 aik
  rw [Tre.aG]
  have:vG f.2.1=some false:=by
   unfold vG GU
   rw [Tre.aG]
   by_cases h1:f.2.1>0
   ·rw [decide_eq_true h1,cond_true,Tre.aG,decide_eq_false (by omega)];rfl
   ·rw [decide_eq_false h1];rfl
  rw [ah this]
  cases inR f.1 1 5<;>rfl
def ae0:Env:=⟨tau,[(86,D6),(115,Na),(116,EI)],[]⟩
def am4:Code:=(Tryz.f83.body).getD .skip
def am3:FnI:=⟨am4,Tryz.f83.results.toList,Tryz.f83.resultTypes.toList,[]⟩
def ags (_p0:(Int×(Int×Unit))):Bool→aB:=fun r=>⟨(.imm true .bool r),[],[]⟩
theorem asr:∀(p0:(Int×(Int×Unit))),bN ae0 am3 ⟨[(.imm true aL p0)],[]⟩=(aik p0).run fun r=>some (ags p0 r):=fun _=>by kernel_rfl
def am2 (av:List AV) (rs:List Root):Tre aB:=
 aJ av fun a0_ av0=>
 aU av0<|
 aU rs<|
 aC true aL a0_ fun d1=>
 .mat (D9 d1) fun r=>.ret (ags d1 r)
def XK:Ctr:=⟨[],fun ci=>am2 ci.args ci.roots,false⟩
theorem aqK:bM Tryz.prog .none ae0:=(aA D7 amr (aA aaB az5 (aA KQ arP aN)))
theorem aaE:Contract Tryz.prog .none 83 XK:=by
 have hl:aZ ae0 [] am4:=bB (by kernel_rfl)
 refine (aI (F:=am3) bg aqK Tryz.func83 (by kernel_rfl) (by kernel_rfl) (by kernel_rfl) hl []).weaken ?_
 rintro ⟨av,rs⟩ co h
 have h:(am2 av rs).run some=some co:=h
 obtain ⟨a0_,av0,rfl,h_0⟩:=au h
 obtain ⟨rfl,h_1⟩:=ay h_0
 obtain ⟨rfl,h_2⟩:=ay h_1
 obtain ⟨d1,rfl,h_3⟩:=ak h_2
 exact bJ (asr d1) h_3
def ae2 (p0:(Int×(Int×Unit))):Tre Int:=
 .ite (0≤aP .u64 p0.1)<|
 let v1:=ael .i64 1 (aP .u64 p0.1)
 .ret v1
def wL (p0:(Int×(Int×Unit))):Option Int:=(ae2 p0).run some
def Wq:Env:=⟨tau,[],[]⟩
def agx:Code:=(Tryz.f87.body).getD .skip
def agw:FnI:=⟨agx,Tryz.f87.results.toList,Tryz.f87.resultTypes.toList,[]⟩
def Zf (_p0:(Int×(Int×Unit))):Int→aB:=fun r=>⟨(.imm true (.int .i64) r),[],[]⟩
theorem aou:∀(p0:(Int×(Int×Unit))),bN Wq agw ⟨[(.imm true aL p0)],[]⟩=(ae2 p0).run fun r=>some (Zf p0 r):=fun _=>by kernel_rfl
def agv (av:List AV) (rs:List Root):Tre aB:=
 aJ av fun a0_ av0=>
 aU av0<|
 aU rs<|
 aC true aL a0_ fun d1=>
 .mat (wL d1) fun r=>.ret (Zf d1 r)
def Gd:Ctr:=⟨[],fun ci=>agv ci.args ci.roots,false⟩
theorem alH:bM Tryz.prog .none Wq:=aN
theorem Jb:Contract Tryz.prog .none 87 Gd:=by
 have hl:aZ Wq [] agx:=bB (by kernel_rfl)
 refine (aI (F:=agw) bg alH Tryz.func87 (by kernel_rfl) (by kernel_rfl) (by kernel_rfl) hl []).weaken ?_
 rintro ⟨av,rs⟩ co h
 have h:(agv av rs).run some=some co:=h
 obtain ⟨a0_,av0,rfl,h_0⟩:=au h
 obtain ⟨rfl,h_1⟩:=ay h_0
 obtain ⟨rfl,h_2⟩:=ay h_1
 obtain ⟨d1,rfl,h_3⟩:=ak h_2
 exact bJ (aou d1) h_3
-- shared
abbrev TN6:=TF3×Int×Int×List (List Int)×List (List Int)×Unit
def e0(e:List Int):Int:=e.getD 0 0
def e1(e:List Int):Int:=e.getD 1 0
def edgeOk(N:Int)(es:List (List Int))(i:Nat)(e:List Int):Bool:=
 decide (e.length=2)&&((inR (e0 e) 0 (N-1)&&(inR (e1 e) 0 (N-1)&&decide (e0 e<e1 e)))&&(decide (i=0)||decide (e0 (es.getD (i-1) [])≤e0 e)))
theorem arO{N:Int}{es:List (List Int)}{i:Nat}{e:List Int}(h:edgeOk N es i e=true):e.length=2:=by
 unfold edgeOk at h
 rw [Bool.and_eq_true] at h
 exact of_decide_eq_true h.1
def aBO(es:List (List Int))(node:Int):List Int:=awX (fun i e=>if e1 e=node then some (i:Int) else none) 0 es
def aBX(n:TN6)(node:Int):Int:=if node=0 then n.2.2.1 else ((aBO n.2.2.2.1 node).length:Int)
def Uw(f:TF3):Int:=2 ^ f.1.toNat-1
theorem aip{f:TF3}(h:aO f=true):aP .i64 (ael .i64 1 (aP .u64 f.1)-1)=Uw f:=by
 obtain ⟨h1,h2⟩:=nX h
 obtain ⟨n,hn⟩:=Int.eq_ofNat_of_zero_le (show 0≤f.1 by omega)
 unfold Uw
 rw [hn]
 have:∀n:Nat,n<6→aP .i64 (ael .i64 1 (aP .u64 (n:Int))-1)=2 ^ (n:Int).toNat-1:=by decide
 exact this n (by omega)
theorem axr{f:TF3}(h:aO f=true):aP .i64 (ael .i64 1 f.1-1)=Uw f:=by
 obtain ⟨h1,h2⟩:=nX h
 have:=aip h
 rw [amF (by omega) (by omega)] at this
 exact this
def pE(f:TF3)(c:List Int):Bool:=c.all fun x=>inR x 0 (Uw f)
def azV(n:TN6)(i:Nat)(c:List Int):Bool:=decide ((c.length:Int)=aBX n (e0 (n.2.2.2.1.getD i [])))&&pE n.1 c
structure aA2(n:TN6):Prop where
 field:aO n.1=true
 nodes:2≤n.2.1∧n.2.1≤8
 mess:1≤n.2.2.1∧n.2.2.1≤3
 len:n.2.2.2.1.length≤14
 clen:n.2.2.2.2.1.length=n.2.2.2.1.length
 edges:∀i e,n.2.2.2.1[i]?=some e→edgeOk n.2.1 n.2.2.2.1 i e=true
 coefs:∀i c,n.2.2.2.2.1[i]?=some c→azV n i c=true
theorem aA2.two{n:TN6}(h:aA2 n){i:Nat}{e:List Int}(he:n.2.2.2.1[i]?=some e):∃a b,e=[a,b]∧0≤a∧a<b∧b≤n.2.1-1:=by
 have:=h.edges i e he
 obtain ⟨a,b,rfl⟩:=len2 (arO this)
 simp only [edgeOk,Bool.and_eq_true,kF,decide_eq_true_eq,e0,e1,List.getD_cons_zero,List.getD_cons_succ] at this
 exact ⟨a,b,rfl,by omega,by omega,by omega⟩
theorem vg{α:Type}{l:List α}{i:Nat}{x d:α}(h:l[i]?=some x):l.getD i d=x:=by
 rw [List.getD_eq_getElem?_getD,h];rfl
def mK (h2_0_0:List Int) (h2_0_2:(Int×(Int×Unit))):Int→Tre (Int ⊕ (Bool ⊕ Unit)):=fun s2=>
 .cond (decide (s2<(h2_0_0.length:Int)))
  (.ite (0≤s2∧s2<(h2_0_0.length:Int))<|
  .mat (h2_0_0[s2.toNat]?) fun x1=>
  .mat (wL h2_0_2) fun r2=>
  let v3:=inR x1 0 (aP .i64 (r2-1))
  .cond (!v3)
   (.ret (.inr (.inl false)))
   (.ret (.inl (aP .i64 (s2+1)))))
  (.ret (.inr (.inr ())))
def OD (p0:(Int×(Int×Unit))) (p1:List Int):Tre Bool:=
 .mat (aR (mK p1 p0) 0) fun l4=>
 .alt l4
  (fun a5=>
   .ret a5)
  (fun _=>
   .ret true)
def tT (p0:(Int×(Int×Unit))) (p1:List Int):Option Bool:=(OD p0 p1).run some
-- more
theorem RG{f:TF3}(hf:aO f=true):wL f=some (ael .i64 1 (aP .u64 f.1)):=by
 have:=nX hf
 unfold wL ae2
 rw [Tre.run_ite,if_pos (aem _)]
 rfl
theorem Ql{f:TF3}(hf:aO f=true)(c:List Int)(hc:c.length<4611686018427387904):tT f c=some (pE f c):=by
 unfold tT OD pE
 rw [Tre.oF,al7 (xs:=c) (fun x=>inR x 0 (Uw f)) (.inl false) (.inr ())]
 ·generalize List.all _ _=z
  cases z<;>rfl
 ·intro i x hx
  have hi:i<c.length:=(List.getElem?_eq_some_iff.1 hx).1
  unfold mK
  rw [dP hx,ah (RG hf),aip hf]
  dsimp only
  rw [Tre.aG]
  cases inR x 0 (Uw f)
  ·rfl
  ·simp only [Bool.not_true,cond_false,cond_true,Tre.aK,aV (show i<4611686018427387904 by omega)]
 ·unfold mK
  exact dw
def tV:Env:=⟨tau,[(87,Gd),(86,D6)],[]⟩
def zL:Code:=(Tryz.f54.body).getD .skip
def yV (z2_0:Bool) (h2_0_0:List Int) (h2_0_2:(Int×(Int×Unit))):Int→St:=fun x=>bR [(1,(.imm z2_0 (.sl (.int .i64)) h2_0_0)),(2,(.ptr (4,0) [])),(5,(.imm true (.int .i64) x))] [((4,0),some ⟨true,aL,.own,h2_0_2⟩)]
def oK (_z2_0:Bool) (_h2_0_0:List Int) (_h2_0_2:(Int×(Int×Unit))):(Bool ⊕ Unit)→Ex×St
 |.inl x=>(.ret,bR [(4,(.imm true .bool x))] [])
 |.inr _=>(.exit 0,bR [(4,.dead)] [])
def Lg (s:St):Tre (Ex×St):=
 bE (.sl (.int .i64)) (s.tmps 1) fun z3 d2=>
 dU (4,0) [] (s.tmps 2)<|
 aC true (.int .i64) (s.tmps 5) fun d6=>
 bD true aL (s.roots (4,0)) fun m8 d9=>
 asM .own m8<|
 .mat (aR (mK d2 d9) d6) fun x=>.alt x (fun a0=>.ret (oK z3 d2 d9 (.inl a0))) (fun b0=>.ret (oK z3 d2 d9 (.inr b0)))
def ku:bK:=⟨([1,2,5],[(4,0)]),([4],[]),Lg⟩
def zK:List (Nat×bK):=[(2,ku)]
theorem Ut:∀(z2_0:Bool)(h2_0_0:List Int)(h2_0_2:(Int×(Int×Unit)))(x:Int)(c:St→Option (Ex×St)),den tV zK (aY zL 0) (yV z2_0 h2_0_0 h2_0_2 x) (bU ku.kp ku.kx c)=(mK h2_0_0 h2_0_2 x).run (bV (yV z2_0 h2_0_0 h2_0_2) (oK z2_0 h2_0_0 h2_0_2) c):=fun _ _ _ _ _=>by
 kernel_rfl
theorem Yw:bS tV zK (aY zL 0) ku:=bA fun s e s' h=>by
 generalize hs:restrict ku.kp s=s1 at h
 have h:(Lg s1).run some=some (e,s'):=h
 obtain ⟨z3,d2,e1,h_0⟩:=aD h
 obtain ⟨e4,h_1⟩:=bF h_0
 obtain ⟨d6,e5,h_2⟩:=ak h_1
 obtain ⟨m8,d9,e7,h_3⟩:=aH h_2
 obtain ⟨rfl,h_4⟩:=aQ h_3
 obtain ⟨y,hy,hz⟩:=jR h_4
 refine ⟨_,_,yV z3 d2 d9,oK z3 d2 d9,mK d2 d9,d6,y,?_,hy,?_,Ut z3 d2 d9⟩
 ·subst hs;exact aT (T:=[(1,(.imm z3 (.sl (.int .i64)) d2)),(2,(.ptr (4,0) [])),(5,(.imm true (.int .i64) d6))]) (U:=[((4,0),some ⟨true,aL,.own,d9⟩)]) rfl rfl ⟨e1,e4,e5,trivial⟩ ⟨e7,trivial⟩
 ·rcases y with x|x<;>exact Option.some.inj hz
def Tz:FnI:=⟨zL,Tryz.f54.results.toList,Tryz.f54.resultTypes.toList,zK⟩
def NK (_zp0:Bool) (_p0:(Int×(Int×Unit))) (_p1:List Int):Bool→aB:=fun r=>⟨(.imm true .bool r),[],[]⟩
theorem afk:∀(zp0:Bool)(p0:(Int×(Int×Unit)))(p1:List Int),bN tV Tz ⟨[(.imm true aL p0),(.imm zp0 (.sl (.int .i64)) p1)],[]⟩=(OD p0 p1).run fun r=>some (NK zp0 p0 p1 r):=fun _ _ _=>by kernel_rfl
def Tx (av:List AV) (rs:List Root):Tre aB:=
 aJ av fun a0_ av0=>
 aJ av0 fun a1_ av1=>
 aU av1<|
 aU rs<|
 aC true aL a0_ fun d1=>
 bE (.sl (.int .i64)) a1_ fun z3 d2=>
 .mat (tT d1 d2) fun r=>.ret (NK z3 d1 d2 r)
def Hf:Ctr:=⟨[],fun ci=>Tx ci.args ci.roots,false⟩
theorem adj:bM Tryz.prog .none tV:=(aA Jb asS (aA D7 amr aN))
theorem Qm:Contract Tryz.prog .none 54 Hf:=by
 have hl:aZ tV zK zL:=(bC (n:=1) (by kernel_rfl) fun k hk=>by
   match k,hk with
   |0,_=>exact bq (id:=2) (L:=ku) (by kernel_rfl) (by kernel_rfl) Yw)
 refine (aI (F:=Tz) bg adj Tryz.func54 (by kernel_rfl) (by kernel_rfl) (by kernel_rfl) hl []).weaken ?_
 rintro ⟨av,rs⟩ co h
 have h:(Tx av rs).run some=some co:=h
 obtain ⟨a0_,av0,rfl,h_0⟩:=au h
 obtain ⟨a1_,av1,rfl,h_1⟩:=au h_0
 obtain ⟨rfl,h_2⟩:=ay h_1
 obtain ⟨rfl,h_3⟩:=ay h_2
 obtain ⟨d1,rfl,h_4⟩:=ak h_3
 obtain ⟨z3,d2,rfl,h_5⟩:=aD h_4
 exact bJ (afk z3 d1 d2) h_5
def afl (p0:(Int×(Int×Unit))) (p1:List Int):Tre Bool:=
 let v1:=inR (p1.length:Int) 1 5
 .cond v1
  (.mat (tT p0 p1) fun r2=>
  .ret r2)
  (.ret false)
def NM (p0:(Int×(Int×Unit))) (p1:List Int):Option Bool:=(afl p0 p1).run some
def WY:Env:=⟨tau,[(86,D6),(54,Hf)],[]⟩
def ag0:Code:=(Tryz.f84.body).getD .skip
def agZ:FnI:=⟨ag0,Tryz.f84.results.toList,Tryz.f84.resultTypes.toList,[]⟩
def Zt (_zp0:Bool) (_p0:(Int×(Int×Unit))) (_p1:List Int):Bool→aB:=fun r=>⟨(.imm true .bool r),[],[]⟩
theorem aoL:∀(zp0:Bool)(p0:(Int×(Int×Unit)))(p1:List Int),bN WY agZ ⟨[(.imm true aL p0),(.imm zp0 (.sl (.int .i64)) p1)],[]⟩=(afl p0 p1).run fun r=>some (Zt zp0 p0 p1 r):=fun _ _ _=>by kernel_rfl
def agY (av:List AV) (rs:List Root):Tre aB:=
 aJ av fun a0_ av0=>
 aJ av0 fun a1_ av1=>
 aU av1<|
 aU rs<|
 aC true aL a0_ fun d1=>
 bE (.sl (.int .i64)) a1_ fun z3 d2=>
 .mat (NM d1 d2) fun r=>.ret (Zt z3 d1 d2 r)
def ag1:Ctr:=⟨[],fun ci=>agY ci.args ci.roots,false⟩
theorem alU:bM Tryz.prog .none WY:=(aA D7 amr (aA Qm azg aN))
theorem aoM:Contract Tryz.prog .none 84 ag1:=by
 have hl:aZ WY [] ag0:=bB (by kernel_rfl)
 refine (aI (F:=agZ) bg alU Tryz.func84 (by kernel_rfl) (by kernel_rfl) (by kernel_rfl) hl []).weaken ?_
 rintro ⟨av,rs⟩ co h
 have h:(agY av rs).run some=some co:=h
 obtain ⟨a0_,av0,rfl,h_0⟩:=au h
 obtain ⟨a1_,av1,rfl,h_1⟩:=au h_0
 obtain ⟨rfl,h_2⟩:=ay h_1
 obtain ⟨rfl,h_3⟩:=ay h_2
 obtain ⟨d1,rfl,h_4⟩:=ak h_3
 obtain ⟨z3,d2,rfl,h_5⟩:=aD h_4
 exact bJ (aoL z3 d1 d2) h_5
def akb (p0:List Int):Tre (List Int):=
 .ite ((0+p0.length)*8≤bO∧1≤8)<|
 .ret ([]++p0)
def akc (p0:List Int):Option (List Int):=(akb p0).run some
theorem alC(p0:List Int)(y:List Int)(h:gH p0=some y):akc p0=some y:=by
 obtain ⟨hl,rfl⟩:=ab8 h
 have hb:(0+p0.length)*8≤bO∧1≤8:=by unfold bO;omega
 unfold akc akb
 rw [Tre.run_ite,if_pos hb]
 rfl
def aaC:Env:=⟨tau,[],[]⟩
def akf:Code:=(Tryz.f108.body).getD .skip
def ake:FnI:=⟨akf,Tryz.f108.results.toList,Tryz.f108.resultTypes.toList,[]⟩
def acM (_zp0:Bool) (_p0:List Int):(List Int)→aB:=fun r=>⟨(.ref (1,0) []),[],[⟨false,(.sl (.int .i64)),.own,r⟩]⟩
theorem aqH:∀(zp0:Bool)(p0:List Int),bN aaC ake ⟨[(.imm zp0 (.sl (.int .i64)) p0)],[]⟩=(akb p0).run fun r=>some (acM zp0 p0 r):=fun _ _=>by kernel_rfl
def akd (av:List AV) (rs:List Root):Tre aB:=
 aJ av fun a0_ av0=>
 aU av0<|
 aU rs<|
 bE (.sl (.int .i64)) a0_ fun z2 d1=>
 .mat (gH d1) fun r=>.ret (acM z2 d1 r)
def D8:Ctr:=⟨[],fun ci=>akd ci.args ci.roots,false⟩
theorem aop:bM Tryz.prog .none aaC:=aN
theorem F9:Contract Tryz.prog .none 108 D8:=by
 have hl:aZ aaC [] akf:=bB (by kernel_rfl)
 refine (aI (F:=ake) bg aop Tryz.func108 (by kernel_rfl) (by kernel_rfl) (by kernel_rfl) hl []).weaken ?_
 rintro ⟨av,rs⟩ co h
 have h:(akd av rs).run some=some co:=h
 obtain ⟨a0_,av0,rfl,h_0⟩:=au h
 obtain ⟨rfl,h_1⟩:=ay h_0
 obtain ⟨rfl,h_2⟩:=ay h_1
 obtain ⟨z2,d1,rfl,h_3⟩:=aD h_2
 exact xg (aqH z2 d1) (alC d1) h_3
def akn (p0:Int) (p1:Int):Tre Int:=
 .ite (0≤aP .u64 p1)<|
 let v1:=aak .i64 p0 (aP .u64 p1)
 .ret (ahy .i64 v1 1)
def ako (p0:Int) (p1:Int):Option Int:=(akn p0 p1).run some
def apd(x j:Int):Option Int:=ak1 (inR j 0 9223372036854775807) (ahy .i64 (aak .i64 x j) 1)
theorem alI(p0 p1:Int)(y:Int)(h:apd p0 p1=some y):ako p0 p1=some y:=by
 obtain ⟨hl,rfl⟩:=Ao h
 rw [kF] at hl
 unfold ako akn
 rw [amF hl.1 (by omega),Tre.run_ite,if_pos hl.1]
 rfl
theorem ape{x:Int}{j:Nat}(h:j≤1048576):apd x (j:Int)=some (ahy .i64 (aak .i64 x j) 1):=pV (by rw [kF];omega)
def aaG:Env:=⟨tau,[],[]⟩
def akr:Code:=(Tryz.f114.body).getD .skip
def akq:FnI:=⟨akr,Tryz.f114.results.toList,Tryz.f114.resultTypes.toList,[]⟩
def acY (_p0:Int) (_p1:Int):Int→aB:=fun r=>⟨(.imm true (.int .i64) r),[],[]⟩
theorem aqL:∀(p0:Int)(p1:Int),bN aaG akq ⟨[(.imm true (.int .i64) p0),(.imm true (.int .i64) p1)],[]⟩=(akn p0 p1).run fun r=>some (acY p0 p1 r):=fun _ _=>by kernel_rfl
def akp (av:List AV) (rs:List Root):Tre aB:=
 aJ av fun a0_ av0=>
 aJ av0 fun a1_ av1=>
 aU av1<|
 aU rs<|
 aC true (.int .i64) a0_ fun d1=>
 aC true (.int .i64) a1_ fun d2=>
 .mat (apd d1 d2) fun r=>.ret (acY d1 d2 r)
def aks:Ctr:=⟨[],fun ci=>akp ci.args ci.roots,false⟩
theorem aov:bM Tryz.prog .none aaG:=aN
theorem aqM:Contract Tryz.prog .none 114 aks:=by
 have hl:aZ aaG [] akr:=bB (by kernel_rfl)
 refine (aI (F:=akq) bg aov Tryz.func114 (by kernel_rfl) (by kernel_rfl) (by kernel_rfl) hl []).weaken ?_
 rintro ⟨av,rs⟩ co h
 have h:(akp av rs).run some=some co:=h
 obtain ⟨a0_,av0,rfl,h_0⟩:=au h
 obtain ⟨a1_,av1,rfl,h_1⟩:=au h_0
 obtain ⟨rfl,h_2⟩:=ay h_1
 obtain ⟨rfl,h_3⟩:=ay h_2
 obtain ⟨d1,rfl,h_4⟩:=ak h_3
 obtain ⟨d2,rfl,h_5⟩:=ak h_4
 exact xg (aqL d1 d2) (alI d1 d2) h_5
def jL (h8_0_1:Int) (h8_0_4:List Int):(Int×Int)→Tre ((Int×Int) ⊕ Int):=fun s8=>
 .cond (decide (s8.2<(h8_0_4.length:Int)))
  (.cond (decide (s8.1<0))
   (.ite (0≤s8.2∧s8.2<(h8_0_4.length:Int))<|
   .mat (h8_0_4[s8.2.toNat]?) fun x2=>
   .mat (apd x2 h8_0_1) fun r3=>
   .cond (decide (r3=1))
    (.ret (.inl (s8.2,aP .i64 (s8.2+1))))
    (.ret (.inl (s8.1,aP .i64 (s8.2+1)))))
   (.ret (.inr s8.1)))
  (.ret (.inr s8.1))
def gy (h16_0_1:Int) (h16_0_2:Int):(Int×(List Int))→Tre ((Int×(List Int)) ⊕ (List Int)):=fun s16=>
 .cond (decide (s16.1<(s16.2.length:Int)))
  (.ite (0≤s16.1∧s16.1<(s16.2.length:Int))<|
  .mat (s16.2[s16.1.toNat]?) fun x7=>
  .mat (apd x7 h16_0_1) fun r8=>
  .cond (decide (r8=1))
   (.ite (0≤s16.1∧s16.1<(s16.2.length:Int))<|
   .mat (s16.2[s16.1.toNat]?) fun x9=>
   .ite (0≤s16.1∧s16.1<(s16.2.length:Int))<|
   .mat (s16.2[s16.1.toNat]?) fun _=>
   let v11:=s16.2.set s16.1.toNat (jJ .i64 x9 h16_0_2)
   .ret (.inl (aP .i64 (s16.1+1),v11)))
   (.ret (.inl (aP .i64 (s16.1+1),s16.2))))
  (.ret (.inr s16.2))
def mJ (h21_0_1:Int) (h21_0_2:Int):(Int×(List Int))→Tre ((Int×(List Int)) ⊕ (List Int)):=fun s21=>
 .cond (decide (s21.1<(s21.2.length:Int)))
  (.ite (0≤s21.1∧s21.1<(s21.2.length:Int))<|
  .mat (s21.2[s21.1.toNat]?) fun x13=>
  .mat (apd x13 h21_0_1) fun r14=>
  .cond (decide (r14=1))
   (.ite (0≤s21.1∧s21.1<(s21.2.length:Int))<|
   .mat (s21.2[s21.1.toNat]?) fun x15=>
   .ite (0≤s21.1∧s21.1<(s21.2.length:Int))<|
   .mat (s21.2[s21.1.toNat]?) fun _=>
   let v17:=s21.2.set s21.1.toNat (jJ .i64 x15 h21_0_2)
   .ret (.inl (aP .i64 (s21.1+1),v17)))
   (.ret (.inl (aP .i64 (s21.1+1),s21.2))))
  (.ret (.inr s21.2))
def eX (h4_0_0:Int):(Int×(List Int)×(List Int))→Tre ((Int×(List Int)×(List Int)) ⊕ (List Int)):=fun s4=>
 .cond (decide (s4.1<h4_0_0))
  (.mat (aR (jL s4.1 s4.2.1) (-1,0)) fun l4=>
  .cond (decide (l4<0))
   (.ret (.inl (aP .i64 (s4.1+1),s4.2.1,s4.2.2)))
   (.ite (0≤l4∧l4<(s4.2.1.length:Int))<|
   .mat (s4.2.1[l4.toNat]?) fun x5=>
   .ite (0≤l4∧l4<(s4.2.1.length:Int))<|
   .mat (s4.2.1[l4.toNat]?) fun _=>
   .mat (aR (gy s4.1 x5) (0,s4.2.1.set l4.toNat 0)) fun l12=>
   .mat (aR (mJ s4.1 x5) (0,s4.2.2)) fun l18=>
   .ite ((l18.length+1)*8≤bO∧1≤8)<|
   .ret (.inl (aP .i64 (s4.1+1),l12,l18++([x5])))))
  (.ret (.inr s4.2.2))
def RH (p0:Int) (p1:List Int):Tre (List Int):=
 .mat (gH p1) fun r1=>
 .mat (aR (eX p0) (0,r1,[])) fun l19=>
 .ret l19
def Wt (p0:Int) (p1:List Int):Option (List Int):=(RH p0 p1).run some
def axL (m:Int) (xs:List Int):Option (List Int):=ak1 (inR m 0 62&&KH m.toNat xs) (adY xs)
theorem acZ(c:Nat)(hc:c≤62)(xs:List Int)(hl:xs.length≤1048576):aR (jL (c:Int) xs) (-1,0)=some (oq (fun x=>CJ x (c:Int)) 0 xs):=by
 have:=mD (xs:=xs) (step:=jL (c:Int) xs) (fun i acc=>(acc,(i:Int))) (fun i acc x=>cond (decide (acc<0)) (.inl (cond (CJ x (c:Int)) (i:Int) acc)) (.inr acc)) id (fun _ _=>True) (by
  intro i acc x hx _
  refine ⟨?_,fun _ _=>trivial⟩
  have hi:i<xs.length:=(List.getElem?_eq_some_iff.1 hx).1
  unfold jL
  rw [Tre.aG,show decide (((acc,(i:Int)):Int×Int).2<(xs.length:Int))=true from by simpa using hi,cond_true,Tre.aG]
  by_cases h0:acc<0
  ·rw [show decide (acc<0)=true from by simpa using h0]
   rw [cond_true,dF hx,ah (ape (by omega):apd x (c:Int)=_),Tre.aG]
   show cond (CJ x (c:Int)) _ _=_
   cases CJ x (c:Int)
   ·rw [cond_false,Tre.aK,aV (by omega)];rfl
   ·rw [cond_true,Tre.aK,aV (by omega)];rfl
  ·rw [show decide (acc<0)=false from by simpa using h0]
   rfl)
  (by
  intro acc _
  unfold jL
  exact dw) xs 0 (-1) rfl (Nat.zero_le _) trivial
 rw [show (((-1:Int),(0:Int)):Int×Int)=(-1,((0:Nat):Int)) from rfl,this]
 have key:∀(l:List Int)(i:Nat),qY (β:=Int) (fun (i:Nat) (acc:Int) x=>cond (decide (acc<0)) (.inl (cond (CJ x (c:Int)) (i:Int) acc)) (.inr acc)) id i (-1) l=oq (fun x=>CJ x (c:Int)) i l:=by
  intro l
  induction l with
  |nil=>intro i;rfl
  |cons x l ih=>
   intro i
   simp only [qY,oq,show decide ((-1:Int)<0)=true from rfl,cond_true]
   cases CJ x (c:Int)
   ·exact ih (i+1)
   ·have hn:decide ((i:Int)<0)=false:=by simp
    cases l with
    |nil=>rfl
    |cons y l=>simp only [qY,cond_true,hn,cond_false]
 rw [key]
theorem Nl(c r:Nat)(hc:c≤62)(hr:r<2 ^ 62)(l:List Nat)(hb:∀n∈l,n<2 ^ 62)(hl:l.length≤1048576):aR (gy (c:Int) (r:Int)) (0,up l)=some (up (l.map (iM c r))):=by
 have:=amT (step:=gy (c:Int) (r:Int)) (fun _ x=>iM c r x) l id (by
  intro i x hx
  have hi:i<l.length:=(List.getElem?_eq_some_iff.1 hx).1
  have hx2:=aq7 (aif (g:=fun _ x=>iM c r x) (i:=i) hx)
  rw [if_neg (Nat.lt_irrefl i)] at hx2
  have hlen:(up (AX (fun _ x=>iM c r x) i l)).length=l.length:=by rw [Hy,acs]
  have hxb:=hb x (List.mem_of_getElem? hx)
  rw [←aqv hx]
  unfold gy
  rw [dP hx2,ah (ape (by omega):apd (x:Int) (c:Int)=_),Tre.aG]
  show cond (CJ (x:Int) (c:Int)) _ _=_
  rw [Jm (by omega) (by omega)]
  have he:iM c r x=cond (x.testBit c) (x^^^r) x:=rfl
  rw [he]
  cases x.testBit c
  ·rw [cond_false,Tre.aK,aV (by omega)]
   refine congrArg (fun z=>some (Sum.inl (((i+1:Nat):Int),z))) ?_
   rw [cond_false,←Xl]
   exact (List.ext_getElem? fun j=>by
    rw [List.getElem?_set]
    by_cases hj:i=j
    ·subst hj;rw [if_pos rfl,hx2,if_pos (List.getElem?_eq_some_iff.1 hx2).1]
    ·rw [if_neg hj]).symm
  ·rw [cond_true,dF hx2,dF hx2,Tre.aK,aV (by omega),ou (by omega) (by omega),Int.toNat_natCast,cond_true,←Xl])
  (by
  unfold gy
  have:((AX (fun _ x=>iM c r x) l.length l).length:Int)=(l.length:Int):=by rw [acs]
  show (Tre.cond (decide ((l.length:Int)<((up (AX (fun _ x=>iM c r x) l.length l)).length:Int))) _ _).run some=_
  rw [Hy,acs]
  exact dw)
 rw [this,an9]
 rfl
theorem Yo:mJ=gy:=rfl
theorem Nq(m:Nat)(hm:m≤62)(orig:List Nat):∀(n c:Nat)(E:List (Nat×Nat))(R:List Nat),c+n=m→Inv orig c E R→E.length≤c→R.length≤1048576→(∀x∈R,x<2 ^ m)→(∀a∈E,a.2<2 ^ m) →
  ∃E':List Nat,aR (eX (m:Int)) ((c:Int),up R,up (E.map (·.2)))=some (up E')∧u6 orig E':=by
 intro n
 have hp:=aAK hm
 induction n with
 |zero=>
  intro c E R hc hI _ _ hR _
  have:c=m:=hc
  subst this
  refine ⟨E.map (·.2),fB ?_,hI.done fun x hx=>adF (hR x hx) (hI.low x hx)⟩
  unfold eX
  exact dw
 |succ n ih=>
  intro c E R hc hI hE hl hR hEb
  have hcm:c<m:=by omega
  have hstep:∀E2 R2,Inv orig (c+1) E2 R2→E2.length≤c+1→R2.length≤1048576→(∀x∈R2,x<2 ^ m)→(∀a∈E2,a.2<2 ^ m)→(eX (m:Int) ((c:Int),up R,up (E.map (·.2)))).run some=some (.inl (((c+1:Nat):Int),up R2,up (E2.map (·.2)))) →
    ∃E':List Nat,aR (eX (m:Int)) ((c:Int),up R,up (E.map (·.2)))=some (up E')∧u6 orig E':=by
   intro E2 R2 h1 h2 h3 h4 h5 h6
   rw [mR h6]
   exact ih (c+1) E2 R2 (by omega) h1 h2 h3 h4 h5
  have hfind:=acZ c (by omega) (up R) (by rw [Hy];exact hl)
  have hw:aP .i64 ((c:Int)+1)=((c+1:Nat):Int):=aV (by omega)
  have hdec:decide ((c:Int)<(m:Int))=true:=by simpa using hcm
  rcases zZ (fun x=>CJ x (c:Int)) (up R) 0 with ⟨h1,h2⟩|⟨k,x,h1,h2,h3⟩
  ·refine hstep E R (hI.skip fun x hx=>?_) (by omega) hl hR hEb ?_
   ·have:=h2 (x:Int) (List.mem_map.2 ⟨x,hx,rfl⟩)
    have hxb:=hR x hx
    rwa [Jm (by omega) (by omega)] at this
   ·unfold eX
    rw [Tre.aG]
    show cond (decide ((c:Int)<(m:Int))) _ _=_
    rw [hdec,cond_true,ah (hfind.trans (by rw [h1])),Tre.aG]
    simp only [show decide ((-1:Int)<0)=true from rfl,cond_true,Tre.aK,hw]
  ·obtain ⟨r,hr1,rfl⟩:∃r:Nat,R[k]?=some r∧(r:Int)=x:=by
    simp only [up,List.getElem?_map,Option.map_eq_some_iff] at h1
    exact h1
   have hrm:r∈R:=List.mem_of_getElem? hr1
   have hrb:=hR r hrm
   rw [Jm (by omega) (by omega)] at h2
   rw [Nat.zero_add] at h3
   have hk:k<R.length:=(List.getElem?_eq_some_iff.1 hr1).1
   have hE2:((E.map fun a=>(a.1,iM c r a.2))++[(c,r)]).map (·.2)=(E.map (·.2)).map (iM c r)++[r]:=by simp [List.map_map,Function.comp_def]
   refine hstep (E.map (fun a=>(a.1,iM c r a.2))++[(c,r)]) ((R.set k 0).map (iM c r)) (hI.step hrm h2 ?_ ?_) (by simp;omega) (by simpa using hl) ?_ ?_ ?_
   ·intro y hy
    obtain ⟨x,hx,rfl⟩:=List.mem_map.1 hy
    rcases List.mem_or_eq_of_mem_set hx with hx|rfl
    ·exact .inr ⟨x,hx,rfl⟩
    ·exact .inl (by unfold iM;simp)
   ·intro x hx
    obtain ⟨j,hj⟩:=List.getElem?_of_mem hx
    by_cases hjk:k=j
    ·subst hjk;rw [hr1] at hj;exact .inl (Option.some.inj hj).symm
    ·refine .inr (List.mem_map.2 ⟨x,List.mem_of_getElem? (i:=j) ?_,rfl⟩)
     rw [List.getElem?_set,if_neg hjk,hj]
   ·intro y hy
    obtain ⟨x,hx,rfl⟩:=List.mem_map.1 hy
    refine aa8 hrb ?_
    rcases List.mem_or_eq_of_mem_set hx with hx|rfl
    ·exact hR x hx
    ·exact Nat.two_pow_pos m
   ·intro a ha
    rcases List.mem_append.1 ha with ha|ha
    ·obtain ⟨b,hb,rfl⟩:=List.mem_map.1 ha
     exact aa8 hrb (hEb b hb)
    ·simp only [List.mem_singleton] at ha;subst ha;exact hrb
   ·have e1:=Nl c r (by omega) (by omega) (R.set k 0) (fun x hx=>by
     rcases List.mem_or_eq_of_mem_set hx with hx|rfl
     ·have:=hR x hx;omega
     ·decide) (by simpa using hl)
    have e2:aR (mJ (c:Int) (r:Int)) (0,up (E.map (·.2)))=some (up ((E.map (·.2)).map (iM c r))):=by
     rw [Yo]
     exact Nl c r (by omega) (by omega) (E.map (·.2)) (fun x hx=>by
     obtain ⟨a,ha,rfl⟩:=List.mem_map.1 hx
     have:=hEb a ha
     omega) (by simp;omega)
    unfold eX
    rw [Tre.aG]
    show cond (decide ((c:Int)<(m:Int))) _ _=_
    rw [hdec,cond_true,ah (hfind.trans (by rw [h3])),Tre.aG]
    rw [show decide ((k:Int)<0)=false from by simp,cond_false,dF h1,dF h1,Int.toNat_natCast]
    rw [show (up R).set k 0=up (R.set k 0) from Xl R k 0,ah e1,ah e2]
    rw [Tre.run_ite,if_pos (by unfold bO;rw [Hy];simp;omega),Tre.aK,hw,hE2]
    simp [up]
theorem ac0(p0:Int)(p1:List Int)(y:List Int)(h:axL p0 p1=some y):Wt p0 p1=some y:=by
 obtain ⟨hl,rfl⟩:=Ao h
 rw [Bool.and_eq_true,kF] at hl
 obtain ⟨m,rfl⟩:∃m:Nat,p0=(m:Int):=⟨p0.toNat,by omega⟩
 obtain ⟨ns,rfl,hlen,hb,hn⟩:=aeM hl.2
 rw [Int.toNat_natCast] at hb
 obtain ⟨E,h1,h2⟩:=Nq m (by omega) ns m 0 [] ns (by omega) (Inv.start ns) (Nat.zero_le _) hlen hb (fun a ha=>by cases ha)
 unfold Wt RH
 have e1:gH (up ns)=some (up ns):=KF (by rw [Hy];exact hlen)
 have h1:aR (eX (m:Int)) (0,up ns,[])=some (up E):=h1
 rw [ah e1,ah h1]
 unfold adY
 rw [hn,arN h2]
 rfl
def fO:Env:=⟨tau,[(108,D8),(114,aks)],[]⟩
def iF:Code:=(Tryz.f80.body).getD .skip
def Af (h8_0_0:Int) (h8_0_1:Int) (h8_0_4:List Int) (h8_0_5:List Int):(Int×Int)→St:=fun x=>bR [(0,(.imm true (.int .i64) h8_0_0)),(5,(.ref (7,0) [])),(6,(.ref (8,0) [])),(7,(.imm true (.int .i64) h8_0_1)),(8,(.imm true (.int .i64) x.1)),(9,(.imm true (.int .i64) x.2))] [((7,0),some ⟨false,(.sl (.int .i64)),.own,h8_0_4⟩),((8,0),some ⟨false,(.sl (.int .i64)),.own,h8_0_5⟩)]
def yN (h8_0_0:Int) (h8_0_1:Int) (h8_0_4:List Int) (h8_0_5:List Int):Int→Ex×St:=fun x=>(.exit 2,bR [(0,(.imm true (.int .i64) h8_0_0)),(5,(.ref (7,0) [])),(6,(.ref (8,0) [])),(7,(.imm true (.int .i64) h8_0_1)),(8,(.imm true (.int .i64) x))] [((7,0),some ⟨false,(.sl (.int .i64)),.own,h8_0_4⟩),((8,0),some ⟨false,(.sl (.int .i64)),.own,h8_0_5⟩)])
def Np (s:St):Tre (Ex×St):=
 aC true (.int .i64) (s.tmps 0) fun d2=>
 dz (7,0) [] (s.tmps 5)<|
 dz (8,0) [] (s.tmps 6)<|
 aC true (.int .i64) (s.tmps 7) fun d6=>
 aC true (.int .i64) (s.tmps 8) fun d8=>
 aC true (.int .i64) (s.tmps 9) fun d10=>
 bD false (.sl (.int .i64)) (s.roots (7,0)) fun m12 d13=>
 asM .own m12<|
 bD false (.sl (.int .i64)) (s.roots (8,0)) fun m15 d16=>
 asM .own m15<|
 .mat (aR (jL d6 d13) (d8,d10)) fun x=>.ret (yN d2 d6 d13 d16 x)
def lg:bK:=⟨([0,5,6,7,8,9],[(7,0),(8,0)]),([0,5,6,7,8],[(7,0),(8,0)]),Np⟩
def yK (h16_0_0:Int) (h16_0_1:Int) (h16_0_2:Int) (h16_0_5:List Int):(Int×(List Int))→St:=fun x=>bR [(0,(.imm true (.int .i64) h16_0_0)),(5,(.ref (7,0) [])),(6,(.ref (8,0) [])),(7,(.imm true (.int .i64) h16_0_1)),(10,(.imm true (.int .i64) h16_0_2)),(11,(.imm true (.int .i64) x.1))] [((7,0),some ⟨false,(.sl (.int .i64)),.own,x.2⟩),((8,0),some ⟨false,(.sl (.int .i64)),.own,h16_0_5⟩)]
def wN (h16_0_0:Int) (h16_0_1:Int) (h16_0_2:Int) (h16_0_5:List Int):(List Int)→Ex×St:=fun x=>(.exit 4,bR [(0,(.imm true (.int .i64) h16_0_0)),(5,(.ref (7,0) [])),(6,(.ref (8,0) [])),(7,(.imm true (.int .i64) h16_0_1)),(10,(.imm true (.int .i64) h16_0_2))] [((7,0),some ⟨false,(.sl (.int .i64)),.own,x⟩),((8,0),some ⟨false,(.sl (.int .i64)),.own,h16_0_5⟩)])
def KZ (s:St):Tre (Ex×St):=
 aC true (.int .i64) (s.tmps 0) fun d2=>
 dz (7,0) [] (s.tmps 5)<|
 dz (8,0) [] (s.tmps 6)<|
 aC true (.int .i64) (s.tmps 7) fun d6=>
 aC true (.int .i64) (s.tmps 10) fun d8=>
 aC true (.int .i64) (s.tmps 11) fun d10=>
 bD false (.sl (.int .i64)) (s.roots (7,0)) fun m12 d13=>
 asM .own m12<|
 bD false (.sl (.int .i64)) (s.roots (8,0)) fun m15 d16=>
 asM .own m15<|
 .mat (aR (gy d6 d8) (d10,d13)) fun x=>.ret (wN d2 d6 d8 d16 x)
def j4:bK:=⟨([0,5,6,7,10,11],[(7,0),(8,0)]),([0,5,6,7,10],[(7,0),(8,0)]),KZ⟩
def yL (h21_0_0:Int) (h21_0_1:Int) (h21_0_2:Int) (h21_0_4:List Int):(Int×(List Int))→St:=fun x=>bR [(0,(.imm true (.int .i64) h21_0_0)),(5,(.ref (7,0) [])),(6,(.ref (8,0) [])),(7,(.imm true (.int .i64) h21_0_1)),(10,(.imm true (.int .i64) h21_0_2)),(12,(.imm true (.int .i64) x.1))] [((7,0),some ⟨false,(.sl (.int .i64)),.own,h21_0_4⟩),((8,0),some ⟨false,(.sl (.int .i64)),.own,x.2⟩)]
def wO (h21_0_0:Int) (h21_0_1:Int) (h21_0_2:Int) (h21_0_4:List Int):(List Int)→Ex×St:=fun x=>(.exit 6,bR [(0,(.imm true (.int .i64) h21_0_0)),(5,(.ref (7,0) [])),(6,(.ref (8,0) [])),(7,(.imm true (.int .i64) h21_0_1)),(10,(.imm true (.int .i64) h21_0_2))] [((7,0),some ⟨false,(.sl (.int .i64)),.own,h21_0_4⟩),((8,0),some ⟨false,(.sl (.int .i64)),.own,x⟩)])
def K3 (s:St):Tre (Ex×St):=
 aC true (.int .i64) (s.tmps 0) fun d2=>
 dz (7,0) [] (s.tmps 5)<|
 dz (8,0) [] (s.tmps 6)<|
 aC true (.int .i64) (s.tmps 7) fun d6=>
 aC true (.int .i64) (s.tmps 10) fun d8=>
 aC true (.int .i64) (s.tmps 12) fun d10=>
 bD false (.sl (.int .i64)) (s.roots (7,0)) fun m12 d13=>
 asM .own m12<|
 bD false (.sl (.int .i64)) (s.roots (8,0)) fun m15 d16=>
 asM .own m15<|
 .mat (aR (mJ d6 d8) (d10,d16)) fun x=>.ret (wO d2 d6 d8 d13 x)
def j5:bK:=⟨([0,5,6,7,10,12],[(7,0),(8,0)]),([0,5,6,7,10],[(7,0),(8,0)]),K3⟩
def Ae (h4_0_0:Int):(Int×(List Int)×(List Int))→St:=fun x=>bR [(0,(.imm true (.int .i64) h4_0_0)),(5,(.ref (7,0) [])),(6,(.ref (8,0) [])),(7,(.imm true (.int .i64) x.1))] [((7,0),some ⟨false,(.sl (.int .i64)),.own,x.2.1⟩),((8,0),some ⟨false,(.sl (.int .i64)),.own,x.2.2⟩)]
def yM (_h4_0_0:Int):(List Int)→Ex×St:=fun x=>(.exit 0,bR [(6,(.ref (8,0) []))] [((8,0),some ⟨false,(.sl (.int .i64)),.own,x⟩)])
def Nn (s:St):Tre (Ex×St):=
 aC true (.int .i64) (s.tmps 0) fun d2=>
 dz (7,0) [] (s.tmps 5)<|
 dz (8,0) [] (s.tmps 6)<|
 aC true (.int .i64) (s.tmps 7) fun d6=>
 bD false (.sl (.int .i64)) (s.roots (7,0)) fun m8 d9=>
 asM .own m8<|
 bD false (.sl (.int .i64)) (s.roots (8,0)) fun m11 d12=>
 asM .own m11<|
 .mat (aR (eX d2) (d6,d9,d12)) fun x=>.ret (yM d2 x)
def kZ:bK:=⟨([0,5,6,7],[(7,0),(8,0)]),([6],[(8,0)]),Nn⟩
def iE:List (Nat×bK):=[(8,lg),(16,j4),(21,j5),(4,kZ)]
theorem Wy:∀(h8_0_0:Int)(h8_0_1:Int)(h8_0_4:List Int)(h8_0_5:List Int)(x:(Int×Int))(c:St→Option (Ex×St)),den fO iE (aY iF 1) (Af h8_0_0 h8_0_1 h8_0_4 h8_0_5 x) (bU lg.kp lg.kx c)=(jL h8_0_1 h8_0_4 x).run (bV (Af h8_0_0 h8_0_1 h8_0_4 h8_0_5) (yN h8_0_0 h8_0_1 h8_0_4 h8_0_5) c):=fun _ _ _ _ _ _=>by
 kernel_rfl
theorem aaI:bS fO iE (aY iF 1) lg:=bA fun s e s' h=>by
 generalize hs:restrict lg.kp s=s1 at h
 have h:(Np s1).run some=some (e,s'):=h
 obtain ⟨d2,e1,h_0⟩:=ak h
 obtain ⟨e3,h_1⟩:=bf h_0
 obtain ⟨e4,h_2⟩:=bf h_1
 obtain ⟨d6,e5,h_3⟩:=ak h_2
 obtain ⟨d8,e7,h_4⟩:=ak h_3
 obtain ⟨d10,e9,h_5⟩:=ak h_4
 obtain ⟨m12,d13,e11,h_6⟩:=aH h_5
 obtain ⟨rfl,h_7⟩:=aQ h_6
 obtain ⟨m15,d16,e14,h_8⟩:=aH h_7
 obtain ⟨rfl,h_9⟩:=aQ h_8
 obtain ⟨y,hy,hz⟩:=bT h_9
 refine ⟨_,_,Af d2 d6 d13 d16,yN d2 d6 d13 d16,jL d6 d13,(d8,d10),y,?_,hy,?_,Wy d2 d6 d13 d16⟩
 ·subst hs;exact aT (T:=[(0,(.imm true (.int .i64) d2)),(5,(.ref (7,0) [])),(6,(.ref (8,0) [])),(7,(.imm true (.int .i64) d6)),(8,(.imm true (.int .i64) d8)),(9,(.imm true (.int .i64) d10))]) (U:=[((7,0),some ⟨false,(.sl (.int .i64)),.own,d13⟩),((8,0),some ⟨false,(.sl (.int .i64)),.own,d16⟩)]) rfl rfl ⟨e1,e3,e4,e5,e7,e9,trivial⟩ ⟨e11,e14,trivial⟩
 ·exact Option.some.inj hz
theorem Un:∀(h16_0_0:Int)(h16_0_1:Int)(h16_0_2:Int)(h16_0_5:List Int)(x:(Int×(List Int)))(c:St→Option (Ex×St)),den fO iE (aY iF 2) (yK h16_0_0 h16_0_1 h16_0_2 h16_0_5 x) (bU j4.kp j4.kx c)=(gy h16_0_1 h16_0_2 x).run (bV (yK h16_0_0 h16_0_1 h16_0_2 h16_0_5) (wN h16_0_0 h16_0_1 h16_0_2 h16_0_5) c):=fun _ _ _ _ _ _=>by
 kernel_rfl
theorem Yn:bS fO iE (aY iF 2) j4:=bA fun s e s' h=>by
 generalize hs:restrict j4.kp s=s1 at h
 have h:(KZ s1).run some=some (e,s'):=h
 obtain ⟨d2,e1,h_0⟩:=ak h
 obtain ⟨e3,h_1⟩:=bf h_0
 obtain ⟨e4,h_2⟩:=bf h_1
 obtain ⟨d6,e5,h_3⟩:=ak h_2
 obtain ⟨d8,e7,h_4⟩:=ak h_3
 obtain ⟨d10,e9,h_5⟩:=ak h_4
 obtain ⟨m12,d13,e11,h_6⟩:=aH h_5
 obtain ⟨rfl,h_7⟩:=aQ h_6
 obtain ⟨m15,d16,e14,h_8⟩:=aH h_7
 obtain ⟨rfl,h_9⟩:=aQ h_8
 obtain ⟨y,hy,hz⟩:=bT h_9
 refine ⟨_,_,yK d2 d6 d8 d16,wN d2 d6 d8 d16,gy d6 d8,(d10,d13),y,?_,hy,?_,Un d2 d6 d8 d16⟩
 ·subst hs;exact aT (T:=[(0,(.imm true (.int .i64) d2)),(5,(.ref (7,0) [])),(6,(.ref (8,0) [])),(7,(.imm true (.int .i64) d6)),(10,(.imm true (.int .i64) d8)),(11,(.imm true (.int .i64) d10))]) (U:=[((7,0),some ⟨false,(.sl (.int .i64)),.own,d13⟩),((8,0),some ⟨false,(.sl (.int .i64)),.own,d16⟩)]) rfl rfl ⟨e1,e3,e4,e5,e7,e9,trivial⟩ ⟨e11,e14,trivial⟩
 ·exact Option.some.inj hz
theorem Uo:∀(h21_0_0:Int)(h21_0_1:Int)(h21_0_2:Int)(h21_0_4:List Int)(x:(Int×(List Int)))(c:St→Option (Ex×St)),den fO iE (aY iF 3) (yL h21_0_0 h21_0_1 h21_0_2 h21_0_4 x) (bU j5.kp j5.kx c)=(mJ h21_0_1 h21_0_2 x).run (bV (yL h21_0_0 h21_0_1 h21_0_2 h21_0_4) (wO h21_0_0 h21_0_1 h21_0_2 h21_0_4) c):=fun _ _ _ _ _ _=>by
 kernel_rfl
theorem Yp:bS fO iE (aY iF 3) j5:=bA fun s e s' h=>by
 generalize hs:restrict j5.kp s=s1 at h
 have h:(K3 s1).run some=some (e,s'):=h
 obtain ⟨d2,e1,h_0⟩:=ak h
 obtain ⟨e3,h_1⟩:=bf h_0
 obtain ⟨e4,h_2⟩:=bf h_1
 obtain ⟨d6,e5,h_3⟩:=ak h_2
 obtain ⟨d8,e7,h_4⟩:=ak h_3
 obtain ⟨d10,e9,h_5⟩:=ak h_4
 obtain ⟨m12,d13,e11,h_6⟩:=aH h_5
 obtain ⟨rfl,h_7⟩:=aQ h_6
 obtain ⟨m15,d16,e14,h_8⟩:=aH h_7
 obtain ⟨rfl,h_9⟩:=aQ h_8
 obtain ⟨y,hy,hz⟩:=bT h_9
 refine ⟨_,_,yL d2 d6 d8 d13,wO d2 d6 d8 d13,mJ d6 d8,(d10,d16),y,?_,hy,?_,Uo d2 d6 d8 d13⟩
 ·subst hs;exact aT (T:=[(0,(.imm true (.int .i64) d2)),(5,(.ref (7,0) [])),(6,(.ref (8,0) [])),(7,(.imm true (.int .i64) d6)),(10,(.imm true (.int .i64) d8)),(12,(.imm true (.int .i64) d10))]) (U:=[((7,0),some ⟨false,(.sl (.int .i64)),.own,d13⟩),((8,0),some ⟨false,(.sl (.int .i64)),.own,d16⟩)]) rfl rfl ⟨e1,e3,e4,e5,e7,e9,trivial⟩ ⟨e11,e14,trivial⟩
 ·exact Option.some.inj hz
theorem Wx:∀(h4_0_0:Int)(x:(Int×(List Int)×(List Int)))(c:St→Option (Ex×St)),den fO iE (aY iF 0) (Ae h4_0_0 x) (bU kZ.kp kZ.kx c)=(eX h4_0_0 x).run (bV (Ae h4_0_0) (yM h4_0_0) c):=fun _ _ _=>by
 kernel_rfl
theorem aaH:bS fO iE (aY iF 0) kZ:=bA fun s e s' h=>by
 generalize hs:restrict kZ.kp s=s1 at h
 have h:(Nn s1).run some=some (e,s'):=h
 obtain ⟨d2,e1,h_0⟩:=ak h
 obtain ⟨e3,h_1⟩:=bf h_0
 obtain ⟨e4,h_2⟩:=bf h_1
 obtain ⟨d6,e5,h_3⟩:=ak h_2
 obtain ⟨m8,d9,e7,h_4⟩:=aH h_3
 obtain ⟨rfl,h_5⟩:=aQ h_4
 obtain ⟨m11,d12,e10,h_6⟩:=aH h_5
 obtain ⟨rfl,h_7⟩:=aQ h_6
 obtain ⟨y,hy,hz⟩:=bT h_7
 refine ⟨_,_,Ae d2,yM d2,eX d2,(d6,d9,d12),y,?_,hy,?_,Wx d2⟩
 ·subst hs;exact aT (T:=[(0,(.imm true (.int .i64) d2)),(5,(.ref (7,0) [])),(6,(.ref (8,0) [])),(7,(.imm true (.int .i64) d6))]) (U:=[((7,0),some ⟨false,(.sl (.int .i64)),.own,d9⟩),((8,0),some ⟨false,(.sl (.int .i64)),.own,d12⟩)]) rfl rfl ⟨e1,e3,e4,e5,trivial⟩ ⟨e7,e10,trivial⟩
 ·exact Option.some.inj hz
def Wv:FnI:=⟨iF,Tryz.f80.results.toList,Tryz.f80.resultTypes.toList,iE⟩
def Qi (_zp0:Bool) (_p0:Int) (_p1:List Int):(List Int)→aB:=fun r=>⟨(.ref (1,0) []),[],[⟨false,(.sl (.int .i64)),.own,r⟩]⟩
theorem ahR:∀(zp0:Bool)(p0:Int)(p1:List Int),bN fO Wv ⟨[(.imm true (.int .i64) p0),(.imm zp0 (.sl (.int .i64)) p1)],[]⟩=(RH p0 p1).run fun r=>some (Qi zp0 p0 p1 r):=fun _ _ _=>by kernel_rfl
def Wu (av:List AV) (rs:List Root):Tre aB:=
 aJ av fun a0_ av0=>
 aJ av0 fun a1_ av1=>
 aU av1<|
 aU rs<|
 aC true (.int .i64) a0_ fun d1=>
 bE (.sl (.int .i64)) a1_ fun z3 d2=>
 .mat (axL d1 d2) fun r=>.ret (Qi z3 d1 d2 r)
def Ww:Ctr:=⟨[],fun ci=>Wu ci.args ci.roots,false⟩
theorem ae3:bM Tryz.prog .none fO:=(aA F9 ad1 (aA aqM az4 aN))
theorem ahS:Contract Tryz.prog .none 80 Ww:=by
 have hl:aZ fO iE iF:=(bC (n:=4) (by kernel_rfl) fun k hk=>by
   match k,hk with
   |0,_=>exact bq (id:=4) (L:=kZ) (by kernel_rfl) (by kernel_rfl) aaH
   |1,_=>exact bq (id:=8) (L:=lg) (by kernel_rfl) (by kernel_rfl) aaI
   |2,_=>exact bq (id:=16) (L:=j4) (by kernel_rfl) (by kernel_rfl) Yn
   |3,_=>exact bq (id:=21) (L:=j5) (by kernel_rfl) (by kernel_rfl) Yp)
 refine (aI (F:=Wv) bg ae3 Tryz.func80 (by kernel_rfl) (by kernel_rfl) (by kernel_rfl) hl []).weaken ?_
 rintro ⟨av,rs⟩ co h
 have h:(Wu av rs).run some=some co:=h
 obtain ⟨a0_,av0,rfl,h_0⟩:=au h
 obtain ⟨a1_,av1,rfl,h_1⟩:=au h_0
 obtain ⟨rfl,h_2⟩:=ay h_1
 obtain ⟨rfl,h_3⟩:=ay h_2
 obtain ⟨d1,rfl,h_4⟩:=ak h_3
 obtain ⟨z3,d2,rfl,h_5⟩:=aD h_4
 exact xg (ahR z3 d1 d2) (ac0 d1 d2) h_5
def ae4 (p0:Int) (p1:List Int):Tre Int:=
 .mat (axL p0 p1) fun r1=>
 .ret (r1.length:Int)
def agy (p0:Int) (p1:List Int):Option Int:=(ae4 p0 p1).run some
def amW (m:Int) (xs:List Int):Option Int:=ak1 (inR m 0 62&&KH m.toNat xs) ((adY xs).length:Int)
theorem akt(p0:Int)(p1:List Int)(y:Int)(h:amW p0 p1=some y):agy p0 p1=some y:=by
 obtain ⟨hl,rfl⟩:=Ao h
 unfold agy ae4
 rw [ah (show axL p0 p1=some _ from pV hl)]
 rfl
def Wz:Env:=⟨tau,[(80,Ww)],[]⟩
def agB:Code:=(Tryz.f85.body).getD .skip
def agA:FnI:=⟨agB,Tryz.f85.results.toList,Tryz.f85.resultTypes.toList,[]⟩
def Zi (_zp0:Bool) (_p0:Int) (_p1:List Int):Int→aB:=fun r=>⟨(.imm true (.int .i64) r),[],[]⟩
theorem aow:∀(zp0:Bool)(p0:Int)(p1:List Int),bN Wz agA ⟨[(.imm true (.int .i64) p0),(.imm zp0 (.sl (.int .i64)) p1)],[]⟩=(ae4 p0 p1).run fun r=>some (Zi zp0 p0 p1 r):=fun _ _ _=>by kernel_rfl
def agz (av:List AV) (rs:List Root):Tre aB:=
 aJ av fun a0_ av0=>
 aJ av0 fun a1_ av1=>
 aU av1<|
 aU rs<|
 aC true (.int .i64) a0_ fun d1=>
 bE (.sl (.int .i64)) a1_ fun z3 d2=>
 .mat (amW d1 d2) fun r=>.ret (Zi z3 d1 d2 r)
def WA:Ctr:=⟨[],fun ci=>agz ci.args ci.roots,false⟩
theorem alJ:bM Tryz.prog .none Wz:=(aA ahS aBD aN)
theorem ac1:Contract Tryz.prog .none 85 WA:=by
 have hl:aZ Wz [] agB:=bB (by kernel_rfl)
 refine (aI (F:=agA) bg alJ Tryz.func85 (by kernel_rfl) (by kernel_rfl) (by kernel_rfl) hl []).weaken ?_
 rintro ⟨av,rs⟩ co h
 have h:(agz av rs).run some=some co:=h
 obtain ⟨a0_,av0,rfl,h_0⟩:=au h
 obtain ⟨a1_,av1,rfl,h_1⟩:=au h_0
 obtain ⟨rfl,h_2⟩:=ay h_1
 obtain ⟨rfl,h_3⟩:=ay h_2
 obtain ⟨d1,rfl,h_4⟩:=ak h_3
 obtain ⟨z3,d2,rfl,h_5⟩:=aD h_4
 exact xg (aow z3 d1 d2) (akt d1 d2) h_5
def RU (p0:aM):Tre Bool:=
 .mat (D9 p0.1) fun r1=>
 .cond r1
  (.mat (NM p0.1 p0.2.1) fun r2=>
  .cond r2
   (.mat (amW p0.1.1 p0.2.1) fun r3=>
   .cond (decide (r3=(p0.2.1.length:Int)))
    (let v4:=inR p0.2.2.1 1 (p0.2.1.length:Int)
    .ret v4)
    (.ret false))
   (.ret false))
  (.ret false)
def Cw (p0:aM):Option Bool:=(RU p0).run some
def Lr:Env:=⟨tau,[(83,XK),(84,ag1),(85,WA),(86,D6)],[]⟩
def Xd:Code:=(Tryz.f53.body).getD .skip
def Xc:FnI:=⟨Xd,Tryz.f53.results.toList,Tryz.f53.resultTypes.toList,[]⟩
def Qs (zp0:Bool) (p0:aM):Bool→aB:=fun r=>⟨(.imm true .bool r),[⟨true,aX,(.imm zp0),p0⟩],[]⟩
theorem ah1:∀(zp0:Bool)(p0:aM),bN Lr Xc ⟨[(.ptr (0,0) [])],[⟨true,aX,(.imm zp0),p0⟩]⟩=(RU p0).run fun r=>some (Qs zp0 p0 r):=fun _ _=>by kernel_rfl
def Xb (av:List AV) (rs:List Root):Tre aB:=
 aJ av fun a0_ av0=>
 aU av0<|
 aJ rs fun r0_ rs0=>
 aU rs0<|
 dU (0,0) [] a0_<|
 Js true aX r0_ fun m1 d2=>
 vQ m1 fun z3=>
 .mat (Cw d2) fun r=>.ret (Qs z3 d2 r)
def Xe:Ctr:=⟨[],fun ci=>Xb ci.args ci.roots,false⟩
theorem afq:bM Tryz.prog .none Lr:=(aA aaE av4 (aA aoM aBE (aA ac1 azm (aA D7 amr aN))))
theorem ah2:Contract Tryz.prog .none 53 Xe:=by
 have hl:aZ Lr [] Xd:=bB (by kernel_rfl)
 refine (aI (F:=Xc) bg afq Tryz.func53 (by kernel_rfl) (by kernel_rfl) (by kernel_rfl) hl []).weaken ?_
 rintro ⟨av,rs⟩ co h
 have h:(Xb av rs).run some=some co:=h
 obtain ⟨a0_,av0,rfl,h_0⟩:=au h
 obtain ⟨rfl,h_1⟩:=ay h_0
 obtain ⟨r0_,rs0,rfl,h_2⟩:=au h_1
 obtain ⟨rfl,h_3⟩:=ay h_2
 obtain ⟨rfl,h_4⟩:=bF h_3
 obtain ⟨m1,d2,rfl,h_5⟩:=eY h_4
 obtain ⟨z3,rfl,h_6⟩:=fH h_5
 exact bJ (ah1 z3 d2) h_6
-- shared
def aA4:Nat→Nat→Nat→Nat
 |0,_,_=>0
 |n+1,a,b=>Nat.xor (bif Nat.beq (b%2) 1 then a else 0) (aA4 n (2*a) (b/2))
def azP:Nat→Nat→Nat→Nat
 |0,c,_=>c
 |n+1,c,p=>bif Nat.ble (Nat.log2 p) (Nat.log2 c) then azP n (Nat.xor c (Nat.shiftLeft p (Nat.log2 c-Nat.log2 p))) p else c
def mulN(p a b:Nat):Nat:=azP 6 (aA4 6 a b) p
def gu(f:TF3)(a b:Int):Int:=((mulN f.2.1.toNat a.toNat b.toNat:Nat):Int)
def inF(f:TF3)(a:Int):Prop:=0≤a∧a<((2 ^ f.1.toNat:Nat):Int)
def jm:List (Nat×Nat):=[(1,2),(1,3),(2,7),(3,11),(3,13),(4,19),(4,25),(4,31),(5,37),(5,41),(5,47),(5,55),(5,59),(5,61)]
def Bh(F:TF3→Int→Int→Option Int)(G:Nat→Nat→Nat→Nat)(d p:Nat):Bool:=(List.range (2 ^ d)).all fun a=>(List.range (2 ^ d)).all fun b=>F ((d:Int),(p:Int),()) (a:Int) (b:Int) == some ((G p a b:Nat):Int)
theorem Dq{f:TF3}(h:aO f=true):∃d p:Nat,(d,p)∈jm∧f=((d:Int),(p:Int),()):=by
 have h1:=UF h
 obtain ⟨a,b,⟨⟩⟩:=f
 have key:∀x∈aiU,∃q∈jm,x=((q.1:Int),(q.2:Int)):=by decide
 obtain ⟨q,h2,h3⟩:=key _ h1
 simp only [Prod.mk.injEq] at h3
 exact ⟨q.1,q.2,h2,by rw [h3.1,h3.2]⟩
theorem axv{F:TF3→Int→Int→Option Int}{G:Nat→Nat→Nat→Nat}(h:∀q∈jm,Bh F G q.1 q.2=true){f:TF3}(hf:aO f=true){a b:Int}(ha:inF f a)(hb:inF f b):F f a b=some ((G f.2.1.toNat a.toNat b.toNat:Nat):Int):=by
 obtain ⟨d,p,hq,rfl⟩:=Dq hf
 obtain ⟨ha0,ha1⟩:=ha
 obtain ⟨hb0,hb1⟩:=hb
 simp only [Int.toNat_natCast] at ha1 hb1
 obtain ⟨m,rfl⟩:=Int.eq_ofNat_of_zero_le ha0
 obtain ⟨n,rfl⟩:=Int.eq_ofNat_of_zero_le hb0
 have h1:=List.all_eq_true.1 (List.all_eq_true.1 (h _ hq) m (List.mem_range.2 (by exact_mod_cast ha1))) n (List.mem_range.2 (by exact_mod_cast hb1))
 exact eq_of_beq h1
-- shared
def aBS(p a:Nat):Nat→Nat
 |0=>1
 |n+1=>mulN p (aBS p a n) a
def uU(d p a:Nat):Nat:=aBS p a (2 ^ d-2)
def Bc(f:TF3)(a:Int):Int:=((uU f.1.toNat f.2.1.toNat a.toNat:Nat):Int)
def Bg(F:TF3→Int→Option Int)(G:Nat→Nat→Nat→Nat)(d p:Nat):Bool:=(List.range (2 ^ d)).all fun a=>F ((d:Int),(p:Int),()) (a:Int) == some ((G d p a:Nat):Int)
theorem awT{F:TF3→Int→Option Int}{G:Nat→Nat→Nat→Nat}(h:∀q∈jm,Bg F G q.1 q.2=true){f:TF3}(hf:aO f=true){a:Int}(ha:inF f a):F f a=some ((G f.1.toNat f.2.1.toNat a.toNat:Nat):Int):=by
 obtain ⟨d,p,hq,rfl⟩:=Dq hf
 obtain ⟨ha0,ha1⟩:=ha
 simp only [Int.toNat_natCast] at ha1
 obtain ⟨m,rfl⟩:=Int.eq_ofNat_of_zero_le ha0
 have h1:=List.all_eq_true.1 (h _ hq) m (List.mem_range.2 (by exact_mod_cast ha1))
 exact eq_of_beq h1
def awJ(d p:Nat):Bool:=(List.range (2 ^ d)).all fun a=>(List.range (2 ^ d)).all fun b=>Nat.blt (mulN p a b) (2 ^ d)&&Nat.beq (mulN p a b) (mulN p b a)
def awv(d p:Nat):Bool:=(List.range (2 ^ d)).all fun a=>Nat.blt (uU d p a) (2 ^ d)&&(Nat.beq a 0||Nat.beq (mulN p a (uU d p a)) 1)
theorem acg:(jm.all fun q=>awJ q.1 q.2)=true:=by kernel_rfl
theorem abR:(jm.all fun q=>awv q.1 q.2)=true:=by kernel_rfl
theorem DW{f:TF3}(hf:aO f=true){a b:Int}(ha:inF f a)(hb:inF f b):inF f (gu f a b)∧gu f a b=gu f b a:=by
 obtain ⟨d,p,hq,rfl⟩:=Dq hf
 obtain ⟨ha0,ha1⟩:=ha
 obtain ⟨hb0,hb1⟩:=hb
 simp only [Int.toNat_natCast] at ha1 hb1
 obtain ⟨m,rfl⟩:=Int.eq_ofNat_of_zero_le ha0
 obtain ⟨n,rfl⟩:=Int.eq_ofNat_of_zero_le hb0
 have h0:=List.all_eq_true.1 acg _ hq
 have h1:=List.all_eq_true.1 (List.all_eq_true.1 h0 m (List.mem_range.2 (by exact_mod_cast ha1))) n (List.mem_range.2 (by exact_mod_cast hb1))
 rw [Bool.and_eq_true] at h1
 have h2:mulN p m n<2 ^ d:=Nat.le_of_ble_eq_true h1.1
 have h3:mulN p m n=mulN p n m:=Nat.eq_of_beq_eq_true h1.2
 refine ⟨⟨Int.natCast_nonneg _,?_⟩,?_⟩
 ·show ((mulN p m n:Nat):Int)<_
  simp only [Int.toNat_natCast]
  exact_mod_cast h2
 ·show ((mulN p m n:Nat):Int)=((mulN p n m:Nat):Int)
  rw [h3]
theorem wD{f:TF3}(hf:aO f=true){a:Int}(ha:inF f a):inF f (Bc f a)∧(a≠0→gu f a (Bc f a)=1):=by
 obtain ⟨d,p,hq,rfl⟩:=Dq hf
 obtain ⟨ha0,ha1⟩:=ha
 simp only [Int.toNat_natCast] at ha1
 obtain ⟨m,rfl⟩:=Int.eq_ofNat_of_zero_le ha0
 have h0:=List.all_eq_true.1 abR _ hq
 have h1:=List.all_eq_true.1 h0 m (List.mem_range.2 (by exact_mod_cast ha1))
 rw [Bool.and_eq_true,Bool.or_eq_true] at h1
 have h2:uU d p m<2 ^ d:=Nat.le_of_ble_eq_true h1.1
 refine ⟨⟨Int.natCast_nonneg _,?_⟩,fun hne=>?_⟩
 ·show ((uU d p m:Nat):Int)<_
  simp only [Int.toNat_natCast]
  exact_mod_cast h2
 ·rcases h1.2 with h|h
  ·exact absurd (by rw [Nat.eq_of_beq_eq_true h];rfl) hne
  ·show ((mulN p m (uU d p m):Nat):Int)=1
   rw [Nat.eq_of_beq_eq_true h];rfl
-- shared
def adJ(f:TF3)(u w:List Int)(x:Int):List Int:=(u.zip w).map fun p=>jJ .i64 p.1 (gu f p.2 x)
theorem ad3{α β γ:Type}(g:α→γ)(fin:List γ→β):∀(l:List α)(i:Nat)(acc:List γ),qY (fun _ acc x=>(.inl (acc++[g x]):List γ ⊕ β)) fin i acc l=fin (acc++l.map g):=by
 intro l
 induction l with
 |nil=>intro i acc;simp only [qY,List.map_nil,List.append_nil]
 |cons y l ih=>intro i acc;simp only [qY];rw [ih];simp
end Go.Proofs.YtihiobjhogpmdaaGreat
