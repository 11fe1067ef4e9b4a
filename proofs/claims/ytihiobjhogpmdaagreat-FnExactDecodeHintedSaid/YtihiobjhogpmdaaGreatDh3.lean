/- Part 3 of the proof of FnExactDecodeHinted. -/
import Derived.WalkKit
import Derived.ProofKit
import Derived.OpenShut
import Derived.ShutString
import Derived.ChangeOld
import Derived.Below
import Derived.SizedLaws
import Derived.Carry
import Derived.IntWalk
import Derived.Deep.RegionLaw
import Derived.KernelRfl
import Derived.Sort.OwnSortedInts
import Derived.Lib.SlicesCompact
import Derived.Test.YtihiobjhogpmdaaGreatProg
import Derived.Test.YtihiobjhogpmdaaGreatDh2
set_option maxRecDepth 100000
noncomputable section
namespace Go.Abs
def cmb(rs:RF)(fs:List Root):RF:=fun q=>if q.1=1 then fs[q.2]? else rs q
structure Moved(w:World)(C0:Ctx)(rs0:RF)(C:Ctx)(rs:RF)(fs:List Root)(ks:List Kill):Prop where
 Z:C.Z=C0.Z
 S:C.S=C0.S
 pars:∀i,C.θ (par i)=C0.θ (par i)∧C.ρ (par i)=C0.ρ (par i)
 mem:Mem w C (cmb rs fs)
 leaf:∀b vs,b.eP=true→hit ks b=false→(∀q∈b.names,q.1≠1)→AVC w C0 rs0 b vs→AVC w C (cmb rs fs) b vs
 foot:∀q y b,cmb rs fs q=some y→C.F q b→∃q0 y0,rs0 q0=some y0∧C0.F q0 b
 ptr1:∀q y,cmb rs fs q=some y→∀p∈aY y.k y.d,p.1≠1
 rs1:∀i,rs (par i)=rs0 (par i)
structure Uv(w:World)(C:Ctx)(rs:RF)(fs:List Root)(ks:List Kill)(C':Ctx)(rs':RF)(fs':List Root)(ks':List Kill):Prop where
 leaf:∀b vs,b.eP=true→hit ks' b=false→(∀q∈b.names,q.1=1→q.2<fs.length)→AVC w C (cmb rs fs) b vs→AVC w C' (cmb rs' fs') b vs
 grow:fs.length≤fs'.length
 ks:∀b,hit ks' b=false→hit ks b=false
section
variable {P : Program} {V : Env} {w : World} {C0 C : Ctx} {rs0 rs : RF} {fs : List Root} {ks : List Kill}
variable {R' : Type} {r : R'}
theorem Uv.refl:Uv w C rs fs ks C rs fs ks:=⟨fun _ _ _ _ _ h=>h,Nat.le_refl _,fun _ h=>h⟩
theorem Uv.trans{C1 C2:Ctx}{rs1 rs2:RF}{fs1 fs2:List Root}{k1 k2:List Kill}(h:Uv w C rs fs ks C1 rs1 fs1 k1)(k:Uv w C1 rs1 fs1 k1 C2 rs2 fs2 k2):Uv w C rs fs ks C2 rs2 fs2 k2:=
 ⟨fun b vs hl hh hn hb=>k.leaf b vs hl hh (fun q hq h1=>Nat.lt_of_lt_of_le (hn q hq h1) h.grow) (h.leaf b vs hl (k.ks b hh) hn hb),Nat.le_trans h.grow k.grow,fun b hb=>h.ks b (k.ks b hb)⟩
theorem arW(xs:List Kill):∀(a:AV),∀q∈(AV.kills xs a).names,q∈a.names:=by
 intro a
 induction a with
 |pair a b iha ihb=>
  intro q hq
  rw [lG] at hq
  simp only [AV.names,List.mem_append] at hq ⊢
  exact hq.imp (iha q) (ihb q)
 |tcons a b iha ihb=>
  intro q hq
  rw [mh] at hq
  simp only [AV.names,List.mem_append] at hq ⊢
  exact hq.imp (iha q) (ihb q)
 |_=>
  intro q hq
  rw [fZ _ _ rfl] at hq
  cases hh:hit xs _ with
  |true=>rw [hh] at hq;cases hq
  |false=>rw [hh] at hq;exact hq
theorem AVC.awL{w':World}{C C':Ctx}{rs rs':RF}{xs:List Kill}{N:aB→Prop}
  (h:∀a vs,a.eP=true→hit xs a=false→(∀q∈a.names,N q)→AVC w C rs a vs→AVC w' C' rs' a vs):∀(a:AV)(vs:List Value),(∀q∈a.names,N q)→AVC w C rs a vs→AVC w' C' rs' (AV.kills xs a) vs:=by
 intro a
 induction a with
 |pair a b iha ihb=>
  intro vs hn hv
  obtain ⟨v1,v2,rfl,h1,h2⟩:=hv
  rw [lG]
  exact ⟨v1,v2,rfl,iha _ (fun q hq=>hn q (by simp [AV.names,hq])) h1,ihb _ (fun q hq=>hn q (by simp [AV.names,hq])) h2⟩
 |tcons a b=>intro vs _ hv;exact hv.elim
 |_=>
  intro vs hn hv
  rw [fZ _ _ rfl]
  cases hx:hit xs _ with
  |true=>trivial
  |false=>exact h _ _ rfl hx hn hv
theorem KL.awL{w':World}{C C':Ctx}{rs rs':RF}{xs:List Kill}{N:aB→Prop}
  (h:∀a vs,a.eP=true→hit xs a=false→(∀q∈a.names,N q)→AVC w C rs a vs→AVC w' C' rs' a vs) {v:Value} {a:AV} (hn:∀q∈a.names,N q) (hv:KL w C rs v a):KL w' C' rs' v (AV.kills xs a):=by
 rcases hv with rfl|⟨ha,vs,rfl,hv⟩|⟨ha,hv,hc⟩
 ·left;exact uQ xs
 ·right;left
  refine ⟨?_,vs,rfl,AVC.awL h _ _ hn hv⟩
  cases a with
  |pair a b=>rw [lG];rfl
  |imm z k d=>
   rw [fZ _ _ rfl]
   have:hit xs (.imm z k d)=false:=by simp only [hit,List.any_eq_false];intro x _;cases x<;>simp [Kill.hits]
   rw [this];exact ha
  |_=>simp [AV.agg] at ha
 ·have hl:a.eP=true:=by cases a<;>first|rfl|exact hv.elim|(simp [AV.agg] at ha;done)
  rw [fZ _ _ hl]
  cases hx:hit xs a with
  |true=>left;rfl
  |false=>right;right;exact ⟨ha,h _ _ hl hx hn hv,hc⟩
theorem anv{rs rs':RF}{k:K}{av:AV}(h:∀q∈av.names,rs' q=rs q)(c:List k.den→Mask→U→List Kill→List aB→Option R'):gK rs' k [] av c=gK rs k [] av c:=by
 cases av with
 |ref q p=>
  have:look rs' [] q=look rs [] q:=h q (by simp [AV.names])
  simp only [gK,this]
 |slc q p lo n=>
  have hq:look rs' [] q=look rs [] q:=h q (by simp [AV.names])
  cases p with
  |nil=>simp only [gK,hq]
  |cons=>rfl
 |_=>rfl
theorem az7(M:Moved w C0 rs0 C rs fs ks){k:K}{av:AV}{v:Value}(hl:av.eP=true)(hloc:av.isLocal=true)(hh:hit ks av=false)(hn:∀q∈av.names,q.1≠1)(hv:AVC w C0 rs0 av [v])
  {c:List k.den→Mask→U→List Kill→List aB→Option R'} (h:gK rs k [] av c=some r) :
  ∃xs m u' k1 g1 C',c xs m u' k1 g1=some r∧Moved w C0 rs0 C' (look rs u') (fs++[⟨false,.sl k,m,xs⟩]) (ks++k1)∧Uv w C rs fs ks C' (look rs u') (fs++[⟨false,.sl k,m,xs⟩]) (ks++k1) ∧
   AVC w C' (cmb (look rs u') (fs++[⟨false,.sl k,m,xs⟩])) (.ref (fr fs.length) []) [v]:=by
 have hcur:=M.leaf av [v] hl hh hn hv
 have hcmb:∀q,q.1≠1→cmb rs fs q=rs q:=fun q hq=>if_neg hq
 rw [←anv (rs':=cmb rs fs) (fun q hq=>hcmb q (hn q hq)) c] at h
 have hlook0:look (cmb rs fs) []=cmb rs fs:=rfl
 obtain ⟨xs,m,u',k1,g1,C2,G,g,hown,Fd,henc,hkeys,hptr⟩:=DZ (rs:=cmb rs fs) (u:=[]) M.mem hcur h
 rw [hlook0] at Fd hptr
 have hnames:∀q∈av.names,2≤q.1:=by
  intro q hq
  cases av with
  |ref q0 p=>
   simp only [AV.names,List.mem_singleton] at hq
   subst hq
   obtain ⟨q1,q2⟩:=q
   match q1,hloc with
   |q1+2,_=>simp
  |slc q0 p lo n=>
   simp only [AV.names,List.mem_singleton] at hq
   subst hq
   obtain ⟨q1,q2⟩:=q
   match q1,hloc with
   |q1+2,_=>simp
  |nil=>cases hq
  |emp=>cases hq
  |_=>simp [AV.isLocal] at hloc
 have hu0:∀q:aB,q.1<2→dK q u'=none:=fun q hq=>hkeys q (fun h=>by have:=hnames q h;omega)
 have hrs1:∀q,q.1≠1→look (cmb rs fs) u' q=look rs u' q:=by
  intro q hq
  unfold look
  cases dK q u' with
  |some z=>rfl
  |none=>exact hcmb q hq
 have hrs2:∀j,look (cmb rs fs) u' (fr j)=fs[j]?:=by
  intro j
  unfold look
  rw [hu0 (fr j) (by simp)]
  rfl
 let C':Ctx:=C2.with (fr fs.length) 0 [v] G
 have hcase:∀{q:aB}{z:Root},cmb (look rs u') (fs++[⟨false,.sl k,m,xs⟩]) q=some z→(q=fr fs.length∧z=⟨false,.sl k,m,xs⟩)∨(q≠fr fs.length∧look (cmb rs fs) u' q=some z):=by
  rintro ⟨q1,q2⟩ z hz
  unfold cmb at hz
  by_cases h1:q1=1
  ·subst h1
   simp only [if_true] at hz
   by_cases h2:q2=fs.length
   ·subst h2
    simp only [List.getElem?_append_right (Nat.le_refl _),Nat.sub_self,List.getElem?_cons_zero,Option.some.injEq] at hz
    exact .inl ⟨rfl,hz.symm⟩
   ·have hlt:q2<fs.length:=by
     have:=(List.getElem?_eq_some_iff.1 hz).1
     simp at this;omega
    rw [List.getElem?_append_left hlt] at hz
    exact .inr ⟨by intro h;cases h;exact h2 rfl,by rw [show ((1,q2):aB)=fr q2 from rfl,hrs2];exact hz⟩
  ·rw [if_neg h1] at hz
   exact .inr ⟨by intro h;cases h;exact h1 rfl,by rw [hrs1 _ h1];exact hz⟩
 have hptr1:∀q z,cmb (look rs u') (fs++[⟨false,.sl k,m,xs⟩]) q=some z→∀p∈aY z.k z.d,p.1≠1:=by
  intro q z hz p hp
  rcases hcase hz with ⟨rfl,rfl⟩|⟨_,h2⟩
  ·obtain ⟨q0,x,hx,hp0⟩:=hptr p hp
   exact M.ptr1 q0 x hx p hp0
  ·obtain ⟨z0,hz0,_,_,hp0⟩:=Fd.was q z h2
   exact M.ptr1 q z0 hz0 p (hp0 p hp)
 have hneF:∀{p:aB},p.1≠1→p≠fr fs.length:=by rintro p hp rfl;exact hp rfl
 have hGfree:∀{b:Nat},G b→¬C.Z b∧¬C.S b∧b<w.heap.size:=fun hb=>Fd.free M.mem hb
 have hmem:Mem w C' (cmb (look rs u') (fs++[⟨false,.sl k,m,xs⟩])):=by
  refine ⟨?_,?_,?_,?_,?_⟩
  ·intro q z hz
   rcases hcase hz with ⟨rfl,rfl⟩|⟨h1,h2⟩
   ·refine ⟨G,?_,by rw [Ctx.jG];exact .refl _,fun h=>by cases h⟩
    rw [Ctx.with_ρ0]
    show Enc w C'.θ C2.Z C2.S (.sl k) m xs [v] G
    rw [Fd.Z,Fd.S]
    exact henc.mono (.refl _) (.refl _) (.refl _) (fun _ _=>rfl) (fun p hp=>by rw [Ctx.with_θ (hneF (hptr1 _ _ hz p hp)),Fd.θ])
   ·exact (Fd.mem.ok q z h2).keep rfl rfl (Ctx.with_θ h1) (Ctx.with_ρ h1) (Ctx.jE h1) (fun p hp=>Ctx.with_θ (hneF (hptr1 _ _ hz p hp))) (fun _ _=>rfl)
  ·intro q q' z z' hz hz' hne
   rcases hcase hz with ⟨rfl,rfl⟩|⟨h1,h2⟩<;>rcases hcase hz' with ⟨rfl,rfl⟩|⟨k1,k2⟩
   ·exact absurd rfl hne
   ·rw [Ctx.jG,Ctx.jE k1];exact Fd.gdisj q' z' k2
   ·rw [Ctx.jG,Ctx.jE h1];exact (Fd.gdisj q z h2).symm
   ·rw [Ctx.jE h1,Ctx.jE k1];exact Fd.mem.disj q q' z z' h2 k2 hne
  ·intro q z b hz hb
   show ¬C2.Z b∧¬C2.S b∧_
   rcases hcase hz with ⟨rfl,rfl⟩|⟨h1,h2⟩
   ·rw [Ctx.jG] at hb;rw [Fd.Z,Fd.S];exact hGfree hb
   ·rw [Ctx.jE h1] at hb;exact Fd.mem.apart q z b h2 hb
  ·exact Fd.mem.ro
  ·intro q z hz p hp z2 hz2
   rcases hcase hz2 with ⟨rfl,rfl⟩|⟨k1,k2⟩
   ·exact absurd rfl (hptr1 q z hz _ hp)
   ·rcases hcase hz with ⟨rfl,rfl⟩|⟨h1,h2⟩
    ·obtain ⟨q0,x,hx,hp0⟩:=hptr p hp
     obtain ⟨z0,hz0,_,hm0,_⟩:=Fd.was p z2 k2
     rw [hm0];exact M.mem.ptr q0 x hx p hp0 z0 hz0
    ·exact Fd.mem.ptr q z h2 p hp z2 k2
 have hstage:∀b vs,b.eP=true→hit k1 b=false→(∀q∈b.names,q.1=1→q.2<fs.length)→AVC w C (cmb rs fs) b vs→AVC w C' (cmb (look rs u') (fs++[⟨false,.sl k,m,xs⟩])) b vs:=by
  intro b vs hl hh hn hb
  refine mF (C':=C') Fd.mem (fun q=>q=fr fs.length) rfl rfl (fun q hq=>Ctx.with_θ hq) (fun q hq=>Ctx.with_ρ hq) ?_ (fun _ _=>rfl) hl (fun q hq h=>by
   have:=hn q hq (by rw [h]);rw [h] at this;simp at this) (Fd.leaf b vs hl hh hb)
  intro q z hq hz
  rcases hcase hz with ⟨h,_⟩|⟨_,h2⟩
  ·exact absurd h hq
  ·exact h2
 refine ⟨xs,m,u',k1,g1,C',g,⟨Fd.Z.trans M.Z,Fd.S.trans M.S,fun i=>?_,hmem,?_,?_,hptr1,fun i=>?_⟩,⟨fun b vs hl hh hn hb=>?_,by simp,fun b hb=>?_⟩,?_⟩
 ·rw [Ctx.with_θ (by intro h;cases h),Ctx.with_ρ (by intro h;cases h),Fd.θ,Fd.ρ];exact M.pars i
 ·intro b vs hl hh hn hb
  rw [IE,Bool.or_eq_false_iff] at hh
  exact hstage b vs hl hh.2 (fun q hq h1=>absurd h1 (hn q hq)) (M.leaf b vs hl hh.1 hn hb)
 ·intro q z b hz hb
  rcases hcase hz with ⟨rfl,rfl⟩|⟨h1,h2⟩
  ·rw [Ctx.jG] at hb
   obtain ⟨q0,y0,hy0,hb0⟩:=Fd.gfoot b hb
   exact M.foot q0 y0 b hy0 hb0
  ·rw [Ctx.jE h1] at hb
   obtain ⟨z0,hz0,hs0,_⟩:=Fd.was q z h2
   exact M.foot q z0 b hz0 (hs0 b hb)
 ·unfold look
  rw [hu0 (par i) (by simp)]
  exact M.rs1 i
 ·rw [IE,Bool.or_eq_false_iff] at hh
  exact hstage b vs hl hh.2 hn hb
 ·rw [IE,Bool.or_eq_false_iff] at hb;exact hb.1
 ·refine ⟨v,rfl,fun z hz=>?_⟩
  rcases hcase hz with ⟨_,rfl⟩|⟨h,_⟩
  ·exact ⟨k,none,rfl,trivial,by rw [dJ,Ctx.with_ρ0];rfl⟩
  ·exact absurd rfl h
theorem aAM{w:World}{C:Ctx}{rs:RF}{av:AV}{vs:List Value}(h:AVC w C rs av vs)(hl:av.isLocal=true):∃v,vs=[v]:=by
 cases av with
 |nil=>exact ⟨_,h⟩
 |emp=>obtain ⟨a,h⟩:=h;exact ⟨_,h⟩
 |ref=>obtain ⟨v,h,_⟩:=h;exact ⟨v,h⟩
 |slc=>obtain ⟨v,_,h,_⟩:=h;exact ⟨v,h⟩
 |_=>cases hl
structure aB8(w:World)(C0:Ctx)(rs0:RF)(C:Ctx)(rs:RF)(fs:List Root)(ks:List Kill)(av a':AV)(rs':RF)(fs':List Root)(ks':List Kill)(C':Ctx)(vs:List Value):Prop where
 moved:Moved w C0 rs0 C' rs' fs' ks'
 stage:Uv w C rs fs ks C' rs' fs' ks'
 val:AVC w C' (cmb rs' fs') a' vs
 names:∀q∈a'.names,q.1=1→q.2<fs'.length
 agg:a'.agg=av.agg
theorem aBv(M:Moved w C0 rs0 C rs fs ks){q:aB}(hq:2≤q.1)(hh:hit ks (.ptr q [])=false){x:Root}(hx:rs q=some x)(hxm:x.mem=true){vs:List Value}(hv:AVC w C0 rs0 (.ptr q []) vs) :
  ∃C',Moved w C0 rs0 C' (look rs [(q,none)]) (fs++[x]) ks∧Uv w C rs fs ks C' (look rs [(q,none)]) (fs++[x]) ks∧AVC w C' (cmb (look rs [(q,none)]) (fs++[x])) (.ptr (fr fs.length) []) vs:=by
 have hcur:=M.leaf (.ptr q []) vs rfl hh (by intro p hp;simp only [AV.names,List.mem_singleton] at hp;subst hp;omega) hv
 have hx0:cmb rs fs q=some x:=by unfold cmb;rw [if_neg (by omega)];exact hx
 let C':Ctx:=C.with (fr fs.length) (C.θ q) (C.ρ q) (C.F q)
 have hcase:∀{p:aB}{z:Root},cmb (look rs [(q,none)]) (fs++[x]) p=some z→(p=fr fs.length∧z=x)∨(p≠fr fs.length∧p≠q∧cmb rs fs p=some z):=by
  rintro ⟨q1,q2⟩ z hz
  unfold cmb at hz
  by_cases h1:q1=1
  ·subst h1
   simp only [if_true] at hz
   by_cases h2:q2=fs.length
   ·subst h2
    simp only [List.getElem?_append_right (Nat.le_refl _),Nat.sub_self,List.getElem?_cons_zero,Option.some.injEq] at hz
    exact .inl ⟨rfl,hz.symm⟩
   ·have hlt:q2<fs.length:=by
     have:=(List.getElem?_eq_some_iff.1 hz).1
     simp at this;omega
    rw [List.getElem?_append_left hlt] at hz
    refine .inr ⟨by intro h;cases h;exact h2 rfl,by rintro rfl;simp at hq,?_⟩
    unfold cmb;rw [if_pos rfl];exact hz
  ·rw [if_neg h1] at hz
   unfold look at hz
   simp only [dK] at hz
   by_cases hqq:((q1,q2):aB)=q
   ·rw [dx.2 hqq] at hz;cases hz
   ·rw [iy hqq] at hz
    refine .inr ⟨by intro h;cases h;exact h1 rfl,hqq,?_⟩
    unfold cmb;rw [if_neg h1];exact hz
 have hptr1:∀p z,cmb (look rs [(q,none)]) (fs++[x]) p=some z→∀t∈aY z.k z.d,t.1≠1:=by
  intro p z hz t ht
  rcases hcase hz with ⟨rfl,rfl⟩|⟨_,_,h2⟩
  ·exact M.ptr1 q z hx0 t ht
  ·exact M.ptr1 p z h2 t ht
 have hneF:∀{p:aB},p.1≠1→p≠fr fs.length:=by rintro p hp rfl;exact hp rfl
 have hmem:Mem w C' (cmb (look rs [(q,none)]) (fs++[x])):=by
  refine ⟨?_,?_,?_,?_,?_⟩
  ·intro p z hz
   rcases hcase hz with ⟨rfl,rfl⟩|⟨h1,_,h2⟩
   ·obtain ⟨G,g1,g2,g3⟩:=M.mem.ok q z hx0
    refine ⟨G,?_,by rw [Ctx.jG];exact g2,fun hm=>by rw [Ctx.with_θ0,Ctx.jG,Ctx.with_ρ0];exact g3 hm⟩
    rw [Ctx.with_ρ0]
    exact g1.mono (.refl _) (.refl _) (.refl _) (fun _ _=>rfl) (fun t ht=>by rw [Ctx.with_θ (hneF (hptr1 _ _ hz t ht))])
   ·exact (M.mem.ok p z h2).keep rfl rfl (Ctx.with_θ h1) (Ctx.with_ρ h1) (Ctx.jE h1) (fun t ht=>Ctx.with_θ (hneF (hptr1 _ _ hz t ht))) (fun _ _=>rfl)
  ·intro p p' z z' hz hz' hne
   rcases hcase hz with ⟨rfl,rfl⟩|⟨h1,h1',h2⟩<;>rcases hcase hz' with ⟨rfl,rfl⟩|⟨k1,k1',k2⟩
   ·exact absurd rfl hne
   ·rw [Ctx.jG,Ctx.jE k1];exact M.mem.disj q p' z z' hx0 k2 (Ne.symm k1')
   ·rw [Ctx.jG,Ctx.jE h1];exact M.mem.disj p q z z' h2 hx0 h1'
   ·rw [Ctx.jE h1,Ctx.jE k1];exact M.mem.disj p p' z z' h2 k2 hne
  ·intro p z b hz hb
   rcases hcase hz with ⟨rfl,rfl⟩|⟨h1,_,h2⟩
   ·rw [Ctx.jG] at hb;exact M.mem.apart q z b hx0 hb
   ·rw [Ctx.jE h1] at hb;exact M.mem.apart p z b h2 hb
  ·exact M.mem.ro
  ·intro p z hz t ht z2 hz2
   rcases hcase hz2 with ⟨rfl,rfl⟩|⟨k1,_,k2⟩
   ·exact absurd rfl (hptr1 p z hz _ ht)
   ·rcases hcase hz with ⟨rfl,rfl⟩|⟨_,_,h2⟩
    ·exact M.mem.ptr q z hx0 t ht z2 k2
    ·exact M.mem.ptr p z h2 t ht z2 k2
 have hstage:∀b vs,b.eP=true→(∀t∈b.names,t.1=1→t.2<fs.length)→AVC w C (cmb rs fs) b vs→AVC w C' (cmb (look rs [(q,none)]) (fs++[x])) b vs:=by
  intro b vs hl hn hb
  refine mF (C':=C') M.mem (fun t=>t=fr fs.length) rfl rfl (fun t ht=>Ctx.with_θ ht) (fun t ht=>Ctx.with_ρ ht) ?_ (fun _ _=>rfl) hl (fun t ht h=>by
   have:=hn t ht (by rw [h]);rw [h] at this;simp at this) hb
  intro t z ht hz
  rcases hcase hz with ⟨h,_⟩|⟨_,_,h2⟩
  ·exact absurd h ht
  ·exact h2
 refine ⟨C',⟨M.Z,M.S,fun i=>?_,hmem,?_,?_,hptr1,fun i=>?_⟩,⟨fun b vs hl _ hn hb=>hstage b vs hl hn hb,by simp,fun b hb=>hb⟩,?_⟩
 ·rw [Ctx.with_θ (by intro h;cases h),Ctx.with_ρ (by intro h;cases h)];exact M.pars i
 ·intro b vs hl hh hn hb
  exact hstage b vs hl (fun t ht h1=>absurd h1 (hn t ht)) (M.leaf b vs hl hh hn hb)
 ·intro p z b hz hb
  rcases hcase hz with ⟨rfl,rfl⟩|⟨h1,_,h2⟩
  ·rw [Ctx.jG] at hb;exact M.foot q z b hx0 hb
  ·rw [Ctx.jE h1] at hb;exact M.foot p z b h2 hb
 ·unfold look
  simp only [dK]
  rw [iy (by rintro rfl;simp at hq)]
  exact M.rs1 i
 ·obtain ⟨b,off,rfl,h0,hroot⟩:=hcur
  obtain ⟨rfl,rfl⟩:=h0 rfl
  refine ⟨_,_,rfl,fun _=>⟨by rw [Ctx.with_θ0],rfl⟩,fun z hz=>?_⟩
  rcases hcase hz with ⟨_,rfl⟩|⟨h,_⟩
  ·refine ⟨z.k,C.ρ q,at_nil _,eG _ _ _,?_⟩
   rw [dJ,Ctx.with_ρ0]
   unfold bU
   rw [if_pos hxm,Ctx.with_θ0]
  ·exact absurd rfl h
theorem ajX{rs:RF}{av b:AV}(h:yY rs av=some b):∃q x z,av=.ref q []∧q.1≠1∧rs q=some x∧x.mem=false∧x.m=.imm z∧x.k.plain=true∧b=.imm z x.k x.d:=by
 unfold yY at h
 split at h
 case h_2=>cases h
 case h_1 d j=>
 split at h
 case h_2=>cases h
 case h_1 x hx=>
 cases hm:x.mem with
 |true=>rw [hm] at h;cases h
 |false=>
 rw [hm] at h
 simp only [cond_false] at h
 split at h
 case h_2=>cases h
 case h_1 z hz=>
 cases hp:x.k.plain with
 |false=>rw [hp] at h;cases h
 |true=>
 rw [hp] at h
 simp only [cond_true,Option.some.injEq] at h
 exact ⟨(d+2,j),x,z,rfl,by simp,hx,hm,hz,hp,h.symm⟩
theorem xD(M:Moved w C0 rs0 C rs fs ks){e:Option K}{av:AV}(hl:av.eP=true)(hg:av.agg=false)(hn:∀q∈av.names,q.1≠1){vs:List Value}(hv:AVC w C0 rs0 av vs)
  {c:AV→RF→List Root→List Kill→Option R'}
  (h:(bif hit ks av then none else match yY rs av with
   |some b=>c b rs fs ks
   |none=>bif av.isLocal then (match e with
   |some (.sl k)=>gK rs k [] av fun xs m u' k1 _=>c (.ref (fr fs.length) []) (look rs u') (fs++[⟨false,.sl k,m,xs⟩]) (ks++k1)
   |some _=>none
   |none=>match av with
    |.nil=>c .nil rs fs ks
    |_=>none) else XL av ks rs fs c)=some r) :
  ∃a' rs' fs' ks' C',c a' rs' fs' ks'=some r∧aB8 w C0 rs0 C rs fs ks av a' rs' fs' ks' C' vs:=by
 cases hh:hit ks av with
 |true=>rw [hh] at h;cases h
 |false=>
 rw [hh] at h
 simp only [cond_false] at h
 cases hfz:yY rs av with
 |some b=>
  rw [hfz] at h
  have hcur:=M.leaf av vs hl hh hn hv
  obtain ⟨q,x,z,rfl,hq1,hx,hxm,hmk,hpl,rfl⟩:=ajX hfz
  obtain ⟨v,rfl,hroot⟩:=hcur
  have hx':cmb rs fs q=some x:=by unfold cmb;rw [if_neg hq1];exact hx
  obtain ⟨e',base,hat,_,hloc⟩:=hroot x hx'
  rw [at_nil] at hat
  rw [dJ] at hloc
  simp only [Option.some.injEq,Prod.mk.injEq] at hloc hat
  obtain ⟨G,hE,_,_⟩:=M.mem.ok q x hx'
  rw [hmk,hloc.1] at hE
  refine ⟨_,_,_,_,C,h,M,.refl,⟨hpl,hE.aA9⟩,fun q hq=>(by cases hq),?_⟩
  show x.k.isAgg=false
  rw [hat];rfl
 |none=>
 rw [hfz] at h
 dsimp only at h
 cases hloc:av.isLocal with
 |true=>
  rw [hloc] at h
  simp only [cond_true] at h
  split at h
  case h_2=>cases h
  case h_3=>
   have hcur:=M.leaf av vs hl hh hn hv
   split at h
   ·exact ⟨_,_,_,_,C,h,M,.refl,hcur,fun q hq=>(by cases hq),rfl⟩
   ·simp at h
  case h_1 k=>
  obtain ⟨v,rfl⟩:=aAM hv hloc
  obtain ⟨xs,m,u',k1,g1,C',g,h1,h2,h3⟩:=az7 M hl hloc hh hn hv h
  refine ⟨_,_,_,_,C',g,h1,h2,h3,fun q hq _=>?_,hg.symm⟩
  simp only [AV.names,List.mem_singleton] at hq
  subst hq
  simp
 |false=>
  rw [hloc] at h
  simp only [cond_false] at h
  have hcur:=M.leaf av vs hl hh hn hv
  unfold XL at h
  split at h
  ·exact ⟨_,_,_,_,C,h,M,.refl,hcur,fun q hq h1=>absurd h1 (hn q hq),rfl⟩
  ·exact ⟨_,_,_,_,C,h,M,.refl,hcur,fun q hq h1=>absurd h1 (hn q hq),rfl⟩
  ·exact ⟨_,_,_,_,C,h,M,.refl,hcur,fun q hq h1=>absurd h1 (hn q hq),rfl⟩
  ·split at h
   case h_2=>simp at h
   case h_1 x hx=>
   cases hxm:x.mem with
   |false=>rw [hxm] at h;simp at h
   |true=>
   rw [hxm] at h
   simp only [cond_true] at h
   obtain ⟨C',h1,h2,h3⟩:=aBv M (by simp) hh hx hxm hv
   refine ⟨_,_,_,_,C',h,h1,h2,h3,fun q hq _=>?_,rfl⟩
   simp only [AV.names,List.mem_singleton] at hq
   subst hq
   simp
  ·simp at h
theorem abP{ks:List Kill}{av:AV}(h:∀x:Kill,x.hits av=false):hit ks av=false:=by
 simp only [hit,List.any_eq_false]
 intro x _
 rw [h x];simp
theorem amC(a b:AV):∀q∈(AV.flatten a b).names,q∈a.names∨q∈b.names:=by
 intro q hq
 unfold AV.flatten at hq
 split at hq
 ·cases hq
 ·simpa [AV.names] using hq
theorem agW:∀(av:AV){e:Option K}{C:Ctx}{rs:RF}{fs:List Root}{ks:List Kill}{c:AV→RF→List Root→List Kill→Option R'}{vs:List Value},Moved w C0 rs0 C rs fs ks→(∀q∈av.names,q.1≠1)→AVC w C0 rs0 av vs →
  ac4 e av ks rs fs c=some r→∃a' rs' fs' ks' C',c a' rs' fs' ks'=some r∧aB8 w C0 rs0 C rs fs ks av a' rs' fs' ks' C' vs:=by
 intro av
 induction av with
 |imm z k d=>
  intro e C rs fs ks c vs M hn hv h
  exact ⟨_,_,_,_,C,h,M,.refl,M.leaf _ _ rfl (abP fun x=>by cases x<;>rfl) hn hv,fun q hq=>(by cases hq),rfl⟩
 |nilp=>
  intro e C rs fs ks c vs M hn hv h
  exact ⟨_,_,_,_,C,h,M,.refl,M.leaf _ _ rfl (abP fun x=>by cases x<;>rfl) hn hv,fun q hq=>(by cases hq),rfl⟩
 |pair a b iha ihb=>
  intro e C rs fs ks c vs M hn hv h
  simp only [ac4] at h
  split at h
  case h_2=>simp at h
  case h_1 ka kb=>
  obtain ⟨v1,v2,rfl,h1,h2⟩:=hv
  obtain ⟨a',rs1,fs1,ks1,C1,h,A⟩:=iha M (fun q hq=>hn q (by simp [AV.names,hq])) h1 h
  obtain ⟨b',rs2,fs2,ks2,C2,h,B⟩:=ihb A.moved (fun q hq=>hn q (by simp [AV.names,hq])) h2 h
  refine ⟨_,_,_,_,C2,h,B.moved,A.stage.trans B.stage,AVC.flatten (AVC.awL (fun b vs hl hh hn hb=>B.stage.leaf b vs hl hh hn hb) _ _ A.names A.val) B.val,fun q hq h1=>?_,by rw [KQ];rfl⟩
  rcases amC _ _ q hq with hq|hq
  ·exact Nat.lt_of_lt_of_le (A.names q (arW _ _ q hq) h1) B.stage.grow
  ·exact B.names q hq h1
 |tcons a b _ _=>intro e C rs fs ks c vs M hn hv h;exact hv.elim
 |tnil=>intro e C rs fs ks c vs M hn hv h;exact hv.elim
 |dead=>
  intro e C rs fs ks c vs M hn hv h
  exact xD M rfl rfl hn hv h
 |nil=>intro e C rs fs ks c vs M hn hv h;exact xD M rfl rfl hn hv h
 |emp=>intro e C rs fs ks c vs M hn hv h;exact xD M rfl rfl hn hv h
 |ref q p=>intro e C rs fs ks c vs M hn hv h;exact xD M rfl rfl hn hv h
 |slc q p lo k0=>intro e C rs fs ks c vs M hn hv h;exact xD M rfl rfl hn hv h
 |ptr q p=>intro e C rs fs ks c vs M hn hv h;exact xD M rfl rfl hn hv h
 |iptr z k d p=>intro e C rs fs ks c vs M hn hv h;exact xD M rfl rfl hn hv h
 |nn z k d=>intro e C rs fs ks c vs M hn hv h;exact xD M rfl rfl hn hv h
 |vw q p L=>intro e C rs fs ks c vs M hn hv h;exact xD M rfl rfl hn hv h
 |fn f caps=>intro e C rs fs ks c vs M hn hv h;exact xD M rfl rfl hn hv h
theorem apM{av:AV}{e:Option K}(M:Moved w C0 rs0 C rs fs ks)(hn:∀q∈av.names,q.1≠1){v:Value}(hv:bT w C0 rs0 v av){c:AV→RF→List Root→List Kill→Option R'}(h:ac4 e av ks rs fs c=some r) :
  ∃a' rs' fs' ks' C',c a' rs' fs' ks'=some r∧Moved w C0 rs0 C' rs' fs' ks'∧Uv w C rs fs ks C' rs' fs' ks'∧KL w C' (cmb rs' fs') v a'∧∀q∈a'.names,q.1=1→q.2<fs'.length:=by
 rcases hv with (rfl|⟨hg,vs,rfl,hA⟩|⟨hg,hA,hc⟩)|⟨vs,_,ht⟩
 ·simp only [ac4] at h
  rw [abP fun x=>by cases x<;>rfl] at h
  simp [AV.isLocal,XL,yY] at h
 ·obtain ⟨a',rs',fs',ks',C',h,A⟩:=agW av M hn hA h
  exact ⟨a',rs',fs',ks',C',h,A.moved,A.stage,.inr (.inl ⟨by rw [A.agg];exact hg,vs,rfl,A.val⟩),A.names⟩
 ·obtain ⟨a',rs',fs',ks',C',h,A⟩:=agW av M hn hA h
  exact ⟨a',rs',fs',ks',C',h,A.moved,A.stage,.inr (.inr ⟨by rw [A.agg];exact hg,A.val,hc⟩),A.names⟩
 ·cases av with
  |tnil=>simp only [ac4] at h;rw [abP fun x=>by cases x<;>rfl] at h;simp [AV.isLocal,XL,yY] at h
  |tcons a b=>simp only [ac4] at h;cases hh:hit ks (.tcons a b)<;>rw [hh] at h<;>simp [AV.isLocal,XL,yY] at h
  |_=>exact ht.elim
theorem am2:∀(l:List (AV×Option K))(vals:List Value){C:Ctx}{rs:RF}{fs:List Root}{ks:List Kill}{c:AV→RF→List Root→List Kill→Option R'},Moved w C0 rs0 C rs fs ks→anE l=false→l.length=vals.length →
  (∀(i:Nat)(x:AV×Option K)(v:Value),l[i]?=some x→vals[i]?=some v→bT w C0 rs0 v x.1)→ac5 l ks rs fs c=some r →
  ∃t rs' fs' ks' C',c t rs' fs' ks'=some r∧Moved w C0 rs0 C' rs' fs' ks'∧Uv w C rs fs ks C' rs' fs' ks'∧aek w C' (cmb rs' fs') t vals:=by
 intro l
 induction l with
 |nil=>
  intro vals C rs fs ks c M _ hlen _ h
  have:vals=[]:=List.eq_nil_of_length_eq_zero hlen.symm
  subst this
  exact ⟨_,_,_,_,C,h,M,.refl,rfl⟩
 |cons x l ih=>
  intro vals C rs fs ks c M hfr hlen hv h
  obtain ⟨a,k⟩:=x
  cases vals with
  |nil=>simp at hlen
  |cons v vals=>
  simp only [anE,Bool.or_eq_false_iff] at hfr
  have hn:∀q∈a.names,q.1≠1:=by
   intro q hq h1
   have:=hfr.1
   simp only [aCt,List.any_eq_false] at this
   exact this q hq (beq_iff.2 h1)
  simp only [ac5] at h
  obtain ⟨a',rs1,fs1,ks1,C1,h,M1,S1,V1,N1⟩:=apM M hn (hv 0 (a,k) v rfl rfl) h
  obtain ⟨t,rs2,fs2,ks2,C2,h,M2,S2,T2⟩:=ih vals M1 hfr.2 (by simpa using hlen) (fun i x v hx hvv=>hv (i+1) x v (by simpa using hx) (by simpa using hvv)) h
  exact ⟨_,_,_,_,C2,h,M2,S1.trans S2,v,vals,rfl,KL.awL (fun b vs hl hh hn hb=>S2.leaf b vs hl hh hn hb) N1 V1,T2⟩
end
end Go.Abs
namespace Go.Abs
section
variable {P : Program} {V : Env}
theorem ayl:∀(l:List AV)(k t:Nat),aee (anZ k l) t=if k≤t then (l[t-k]?).getD .dead else .dead:=by
 intro l
 induction l with
 |nil=>intro k t;simp [anZ,aee]
 |cons a l ih=>
  intro k t
  simp only [anZ,aee]
  by_cases h:t=k
  ·rw [beq_iff.2 h];subst h;simp
  ·rw [iw h]
   simp only [cond_false,ih]
   by_cases h2:k≤t
   ·rw [if_pos (by omega),if_pos h2,show t-k=(t-(k+1))+1 by omega];simp
   ·rw [if_neg (by omega),if_neg h2]
theorem axU:∀(l:List Root)(k:Nat)(q:aB),ac6 (anY k l) q=if q.1=0∧k≤q.2 then l[q.2-k]? else none:=by
 intro l
 induction l with
 |nil=>intro k q;simp [anY,ac6]
 |cons a l ih=>
  intro k q
  simp only [anY,ac6]
  by_cases h:q=par k
  ·rw [dx.2 h];subst h;simp
  ·rw [iy h]
   simp only [cond_false,ih]
   obtain ⟨q1,q2⟩:=q
   by_cases h2:q1=0∧k≤q2
   ·have hne:q2≠k:=by rintro rfl;exact h (by rw [h2.1])
    rw [if_pos ⟨h2.1,by simp;omega⟩,if_pos h2]
    simp only
    rw [show q2-k=(q2-(k+1))+1 by omega];simp
   ·rw [if_neg h2,if_neg (fun h3=>h2 ⟨h3.1,by have:=h3.2;simp at this;omega⟩)]
theorem auJ(l:List Root):ac6 (anY 0 l)=ac8 l:=by
 funext q
 rw [axU]
 obtain ⟨q1,q2⟩:=q
 match q1 with
 |0=>simp [ac8]
 |q1+1=>simp [ac8]
theorem aui{m n:Nat}(hmn:m≤n):∀(c:Code),D8 m c=true→D8 n c=true:=by
 intro c
 induction c with
 |region id ops draw=>
  intro h
  simp only [D8,List.all_eq_true] at h ⊢
  refine fun o ho=>?_
  have h2:=h o ho
  cases hd:o.dst with
  |none=>rfl
  |some d=>
   rw [hd] at h2
   have h3:Nat.blt d m=true:=h2
   have h4:d+1≤m:=Nat.le_of_ble_eq_true h3
   show Nat.ble (d+1) n=true
   exact Nat.ble_eq_true_of_le (Nat.le_trans h4 hmn)
 |seq a b iha ihb=>intro h;simp only [D8,Bool.and_eq_true] at h ⊢;exact ⟨iha h.1,ihb h.2⟩
 |cond x a b iha ihb=>intro h;simp only [D8,Bool.and_eq_true] at h ⊢;exact ⟨iha h.1,ihb h.2⟩
 |block id a ih=>intro h;exact ih h
 |loop a ih=>intro h;exact ih h
 |_=>intro _;rfl
theorem am1{rs:RF}:∀(n i:Nat){ps:List Root},Ju rs i n=some ps→ps.length=n∧∀(j:Nat)(x:Root),ps[j]?=some x→rs (par (i+j))=some x:=by
 intro n
 induction n with
 |zero=>intro i ps h;simp only [Ju,Option.some.injEq] at h;subst h;exact ⟨rfl,by simp⟩
 |succ n ih=>
  intro i ps h
  simp only [Ju] at h
  split at h
  case h_2=>simp at h
  case h_1 x hx=>
  cases hr:Ju rs (i+1) n with
  |none=>rw [hr] at h;simp at h
  |some ps'=>
   rw [hr] at h
   simp only [Option.map_some,Option.some.injEq] at h
   subst h
   obtain ⟨h1,h2⟩:=ih _ hr
   refine ⟨by simp [h1],fun j y hj=>?_⟩
   cases j with
   |zero=>simp only [List.getElem?_cons_zero,Option.some.injEq] at hj;subst hj;exact hx
   |succ j=>have:=h2 j y (by simpa using hj);rw [show i+(j+1)=i+1+j by omega];exact this
theorem azi{R:Type}(k:K)(d:k.den)(m:Mask)(c:(k':K)→k'.den→Mask→Option R):iX k d m [] c=c k d m:=by cases k<;>rfl
theorem asA{w0 w:World}{M0:BS}{n:Nat}{C0 C:Ctx}{st:St}{a:Act}(hT:ig P V)(R:Rel w0 M0 n C0 C st a w):∀(l:List ResultVar)(ts:List TypeId){vals:List (AV×Option K)},AZ V st.tmps st.roots l ts=some vals →
  ∃vs:List Value,vs.length=vals.length∧(∀(i:Nat)(x:AV×Option K)(v:Value),vals[i]?=some x→vs[i]?=some v→bT w C st.roots v x.1)∧∀(g:ResultVar→Sem Value),(∀t,g (.tmp t)=pure (a.tmps.getD t undef))→(∀t T,g (.cell t T)=(do loadVar T (←asAddr (a.tmps.getD t undef))))→(List.mapM g l).run P w=.ok vs w:=by
 intro l
 induction l with
 |nil=>intro ts vals h;simp only [AZ,Option.some.injEq] at h;subst h;exact ⟨[],rfl,by simp,fun _ _ _=>rfl⟩
 |cons r l ih=>
  intro ts vals h
  have step:∀(x:AV×Option K)(v:Value),(AZ V st.tmps st.roots l ts.tail).map (x::·)=some vals→bT w C st.roots v x.1→(∀(g:ResultVar→Sem Value),(∀t,g (.tmp t)=pure (a.tmps.getD t undef))→(∀t T,g (.cell t T)=(do loadVar T (←asAddr (a.tmps.getD t undef))))→(g r).run P w=.ok v w) →
    ∃vs:List Value,vs.length=vals.length∧(∀(i:Nat)(x:AV×Option K)(v:Value),vals[i]?=some x→vs[i]?=some v→bT w C st.roots v x.1)∧∀(g:ResultVar→Sem Value),(∀t,g (.tmp t)=pure (a.tmps.getD t undef))→(∀t T,g (.cell t T)=(do loadVar T (←asAddr (a.tmps.getD t undef))))→(List.mapM g (r::l)).run P w=.ok vs w:=by
   intro x v hm hv hrun
   cases hr:AZ V st.tmps st.roots l ts.tail with
   |none=>rw [hr] at hm;simp at hm
   |some vals'=>
    rw [hr] at hm
    simp only [Option.map_some,Option.some.injEq] at hm
    subst hm
    obtain ⟨vs,h1,h2,h3⟩:=ih _ hr
    refine ⟨v::vs,by simp [h1],fun i y u hy hu=>?_,fun g hg hg2=>by simp only [List.mapM_cons,Sem.run_bind,hrun g hg hg2,Result.andThen_ok,h3 g hg hg2,Sem.run_pure]⟩
    cases i with
    |zero=>simp only [List.getElem?_cons_zero,Option.some.injEq] at hy hu;subst hy;subst hu;exact hv
    |succ i=>exact h2 i y u (by simpa using hy) (by simpa using hu)
  cases r with
  |tmp t=>
   simp only [AZ] at h
   exact step _ _ h (R.tm t) (fun g hg _=>by rw [hg];rfl)
  |cell t T=>
   simp only [AZ] at h
   split at h
   case h_2=>simp at h
   case h_1 k q hk e1=>
   split at h
   case h_2=>simp at h
   case h_1 y hy=>
   split at h
   case isFalse=>simp at h
   case isTrue hc=>
   obtain ⟨hmem,hkk⟩:=hc
   obtain ⟨ti,hti,hki⟩:=Env.yM hk
   have hty:=hT.ty _ _ hti
   have hx:=R.tm t
   rw [e1] at hx
   obtain ⟨⟨b,off,hv,hbo,hroot⟩,_⟩:=hx.cell (by simp) rfl (by simp) (by simp)
   simp only [List.cons.injEq,and_true] at hv
   obtain ⟨rfl,rfl⟩:=hbo rfl
   obtain ⟨k',d,m,vs,b1,hp,hc2⟩:=iL (p:=[]) (c:=fun k' d m=>some ((⟨k',d⟩:Σ k:K,k.den),m)) (R.mem.ok _ _ hy) (azi _ _ _ _)
   simp only [Option.some.injEq,Prod.mk.injEq,Sigma.mk.injEq] at hc2
   obtain ⟨⟨rfl,hd⟩,rfl⟩:=hc2
   cases hd
   obtain ⟨k2,cs,g1,g2,g3⟩:=hroot y hy
   rw [hp.lc] at g3
   simp only [Option.some.injEq,Prod.mk.injEq] at g3
   obtain ⟨rfl,rfl⟩:=g3
   obtain ⟨F,he⟩:=hp.enc
   have hr:=ajy R.mem hy hp
   have hm:y.k.isAgg=false→ZM q y.k [] y.d y.m≠.dead→(valOf y.k vs).cells = #[valOf y.k vs]:=fun hg hd=>he.cellV (aeo hd) hg
   refine step _ (valOf y.k vs) h (bT.val hr.1 he.len hr.2 hm) ?_
   have hki:ti.k=y.k:=hki.trans hkk.symm
   have hrun:=Jv (P:=P) hty hp.lies (by rw [hki];exact he.len) (v:=valOf y.k vs) (by rw [hki];exact vk he.len)
   intro g _ hg2
   rw [hg2,hv]
   simpa [Instr.loadAt,Instr.sureAddr,asAddr] using hrun
theorem asH{fn:Func}{w0 w:World}{M0:BS}{n:Nat}{C0 C:Ctx}{st:St}{a:Act}(hT:ig P V)(R:Rel w0 M0 n C0 C st a w){ts:List TypeId}{vals:List (AV×Option K)}(h:AZ V st.tmps st.roots fn.results.toList ts=some vals) :
  ∃vs:List Value,vs.length=vals.length∧(∀(i:Nat)(x:AV×Option K)(v:Value),vals[i]?=some x→vs[i]?=some v→bT w C st.roots v x.1) ∧
   (results fn a.tmps).run P w=.ok (match vs with|[v]=>v|vs=>.tuple vs.toArray) w:=by
 obtain ⟨vs,h1,h2,h3⟩:=asA hT R _ _ h
 refine ⟨vs,h1,h2,?_⟩
 unfold results
 have he:fn.results=fn.results.toList.toArray:=by simp
 rw [he,List.mapM_toArray]
 simp only [Sem.run_bind,Sem.run_map]
 rw [h3 _ (fun t=>rfl) (fun t T=>rfl)]
 simp only [Result.andThen_ok,Sem.run_pure]
 cases vs with
 |nil=>rfl
 |cons v vl=>
  cases vl with
  |nil=>rfl
  |cons v2 vl=>simp
theorem Rel.NH{w0 w:World}{M0:BS}{n:Nat}{C0 C:Ctx}{s:St}{a:Act}{V:Env}(h:Rel w0 M0 n C0 C s a w):∃C',Rel w0 M0 n C0 C' (NH V s) a w:=by
 unfold Go.Abs.NH
 split
 ·exact ⟨C,h⟩
 ·exact Rel.azg _ h
theorem aqY{Γ:Glb}(hT:ig P V)(hE:anA P Γ V){f:FuncId}{fn:Func}{F:FnI}(hf:P.funcs[f]?=some fn)(hb:fn.body=some F.body)(hres:fn.results.toList=F.results)
  (hdst:D8 fn.ntmps F.body=true) (hL:sZ V F.loops F.body) (rw:List Nat):Contract P Γ f ⟨rw,fun ci=>.mat (bJ V F ci) .ret,false⟩:=by
 intro w C ci co vals hM hptr hsz hvals hgl hG
 have hE:aej P Γ V w (AX C ci.roots) C:=⟨hE,fun b hb=>⟨hgl.1 b hb,fun ⟨i,x,hx,hF⟩=>(hM.apart (par i) x b hx hF).1 (hgl.1 b hb),hM.ro b (.inl (hgl.1 b hb))⟩,hgl.2⟩
 suffices hold:Calls P f vals w fun e w'=>match e with
   |.returned v=>∃C',Uu w C ci co v w' C'
   |_=>False from hold.mono fun e w' h=>by
  cases e with
  |returned v=>obtain ⟨C',h⟩:=h;exact ⟨C',h,fun h=>nomatch h⟩
  |_=>exact h
 refine calls_of_wp hf hb ?_
 have hG:bJ V F ci=some co:=by
  obtain ⟨o,ho⟩:∃o,bJ V F ci=o:=⟨_,rfl⟩
  have hG:(Tre.mat (bJ V F ci) Tre.ret).run some=some co:=hG
  rw [ho] at hG ⊢
  cases o with
  |none=>cases hG
  |some x=>exact hG
 unfold bJ at hG
 have hn:fn.ntmps≤(vals++Array.replicate (fn.ntmps-vals.size) undef).size:=by simp;omega
 have hinit:Rel w (AX C ci.roots) (vals++Array.replicate (fn.ntmps-vals.size) undef).size C C (azx ci) { tmps:=vals++Array.replicate (fn.ntmps-vals.size) undef,defers:=[] } w:=by
  have hroots:(azx ci).roots=ac8 ci.roots:=auJ _
  refine ⟨⟨.refl _,rfl,fun _=>rfl⟩,by rw [hroots];exact hM,fun t=>?_,.refl _ _,fun q x b hq hb=>?_,fun q x hq p hp h1=>?_,rfl,rfl,fun _ _ _ _=>rfl,fun b hb=>.inl hb⟩
  ·rw [hroots]
   show bT w C _ _ (aee (anZ 0 ci.args) t)
   rw [ayl]
   simp only [Nat.zero_le,if_true,Nat.sub_zero]
   cases ht:ci.args[t]? with
   |none=>exact bT.dead
   |some av=>
    simp only [Option.getD_some]
    have hlt:t<vals.size:=by rw [hsz];exact (List.getElem?_eq_some_iff.1 ht).1
    have:(vals++Array.replicate (fn.ntmps-vals.size) undef).getD t undef=vals[t]:=by
     rw [Array.getD_eq_getD_getElem?,Array.getElem?_append_left hlt,Array.getElem?_eq_getElem hlt];rfl
    rw [this]
    exact hvals t _ av (Array.getElem?_eq_getElem hlt) ht
  ·rw [hroots] at hq
   obtain ⟨q1,q2⟩:=q
   match q1,hq with
   |0,hq=>exact .inr ⟨q2,x,hq,hb⟩
   |q1+1,hq=>cases hq
  ·rw [hroots] at hq
   obtain ⟨q1,q2⟩:=q
   match q1,hq with
   |0,hq=>have:=hptr x (List.mem_of_getElem? hq) p hp;omega
   |q1+1,hq=>cases hq
 refine aw0 hT hE F.body (aui hn _ hdst) hL (fun e s' a' w' C' hc R'=>?_) hinit hG
 have hfin:(match AZ V (NH V s').tmps (NH V s').roots F.results F.types with
   |none=>none
   |some vals=>bif (NH V s').pins 1||anE vals then none else
    ac5 vals [] (NH V s').roots [] fun r rs fs _=>match Ju rs 0 ci.roots.length with
     |none=>none
     |some ps=>bif uU ps.length fs.length ps&&uU ps.length fs.length fs then some (⟨one r,ps,fs⟩:au) else none)=some co→bodyPost P fn (fun e w'=>match e with
   |.returned v=>∃C',Uu w C ci co v w' C'
   |_=>False) .ret a' w':=by
  clear hc
  obtain ⟨C',R'⟩:=R'.NH
  generalize NH V s'=s' at R'
  intro hc
  split at hc
  case h_1=>simp at hc
  case h_2 _ rv hrv=>
  cases hchk:(s'.pins 1||anE rv) with
  |true=>rw [hchk] at hc;simp at hc
  |false=>
  rw [hchk] at hc
  simp only [cond_false] at hc
  simp only [Bool.or_eq_false_iff] at hchk
  rw [←hres] at hrv
  obtain ⟨vl,hsl1,hsl2,hsl3⟩:=asH hT R' hrv
  refine ⟨R'.defers,_,hsl3,?_⟩
-- the state as the start of the results' way
  have hp1:∀q y,s'.roots q=some y→∀p∈aY y.k y.d,p.1≠1:=by
   intro q y hy p hp h1
   have:=R'.pins q y hy p hp (by omega)
   rw [h1,hchk.1] at this;cases this
  have hsub:∀q y,cmb s'.roots [] q=some y→s'.roots q=some y:=by
   intro q y h
   unfold cmb at h
   split at h
   ·simp at h
   ·exact h
  have hM0:Moved w' C' s'.roots C' s'.roots [] []:=by
   refine ⟨rfl,rfl,fun _=>⟨rfl,rfl⟩,⟨fun q y h=>R'.mem.ok q y (hsub q y h),fun q q' y y' h h'=>R'.mem.disj q q' y y' (hsub q y h) (hsub q' y' h'),fun q y b h=>R'.mem.apart q y b (hsub q y h),R'.mem.ro,fun q y h p hp z hz=>R'.mem.ptr q y (hsub q y h) p hp z (hsub p z hz)⟩,
    fun b vs hl _ _ hb=>mF R'.mem (fun _=>False) rfl rfl (fun _ _=>rfl) (fun _ _=>rfl) (fun q y _ h=>hsub q y h) (fun _ _=>rfl) hl (fun _ _ h=>h) hb,
    fun q y b h hb=>⟨q,y,hsub q y h,hb⟩,fun q y h=>hp1 q y (hsub q y h),fun _=>rfl⟩
  obtain ⟨tv,rs2,fs2,ks2,C2,hc,M2,S2,T2⟩:=am2 rv vl hM0 hchk.2 hsl1.symm hsl2 hc
  split at hc
  case h_1=>simp at hc
  case h_2 _ ps hps=>
  obtain ⟨hpl,hps2⟩:=am1 _ _ hps
  cases hchk3:(uU ps.length fs2.length ps&&uU ps.length fs2.length fs2) with
  |false=>rw [hchk3] at hc;simp at hc
  |true=>
  rw [hchk3] at hc
  simp only [cond_true,Option.some.injEq] at hc
  subst hc
  have hout:∀q y,OP ⟨one tv,ps,fs2⟩ q=some y→cmb rs2 fs2 q=some y:=by
   rintro ⟨q1,q2⟩ y hq
   match q1,hq with
   |0,hq=>have:=hps2 q2 y hq;rw [Nat.zero_add] at this;exact this
   |1,hq=>exact hq
   |q1+2,hq=>cases hq
  have hval:∀b vs,b.eP=true→hit [] b=false→AVC w' C2 (cmb rs2 fs2) b vs→AVC w' C2 (OP ⟨one tv,ps,fs2⟩) b vs:=
   fun b vs hl _ hb=>mF M2.mem (fun _=>False) rfl rfl (fun _ _=>rfl) (fun _ _=>rfl) (fun q y _ h=>hout q y h) (fun _ _=>rfl) hl (fun _ _ h=>h) hb
  refine ⟨C2,fun b hb=>(by rw [M2.Z];exact R'.ext.Z b hb),M2.S.trans R'.ext.S,fun i=>(M2.pars i).1.trans (R'.ext.θ i),
   ⟨fun q y h=>M2.mem.ok q y (hout q y h),fun q q' y y' h h'=>M2.mem.disj q q' y y' (hout q y h) (hout q' y' h'),fun q y b h=>M2.mem.apart q y b (hout q y h),M2.mem.ro,fun q y h p hp z hz=>M2.mem.ptr q y (hout q y h) p hp z (hout p z hz)⟩,
   ?_,fun i x hx hm=>?_,R'.kept,fun q y b hq hb=>?_,fun b hb=>R'.zn b (by rw [←M2.Z];exact hb)⟩
  ·have hT2:=aek.step hval _ _ T2
   rw [XF] at hT2
   show bT w' C2 _ _ (one tv)
   cases tv with
   |tnil=>
    have:vl=[]:=hT2
    subst this
    exact .inr ⟨[],rfl,rfl⟩
   |tcons x y=>
    obtain ⟨v,l,rfl,h1,h2⟩:=hT2
    cases y with
    |tnil=>
     have:l=[]:=h2
     subst this
     exact .inl h1
    |tcons x2 y2=>
     obtain ⟨v2,l2,rfl,h3,h4⟩:=h2
     exact .inr ⟨v::v2::l2,rfl,v,_,rfl,h1,v2,l2,rfl,h3,h4⟩
    |_=>exact h2.elim
   |_=>exact hT2.elim
  ·have h1:=hps2 i x hx
   rw [Nat.zero_add,M2.rs1 i] at h1
   rw [(M2.pars i).2]
   exact R'.parρ i x h1 hm
  ·obtain ⟨q0,y0,h1,h2⟩:=M2.foot q y b (hout q y hq) hb
   exact R'.foot q0 y0 b h1 h2
 cases e with
 |exit _=>simp at hc
 |normal=>exact hfin hc
 |ret=>exact hfin hc
end
end Go.Abs
namespace Go.Abs
def amk:K→List Value→Option (List Value)
 |.int ik,.int k n::l=>bif decide (k=ik)&&decide (n=0) then some l else none
 |.bool,.bool false::l=>some l
 |.str,.string ⟨⟨[]⟩⟩::l=>some l
 |.ptr,.pointer none::l=>some l
 |.fn,.nilFunc::l=>some l
 |.sl _,.slice none 0 0::l=>some l
 |.unit,l=>some l
 |.pair a b,l=>match amk a l with
  |some l=>amk b l
  |none=>none
 |_,_=>none
theorem avu:∀{k:K}{l l':List Value},amk k l=some l'→l=k.zeroCells++l':=by
 intro k
 induction k with
 |pair a b iha ihb=>
  intro l l' h
  simp only [amk] at h
  split at h
  ·rename_i m hm
   rw [iha hm,ihb h];simp [K.zeroCells]
  ·cases h
 |int ik=>
  intro l l' h
  unfold amk at h
  split at h<;>first|(cases h;done)|skip
  all_goals try (rename_i heq;cases heq)
  cases hc:(decide (_=ik)&&decide (_=(0:Int))) with
  |false=>rw [hc] at h;cases h
  |true=>
   rw [hc] at h
   simp only [cond_true,Option.some.injEq] at h
   simp only [Bool.and_eq_true,decide_eq_true_eq] at hc
   obtain ⟨rfl,rfl⟩:=hc
   subst h
   rfl
 |unit=>intro l l' h;cases h;rfl
 |_=>
  intro l l' h
  unfold amk at h
  split at h<;>first|(cases h;done)|skip
  all_goals try (rename_i heq;cases heq)
  all_goals (cases h;first|rfl|simp [K.zeroCells])
def fieldsB(P:Program):List Field→K→Nat→Bool
 |[],.unit,_=>true
 |f::fs,.pair a b,off=>Nat.beq f.offset off&&!Nat.beq a.size 0&&(match P.info? f.type with
  |some i=>Nat.beq i.size a.size&&decide (aqH P f.type=some a.isAgg)
  |none=>false)&&fieldsB P fs b (off+a.size)
 |_,_,_=>false
theorem abM{P:Program}:∀(fs:List Field){k:K}{off:Nat},fieldsB P fs k off=true→wT P fs k off:=by
 intro fs
 induction fs with
 |nil=>intro k off h;cases k<;>first|trivial|cases h
 |cons f fs ih=>
  intro k off h
  cases k<;>first|(cases h;done)|skip
  rename_i a b
  simp only [fieldsB,Bool.and_eq_true,Bool.not_eq_true'] at h
  obtain ⟨⟨⟨h1,h2⟩,h3⟩,h4⟩:=h
  refine ⟨Nat.eq_of_beq_eq_true h1,(fun h0=>by rw [h0] at h2;cases h2),?_,ih h4⟩
  split at h3
  ·rename_i i hi;simp only [Bool.and_eq_true,decide_eq_true_eq] at h3;exact ⟨i,hi,Nat.eq_of_beq_eq_true h3.1,h3.2⟩
  ·cases h3
def ayO(P:Program)(V:Env)(ti:TI)(d:TypeDesc):Bool:=
 match ti.k,d with
 |.int ik,.int k=>decide (k=ik)
 |.bool,.bool=>true
 |.str,.string=>true
 |.ptr,.pointer _=>true
 |.fn,.func ..=>true
 |.sl e,.slice t=>Nat.beq t ti.elem&&(match V.ti ti.elem with
  |some te=>decide (te.k=e)&&!Nat.beq te.k.size 0
  |none=>false)
 |.unit,.struct fs=>fieldsB P fs.toList .unit 0
 |.pair a b,.struct fs=>fieldsB P fs.toList (.pair a b) 0
 |_,_=>false
theorem aua{P:Program}{V:Env}{ti:TI}{d:TypeDesc}(h:ayO P V ti d=true):DOK P V ti d:=by
 unfold ayO at h
 unfold DOK
 cases hk:ti.k<;>simp only [hk] at h ⊢ <;> cases d<;>simp only [] at h<;>first|(cases h;done)|skip
 ·rw [of_decide_eq_true h]
 ·rfl
 ·rfl
 ·exact ⟨_,rfl⟩
 ·exact ⟨_,_,_,rfl⟩
 ·simp only [Bool.and_eq_true] at h
  obtain ⟨h1,h2⟩:=h
  refine ⟨by rw [Nat.eq_of_beq_eq_true h1],?_⟩
  split at h2
  ·rename_i te hte
   simp only [Bool.and_eq_true,decide_eq_true_eq,Bool.not_eq_true'] at h2
   exact ⟨te,hte,h2.1,(fun h0=>by rw [h0] at h2;cases h2.2)⟩
  ·cases h2
 ·exact ⟨_,rfl,abM _ h⟩
 ·exact ⟨_,rfl,abM _ h⟩
def aAT(P:Program):List Field→K→Nat→Bool
 |[],.unit,_=>true
 |f::fs,.pair (.int k) b,off=>!(f.name =="_")&&Nat.beq f.offset off&&(match P.underlying f.type with
  |some (.int k')=>decide (k'=k)
  |_=>false)&&aAT P fs b (off+1)
 |_,_,_=>false
theorem axf{P:Program}:∀(fs:List Field){k:K}{off:Nat},aAT P fs k off=true→EqF P fs k off:=by
 intro fs
 induction fs with
 |nil=>intro k off h;cases k<;>first|trivial|cases h
 |cons f fs ih=>
  intro k off h
  cases k<;>first|(cases h;done)|skip
  rename_i a b
  cases a<;>first|(cases h;done)|skip
  simp only [aAT,Bool.and_eq_true,Bool.not_eq_true'] at h
  obtain ⟨⟨⟨h1,h2⟩,h3⟩,h4⟩:=h
  refine ⟨by simpa using h1,Nat.eq_of_beq_eq_true h2,?_,ih h4⟩
  split at h3
  ·rename_i k' hk';rw [hk',of_decide_eq_true h3]
  ·cases h3
def eqB(P:Program)(T:Nat)(k:K):Bool:=!k.ints||((match P.underlying T with
 |some (.struct fs)=>aAT P fs.toList k 0
 |_=>false)&&!P.stoodInHeld T&&!P.eqGuardType P.depth T)
theorem azb{P:Program}{T:Nat}{k:K}(h:eqB P T k=true)(hk:k.ints=true):aCQ P T k:=by
 unfold eqB at h
 rw [hk,Bool.not_true,Bool.false_or] at h
 simp only [Bool.and_eq_true,Bool.not_eq_true'] at h
 obtain ⟨⟨h1,h2⟩,h3⟩:=h
 refine ⟨?_,h2,h3⟩
 split at h1
 ·rename_i fs hfs;exact ⟨fs,hfs,axf _ h1⟩
 ·cases h1
def tyB(P:Program)(V:Env)(T:Nat)(ti:TI):Bool:=
 match P.info? T,P.underlying T with
 |some i,some d=>Nat.beq i.size ti.k.size&&Nat.beq i.bytes ti.bytes&&(match i.zero with
  |some z=>(match amk ti.k z.cells.toList with
   |some []=>true
   |_=>false)
  |none=>false)&&ayO P V ti d&&eqB P T ti.k
 |_,_=>false
theorem aAC{P:Program}{V:Env}{T:Nat}{ti:TI}(h:tyB P V T ti=true):ajo P V T ti:=by
 unfold tyB at h
 split at h
 ·rename_i i d hi hd
  simp only [Bool.and_eq_true] at h
  obtain ⟨⟨⟨⟨h1,h2⟩,h3⟩,h4⟩,h5⟩:=h
  split at h3
  ·rename_i z hz
   split at h3
   ·rename_i hz2
    have:=avu hz2
    rw [List.append_nil] at this
    exact ⟨⟨i,z,hi,Nat.eq_of_beq_eq_true h1,Nat.eq_of_beq_eq_true h2,hz,this⟩,⟨d,hd,aua h4⟩,azb h5⟩
   ·cases h3
  ·cases h3
 ·cases h
def aqy(P:Program)(V:Env):List (Nat×TI)→Bool
 |[]=>true
 | (t,ti)::l=>tyB P V t ti&&aqy P V l
theorem atT{α:Type}{t:Nat}{x:α}:∀(l:List (Nat×α)),iq t l=some x→(t,x)∈l:=by
 intro l
 induction l with
 |nil=>intro h;cases h
 |cons y l ih=>
  intro h
  obtain ⟨t',y⟩:=y
  simp only [iq] at h
  by_cases ht:t=t'
  ·rw [beq_iff.2 ht] at h
   simp only [cond_true,Option.some.injEq] at h
   subst h;subst ht;simp
  ·rw [iw ht] at h
   exact List.mem_cons_of_mem _ (ih h)
theorem ayq{P:Program}{V:Env}:∀(l:List (Nat×TI)),aqy P V l=true→∀t ti,(t,ti)∈l→ajo P V t ti:=by
 intro l
 induction l with
 |nil=>intro _ t ti h;cases h
 |cons x l ih=>
  intro h t ti hm
  obtain ⟨t0,ti0⟩:=x
  simp only [aqy,Bool.and_eq_true] at h
  rcases List.mem_cons.1 hm with he|hm
  ·cases he;exact aAC h.1
  ·exact ih h.2 t ti hm
theorem aAE{P:Program}{V:Env}(h:aqy P V V.τ=true)(hm:P.follows .mixedOrders=true):ig P V:=
 ⟨fun _ _ hti=>ayq _ h _ _ (atT _ hti),hm⟩
theorem aB7{P:Program}{τ:List (Nat×TI)}{E E':List (Nat×Ctr)}{Z Z':List (Nat×List Frz)}{t:Nat}{ti:TI}(h:tyB P ⟨τ,E,Z⟩ t ti=true):tyB P ⟨τ,E',Z'⟩ t ti=true:=h
theorem aAD{P:Program}{τ:List (Nat×TI)}{E:List (Nat×Ctr)}{Z:List (Nat×List Frz)}(h:aqy P ⟨τ,[],[]⟩ τ=true):aqy P ⟨τ,E,Z⟩ τ=true:=by
 have key:∀l,aqy P ⟨τ,[],[]⟩ l=true→aqy P ⟨τ,E,Z⟩ l=true:=by
  intro l
  induction l with
  |nil=>intro _;rfl
  |cons x l ih=>
   intro h
   obtain ⟨t,ti⟩:=x
   simp only [aqy,Bool.and_eq_true] at h ⊢
   exact ⟨aB7 h.1,ih h.2⟩
 exact key τ h
theorem aH{P:Program}{Γ:Glb}{τ:List (Nat×TI)}{Z:List (Nat×List Frz)}:anA P Γ ⟨τ,[],Z⟩:=fun f q h=>by cases h
theorem ak{P:Program}{Γ:Glb}{τ:List (Nat×TI)}{E:List (Nat×Ctr)}{Z:List (Nat×List Frz)}{f:Nat}{q:Ctr}(h:Contract P Γ f q)(he:Enters P f)(hE:anA P Γ ⟨τ,E,Z⟩):anA P Γ ⟨τ,(f,q)::E,Z⟩:=by
 intro g q' hg
 simp only [Env.ctr,iq] at hg
 by_cases hfg:g=f
 ·rw [beq_iff.2 hfg] at hg
  simp only [cond_true,Option.some.injEq] at hg
  subst hg;subst hfg;exact ⟨h,he⟩
 ·rw [iw hfg] at hg
  exact hE g q' hg
theorem Contract.weaken{P:Program}{Γ:Glb}{f:FuncId}{q q':Ctr}(h:Contract P Γ f q)(hq:∀ci co,(q'.G ci).run some=some co→(q.G ci).run some=some co)(hs:q'.soft=false:=by rfl):Contract P Γ f q':=
 fun w C ci co vals h1 h2 h3 h4 hg h5=>(h w C ci co vals h1 h2 h3 h4 hg (hq ci co h5)).mono fun e w' k=>by
  cases e with
  |returned v=>obtain ⟨C',k,_⟩:=k;exact ⟨C',k,fun h=>by rw [hs] at h;cases h⟩
  |_=>exact k
end Go.Abs
namespace Go.Abs
open Go.ChangeShapes Go.WideShapes Go.RowKit
def K.wf:(k:K)→k.den→Prop
 |.int ik,n=>(Lit.int ik n).wf=true
 |.str,s=>s.size≤maxLen
 |.sl e,xs=>xs.length≤maxLen∧∀x∈xs,e.wf x
 |.pair a b,d=>a.wf d.1∧b.wf d.2
 |_,_=>True
def kG(P:Program):K→TypeId ⊕ (List Field×Nat)→Bool
 |.int ik,.inl T=>match P.underlying T with
  |some (.int k)=>decide (k=ik)
  |_=>false
 |.bool,.inl T=>match P.underlying T with
  |some .bool=>true
  |_=>false
 |.str,.inl T=>match P.underlying T with
  |some .string=>true
  |_=>false
 |.sl e,.inl T=>match P.underlying T with
  |some (.slice t)=>Nat.beq (P.cellsOf t) e.size&&Nat.blt 0 e.size&&kG P e (.inl t)
  |_=>false
 |.pair a b,.inl T=>match P.underlying T with
  |some (.struct fs)=>Nat.beq (P.cellsOf T) (K.pair a b).size&&(match fs.toList with
   |f::l=>Nat.beq f.offset 0&&Nat.beq (P.cellsOf f.type) a.size&&kG P a (.inl f.type)&&kG P b (.inr (l,a.size))
   |[]=>false)
  |_=>false
 |.pair a b,.inr (f::l,off)=>Nat.beq f.offset off&&Nat.beq (P.cellsOf f.type) a.size&&kG P a (.inl f.type)&&kG P b (.inr (l,off+a.size))
 |.unit,.inr ([],_)=>true
 |_,_=>false
section
variable {P : Program} {w : World} {H : Type} {enc : TypeId × Value → H} {held : Bool} {θ : aB → Nat} {S : BS}
theorem agv{a:Addr}{n:Nat}{cs:List Value}(h:w.cells? 0 a n=some cs)(hn:0<n):∃c T fz,w.heap[a.block]?=some (.cells c T fz)∧a.spot=none∧a.off+n≤c.size∧cs=sub c a.off n:=by
 obtain ⟨_,hl,hc⟩:=World.cells?_some h
 have h0:=hc 0 hn
 have e0:a.add 0=a:=by simp [Addr.add]
 rw [e0] at h0
 have hsome:∃v,cs[0]?=some v:=⟨cs[0]'(by omega),List.getElem?_eq_getElem _⟩
 obtain ⟨v0,hv0⟩:=hsome
 rw [hv0] at h0
 unfold World.cell? at h0
 split at h0
 case h_2=>cases h0
 case h_1 c T fz hb=>
 split at h0
 ·cases h0
 ·rename_i hs
  have hs:a.spot=none:=by cases hh:a.spot with
   |none=>rfl
   |some x=>rw [hh] at hs;exact absurd rfl hs
  have hget:∀i,i<n→c[a.off+i]?=cs[i]?:=by
   intro i hi
   have:=hc i hi
   rw [←this]
   unfold World.cell?
   have hblk:(a.add i).block=a.block:=by unfold Addr.add;split<;>rfl
   have hsp:(a.add i).spot=none:=by unfold Addr.add;split<;>first|exact hs|rfl
   have hoff:(a.add i).off=a.off+i:=by unfold Addr.add;split<;>simp_all
   rw [hblk,hb]
   simp only [hsp,hoff,Option.isSome_none,Bool.false_eq_true,if_false]
  have hsize:a.off+n≤c.size:=by
   have:=hget (n-1) (by omega)
   rw [List.getElem?_eq_getElem (by omega)] at this
   have:=(Array.getElem?_eq_some_iff.1 this).1
   omega
  refine ⟨c,T,fz,hb,hs,hsize,?_⟩
  apply List.ext_getElem?
  intro i
  by_cases hi:i<n
  ·rw [←hget i hi]
   unfold sub
   rw [List.getElem?_take_of_lt hi,List.getElem?_drop,Array.getElem?_toList]
  ·rw [List.getElem?_eq_none (by omega),List.getElem?_eq_none (by rw [rG hsize];omega)]
theorem aAA:∀(k:K),
  (∀(T:TypeId)(n:Nat)(cs:List Value)(x:DataW H×List MemPlace),kG P k (.inl T)=true→DataW.trod enc P w 0 (fun _=>true) held n T cs=some x →
   ∃d:k.den,Enc w θ (fun b=>b<w.heap.size) S k (.imm true) d cs noB∧k.wf d) ∧
  (∀(fs:List Field)(off n:Nat)(cs:List Value),kG P k (.inr (fs,off))=true→cs.length=off+k.size →
   (∀f∈fs,∃x,DataW.trod enc P w 0 (fun _=>true) held n f.type ((cs.drop f.offset).take (P.cellsOf f.type))=some x) →
   ∃d:k.den,Enc w θ (fun b=>b<w.heap.size) S k (.imm true) d (cs.drop off) noB∧k.wf d):=by
 intro k
 induction k with
 |int ik=>
  refine ⟨fun T n cs x h ht=>?_,fun fs off n cs h=>by simp [kG] at h⟩
  simp only [kG] at h
  split at h
  ·rename_i k hu
   have:=of_decide_eq_true h
   subst this
   obtain ⟨n,rfl,_,hw⟩:=DataW.trod_int hu ht
   exact ⟨n,rfl,hw⟩
  ·cases h
 |bool=>
  refine ⟨fun T n cs x h ht=>?_,fun fs off n cs h=>by simp [kG] at h⟩
  simp only [kG] at h
  split at h
  ·rename_i hu
   obtain ⟨b,rfl,_⟩:=DataW.trod_bool hu ht
   exact ⟨b,rfl,trivial⟩
  ·cases h
 |str=>
  refine ⟨fun T n cs x h ht=>?_,fun fs off n cs h=>by simp [kG] at h⟩
  simp only [kG] at h
  split at h
  ·rename_i hu
   obtain ⟨s,rfl,_,hw⟩:=DataW.trod_string hu ht
   exact ⟨s,rfl,hw⟩
  ·cases h
 |ptr=>exact ⟨fun T n cs x h=>by simp [kG] at h,fun fs off n cs h=>by simp [kG] at h⟩
 |fn=>exact ⟨fun T n cs x h=>by simp [kG] at h,fun fs off n cs h=>by simp [kG] at h⟩
 |unit=>
  refine ⟨fun T n cs x h=>by simp [kG] at h,fun fs off n cs h hl _=>?_⟩
  refine ⟨(),?_,trivial⟩
  show cs.drop off=[]
  have:cs.length=off:=hl
  exact List.drop_eq_nil_of_le (by omega)
 |sl e ih=>
  refine ⟨fun T n cs x h ht=>?_,fun fs off n cs h=>by simp [kG] at h⟩
  simp only [kG] at h
  split at h
  case h_2=>cases h
  case h_1 t hu=>
  simp only [Bool.and_eq_true] at h
  obtain ⟨⟨h1,h2⟩,h3⟩:=h
  have h1:=Nat.eq_of_beq_eq_true h1
  have h2:0<e.size:=Nat.le_of_ble_eq_true h2
  rcases DataW.trod_slice hu ht with ⟨rfl,_⟩|⟨a,len,cap,elems,rest,m,rfl,rfl,_,_,hlc,hcm,hel,helem,hsp,_⟩
  ·exact ⟨[],.inr (.inl ⟨by simp,rfl,none,rfl⟩),by show (0:Nat)≤maxLen;unfold maxLen;omega,by simp⟩
  ·obtain ⟨hrl,hrest⟩:=hsp rfl
   by_cases hc0:cap=0
   ·have hl0:len=0:=by omega
    subst hc0;subst hl0
    exact ⟨[],.inr (.inl ⟨by simp,rfl,some a,rfl⟩),by show (0:Nat)≤maxLen;unfold maxLen;omega,by simp⟩
   ·-- every cell up to the capacity
    have hall:∀i,i<cap→∃cs' x',w.cells? 0 (a.add (i*e.size)) e.size=some cs'∧DataW.trod enc P w 0 (fun _=>true) held m t cs'=some x':=by
     intro i hi
     have key:∃x',(w.cells? 0 (a.add (i*P.cellsOf t)) (P.cellsOf t)).bind (DataW.trod enc P w 0 (fun _=>true) held m t)=some x':=by
      by_cases hil:i<len
      ·rw [helem i hil]
       exact ⟨elems[i]'(by omega),List.getElem?_eq_getElem _⟩
      ·have:=hrest (i-len) (by omega)
       rw [show len+(i-len)=i by omega] at this
       rw [this]
       exact ⟨rest[i-len]'(by omega),List.getElem?_eq_getElem _⟩
     obtain ⟨x',hx'⟩:=key
     rw [h1] at hx'
     cases hcs:w.cells? 0 (a.add (i*e.size)) e.size with
     |none=>rw [hcs] at hx';cases hx'
     |some cs'=>rw [hcs] at hx';exact ⟨cs',x',rfl,hx'⟩
    have hblk:∀i,(a.add i).block=a.block:=fun i=>by unfold Addr.add;split<;>rfl
    obtain ⟨cs0,x0,hc0',_⟩:=hall 0 (by omega)
    rw [Nat.zero_mul,show a.add 0=a by simp [Addr.add]] at hc0'
    obtain ⟨c,U,fz,hb,hspot,_,_⟩:=agv hc0' h2
    have hoff:∀i,(a.add i).off=a.off+i:=fun i=>by unfold Addr.add;split<;>simp_all
    have hcell:∀i,i<cap→a.off+i*e.size+e.size≤c.size∧∃x',DataW.trod enc P w 0 (fun _=>true) held m t (sub c (a.off+i*e.size) e.size)=some x':=by
     intro i hi
     obtain ⟨cs',x',g1,g2⟩:=hall i hi
     obtain ⟨c',U',fz',hb',_,hs',rfl⟩:=agv g1 h2
     rw [hblk,hb] at hb'
     cases hb'
     rw [hoff] at hs' g2
     exact ⟨hs',x',g2⟩
    have hd:∀i,i<len→∃d:e.den,Enc w θ (fun b=>b<w.heap.size) S e (.imm true) d (sub c (a.off+i*e.size) e.size) noB∧e.wf d:=by
     intro i hi
     obtain ⟨_,x',hx'⟩:=hcell i (by omega)
     exact ih.1 t m _ x' h3 hx'
    have hlist:∃ds:List e.den,ds.length=len∧∀i d,ds[i]?=some d→Enc w θ (fun b=>b<w.heap.size) S e (.imm true) d (sub c (a.off+i*e.size) e.size) noB∧e.wf d:=by
     refine ⟨List.ofFn fun i:Fin len=>(hd i.1 i.2).choose,by simp,fun i d hi=>?_⟩
     rw [List.getElem?_ofFn] at hi
     split at hi
     ·rename_i hil
      cases hi
      exact (hd i hil).choose_spec
     ·cases hi
    obtain ⟨ds,hdl,hds⟩:=hlist
    have hlast:=(hcell (cap-1) (by omega)).1
    refine ⟨ds,.inr (.inr ⟨by simp,a.block,a.off,cap,c,U,fz,?_,hb,by omega,?_,.inl (by have:=(Array.getElem?_eq_some_iff.1 hb).1;exact this),fun _=>noB,fun i=>⟨fun _ h=>h.elim,fun h=>h⟩,fun _ _ _ _ h=>h.elim,fun i d hi=>(hds i d hi).1⟩),by show ds.length≤maxLen;omega,fun d hd'=>?_⟩
    ·rw [hdl]
     obtain ⟨ab,ao,asp⟩:=a
     simp only at hspot
     subst hspot
     rfl
    ·have:cap=(cap-1)+1:=by omega
     rw [this,Nat.add_mul,Nat.one_mul]
     omega
    ·obtain ⟨i,hi⟩:=List.mem_iff_getElem?.1 hd'
     exact (hds i d hi).2
 |pair a b iha ihb=>
  have tail:∀(f:Field)(l:List Field)(off n:Nat)(cs:List Value),f.offset=off→P.cellsOf f.type=a.size→kG P a (.inl f.type)=true→kG P b (.inr (l,off+a.size))=true→cs.length=off+(a.size+b.size) →
    (∀g∈f::l,∃x,DataW.trod enc P w 0 (fun _=>true) held n g.type ((cs.drop g.offset).take (P.cellsOf g.type))=some x) →
    ∃d:(K.pair a b).den,Enc w θ (fun b=>b<w.heap.size) S (.pair a b) (.imm true) d (cs.drop off) noB∧(K.pair a b).wf d:=by
   intro f l off n cs h1 h2 h3 h4 hl hf
   obtain ⟨x,hx⟩:=hf f (by simp)
   rw [h1,h2] at hx
   obtain ⟨d1,e1,w1⟩:=iha.1 _ _ _ _ h3 hx
   obtain ⟨d2,e2,w2⟩:=ihb.2 l (off+a.size) n cs h4 (by omega) (fun g hg=>hf g (by simp [hg]))
   refine ⟨(d1,d2),⟨(cs.drop off).take a.size,(cs.drop off).drop a.size,noB,noB,(List.take_append_drop _ _).symm,fun _ h=>h,fun _ h=>h,fun _ h=>h.elim,e1,?_⟩,w1,w2⟩
   rw [List.drop_drop]
   exact e2
  refine ⟨fun T n cs x h ht=>?_,fun fs off n cs h hl hf=>?_⟩
  ·simp only [kG] at h
   split at h
   case h_2=>cases h
   case h_1 fs hu=>
   simp only [Bool.and_eq_true] at h
   obtain ⟨h1,h2⟩:=h
   have h1:=Nat.eq_of_beq_eq_true h1
   split at h2
   case h_2=>cases h2
   case h_1 f l hfl=>
   simp only [Bool.and_eq_true] at h2
   obtain ⟨⟨⟨g1,g2⟩,g3⟩,g4⟩:=h2
   obtain ⟨xs,m,rfl,_,hcl,hxl,hall⟩:=DataW.trod_struct hu ht
   have:=tail f l 0 m cs (Nat.eq_of_beq_eq_true g1) (Nat.eq_of_beq_eq_true g2) g3 (by rw [Nat.zero_add];exact g4) (by rw [hcl,h1];simp [K.size]) (fun g hg=>?_)
   ·rw [List.drop_zero] at this
    exact this
   ·rw [←hfl] at hg
    obtain ⟨i,hi⟩:=List.mem_iff_getElem?.1 hg
    rw [Array.getElem?_toList] at hi
    have hlt:=(Array.getElem?_eq_some_iff.1 hi).1
    rw [hall i g hi]
    exact ⟨xs[i]'(by omega),List.getElem?_eq_getElem _⟩
  ·cases fs with
   |nil=>simp [kG] at h
   |cons f l=>
    simp only [kG,Bool.and_eq_true] at h
    obtain ⟨⟨⟨g1,g2⟩,g3⟩,g4⟩:=h
    exact tail f l off n cs (Nat.eq_of_beq_eq_true g1) (Nat.eq_of_beq_eq_true g2) g3 g4 (by rw [hl];simp [K.size]) hf
end
abbrev Args:List K→Type
 |[]=>Unit
 |k::l=>k.den×Args l
def avs:(l:List K)→Args l→List AV
 |[],_=>[]
 |k::l,d=>.imm true k d.1::avs l d.2
def wfs:(l:List K)→Args l→Prop
 |[],_=>True
 |k::l,d=>k.wf d.1∧wfs l d.2
theorem atU:∀(l:List K)(d:Args l),(avs l d).length=l.length:=by
 intro l
 induction l with
 |nil=>intro d;rfl
 |cons k l ih=>intro d;simp only [avs,List.length_cons,ih]
section
variable {P : Program} {H : Type} {enc : TypeId × Value → H}
def ak5(P:Program)(x:TypeId×K):Bool:=kG P x.2 (.inl x.1)&&x.2.plain&&P.readableRec x.1&&decide (x.1<P.types.size)
theorem ayp{W:World}{C:Ctx}{rs:RF}(hZ:C.Z=fun b=>b<W.heap.size){base:Nat}{k:K}{T:TypeId}{v:Value}{d:DataW H}{p:List MemPlace}(hr:kG P k (.inl T)=true)(hp:k.plain=true)(hok:Value.okWide P W .any base T v)
  (h:DataW.Trod enc P W 0 (fun _=>true) true T v d p):∃dd:k.den,bT W C rs v (.imm true k dd)∧k.wf dd:=by
 obtain ⟨n,hn⟩:=h
 obtain ⟨dd,he,hw⟩:=(aAA (θ:=C.θ) (S:=C.S) k).1 T n _ _ hr hn
 refine ⟨dd,?_,hw⟩
 rw [←hZ] at he
 cases k with
 |pair a b=>
  simp only [kG] at hr
  split at hr
  case h_2=>cases hr
  case h_1 fs hu=>
  simp only [Value.okWide,hu] at hok
  obtain ⟨cs,rfl,_⟩:=hok
  exact .inl (.inr (.inl ⟨rfl,cs.toList,by simp,hp,he⟩))
 |unit=>simp [kG] at hr
 |ptr=>simp [kG] at hr
 |fn=>simp [kG] at hr
 |int ik=>
  have hv:∃n,v=.int ik n:=by
   simp only [kG] at hr
   split at hr
   ·rename_i k hu;have:=of_decide_eq_true hr;subst this;exact okWide_int hu hok
   ·cases hr
  obtain ⟨n,rfl⟩:=hv
  exact .inl (.inr (.inr ⟨rfl,⟨hp,by simpa [Value.cells] using he⟩,rfl⟩))
 |bool=>
  have hv:∃n,v=.bool n:=by
   simp only [kG] at hr
   split at hr
   ·rename_i hu;exact okWide_bool hu hok
   ·cases hr
  obtain ⟨n,rfl⟩:=hv
  exact .inl (.inr (.inr ⟨rfl,⟨hp,by simpa [Value.cells] using he⟩,rfl⟩))
 |str=>
  have hv:∃n,v=.string n:=by
   simp only [kG] at hr
   split at hr
   ·rename_i hu;exact okWide_string hu hok
   ·cases hr
  obtain ⟨n,rfl⟩:=hv
  exact .inl (.inr (.inr ⟨rfl,⟨hp,by simpa [Value.cells] using he⟩,rfl⟩))
 |sl e=>
  have hv:∃a l c,v=.slice a l c:=by
   simp only [kG] at hr
   split at hr
   ·rename_i hu;exact okWide_slice hu hok
   ·cases hr
  obtain ⟨a,l,c,rfl⟩:=hv
  exact .inl (.inr (.inr ⟨rfl,⟨hp,by simpa [Value.cells] using he⟩,rfl⟩))
theorem trodAll_back(laid:laidOutB P=true){W W':World}(hb:Below W.heap.size W W'):∀(ks:List (TypeId×K)),ks.all (ak5 P)=true→∀{vs:List Value}{ds:List (DataW H)}{p:List MemPlace},(∀x∈p,x.block<W.heap.size) →
  DataW.TrodAll enc P W 0 (fun _=>true) true (ks.map (·.1)) vs ds p→DataW.TrodAll enc P W' 0 (fun b=>decide (b<W.heap.size)) true (ks.map (·.1)) vs ds p∧ds.length=ks.length:=by
 intro ks
 induction ks with
 |nil=>intro _ vs ds p _ h;obtain ⟨rfl,rfl,rfl⟩:=trodAll_nil h;exact ⟨rfl,rfl⟩
 |cons x ks ih=>
  intro hk vs ds p hlt h
  rw [List.all_cons,Bool.and_eq_true] at hk
  obtain ⟨v,vs',d,ds',p1,q1,rfl,rfl,rfl,h1,h2⟩:=trodAll_cons h
  have hx:=hk.1
  simp only [ak5,Bool.and_eq_true,decide_eq_true_eq] at hx
  obtain ⟨g1,g2⟩:=ih hk.2 (fun y hy=>hlt y (by simp [hy])) h2
  exact ⟨⟨p1,q1,Below.trod laid hx.1.2 hx.2 h1 hb (fun y hy=>hlt y (by simp [hy])),g1,rfl⟩,by simp [g2]⟩
theorem aqx{W:World}{C:Ctx}{rs:RF}(hZ:C.Z=fun b=>b<W.heap.size){base:Nat}:∀(ks:List (TypeId×K)),ks.all (ak5 P)=true→∀{vs:List Value}{ds:List (DataW H)}{p:List MemPlace},
  (∀(j:Nat) t v,(ks.map (·.1))[j]?=some t→vs[j]?=some v→Value.okWide P W .any base t v)→DataW.TrodAll enc P W 0 (fun _=>true) true (ks.map (·.1)) vs ds p →
  vs.length=ks.length∧∃dd:Args (ks.map (·.2)),wfs _ dd∧∀(i:Nat)(v:Value)(a:AV),vs[i]?=some v→(avs _ dd)[i]?=some a→bT W C rs v a:=by
 intro ks
 induction ks with
 |nil=>
  intro _ vs ds p _ h
  obtain ⟨rfl,rfl,rfl⟩:=trodAll_nil h
  exact ⟨rfl,(),trivial,fun i v a h=>by simp at h⟩
 |cons x ks ih=>
  intro hk vs ds p hok h
  rw [List.all_cons,Bool.and_eq_true] at hk
  obtain ⟨v,vs',d,ds',p1,q1,rfl,rfl,rfl,h1,h2⟩:=trodAll_cons h
  have hx:=hk.1
  simp only [ak5,Bool.and_eq_true,decide_eq_true_eq] at hx
  obtain ⟨g1,dd,g2,g3⟩:=ih hk.2 (fun j t v ht hv=>hok (j+1) t v (by simpa using ht) (by simpa using hv)) h2
  obtain ⟨d0,e1,e2⟩:=ayp (rs:=rs) hZ hx.1.1.1 hx.1.1.2 (hok 0 x.1 v rfl rfl) h1
  refine ⟨by simp [g1],(d0,dd),⟨e2,g2⟩,fun i v' a hv ha=>?_⟩
  cases i with
  |zero=>
   simp only [List.getElem?_cons_zero,Option.some.injEq] at hv
   subst hv
   have ha:some (AV.imm true x.2 d0)=some a:=ha
   cases ha
   exact e1
  |succ i=>exact g3 i v' a (by simpa using hv) ha
theorem axW{Γ:Glb}{f:FuncId}{fn:Func}{rw:List Nat}{G:ZF→Tre au}{sf:Bool}(hc:Contract P Γ f ⟨rw,G,sf⟩)(laid:laidOutB P=true)(ks:List (TypeId×K))(hp:fn.params.toList=ks.map (·.1))(hk:ks.all (ak5 P)=true){rt:TypeId}
  (hr:fn.resultTypes = #[rt]) (hrt:P.underlying rt=some .bool) {s:ChangeSpec} (hv:s.vars=[]) (hs:∀ds:List (DataW H),ds.length=ks.length→s.fn H ds=⟨[.lit (.bool true)],ds,[]⟩)
  (hG:∀dd:Args (ks.map (·.2)),wfs _ dd→∃z,(G ⟨avs _ dd,[]⟩).run some=some ⟨.imm z .bool true,[],[]⟩) {W:World} {base:Nat} {args:Array Value} {ds gs:List (DataW H)} {before:List MemPlace}
  (hok:∀(j:Nat) t v,fn.params[j]?=some t→args[j]?=some v→Value.okWide P W .any base t v) (hW:DataW.Whole enc P fn.params.toList s.vars false W args.toList ds gs before) (hg0:(∀b∈Γ.blocks,b<W.heap.size)∧Γ.holds W) :
  Calls P f args W fun e W'=>∃v,e=.returned v∧s.post enc P fn false true false false W args v W':=by
 have hW':=hW
 obtain ⟨p,q,hA,hV,rfl,hfz,hnd⟩:=hW
 rw [hv] at hV
 obtain ⟨rfl,rfl⟩:=trodVars_none hV
 rw [hp] at hA
 have hlt:∀x∈p,x.block<W.heap.size:=fun x hx=>hW'.lt x (by simp [hx])
 have C0:Ctx:=⟨fun _=>0,fun _=>[],fun _=>noB,fun b=>b<W.heap.size,noB⟩
 have hok':∀(j:Nat) t v,(ks.map (·.1))[j]?=some t→args.toList[j]?=some v→Value.okWide P W .any base t v:=fun j t v ht hv=>hok j t v (by rw [←hp] at ht;rw [←Array.getElem?_toList];exact ht) (by rw [←Array.getElem?_toList];exact hv)
 obtain ⟨hlen,dd,hwf,hval⟩:=aqx (C:=⟨fun _=>0,fun _=>[],fun _=>noB,fun b=>b<W.heap.size,noB⟩) (rs:=ac8 []) rfl ks hk hok' hA
 obtain ⟨z,hg⟩:=hG dd hwf
 refine (hc W ⟨fun _=>0,fun _=>[],fun _=>noB,fun b=>b<W.heap.size,noB⟩ ⟨avs _ dd,[]⟩ _ args ?_ (by simp) (by rw [atU,List.length_map,←hlen,Array.length_toList]) (fun i v a hv ha=>hval i v a (by rw [Array.getElem?_toList];exact hv) ha) hg0 hg).mono fun e W' he=>?_
 ·have hno:∀q:aB,ac8 [] q=none:=by rintro ⟨q1,q2⟩;match q1 with
   |0=>simp [ac8]
   |q1+1=>rfl
  exact ⟨(fun q y h=>by rw [hno] at h;cases h),(fun q q' y y' h=>by rw [hno] at h;cases h),(fun q y b h=>by rw [hno] at h;cases h),(fun b h=>h.elim id fun h=>h.elim),(fun q y h=>by rw [hno] at h;cases h)⟩
 ·cases e with
  |returned v=>
   obtain ⟨C',hpost,_⟩:=he
   have hvb:=hpost.val.bool
   subst hvb
   have hb:Below W.heap.size W W':=⟨hpost.kept.os,hpost.kept.tape,hpost.kept.output,hpost.kept.size,fun b hb=>hpost.kept.block b hb (fun ⟨i,x,h,_⟩=>by simp at h)⟩
   obtain ⟨hback,hdl⟩:=trodAll_back laid hb ks hk hlt hA
   refine ⟨_,rfl,ds,[],p++[],[],p,[],hW',?_,?_,?_,hb.frame _,fun h=>by cases h⟩
   ·rw [List.append_nil,hs ds hdl,hr]
    exact trodAll_mk1 (shut_bool hrt _)
   ·rw [List.append_nil,hs ds hdl,hp]
    exact hback
   ·rw [List.append_nil,hs ds hdl,hv]
    rfl
  |_=>exact he.elim
end
end Go.Abs
namespace Go.Abs
section
variable {R R' : Type} {r : R'} {g : R → Option R'}
def aZ(k:K)(a:AV)(c:Bool→k.den→Tre R):Tre R:=match a with
 |.imm z k' d=>if h:k'=k then c z (h ▸ d) else .fail
 |_=>.fail
theorem fA{k:K}{a:AV}{c:Bool→k.den→Tre R}(h:(aZ k a c).run g=some r):∃z d,a=.imm z k d∧(c z d).run g=some r:=by
 unfold aZ at h
 split at h
 ·split at h
  ·rename_i hk;subst hk;exact ⟨_,_,rfl,h⟩
  ·cases h
 ·cases h
def PS(k:K)(a:AV)(c:Bool→k.den→Tre R):Tre R:=match a with
 |.iptr z k' d [.idx 0]=>if h:k'=.sl k then (match (h ▸ d:(K.sl k).den) with
   |[x]=>c z x
   |_=>.fail) else .fail
 |_=>.fail
theorem aqN{k:K}{a:AV}{c:Bool→k.den→Tre R}(h:(PS k a c).run g=some r):∃z d,a=.iptr z (.sl k) [d] [.idx 0]∧(c z d).run g=some r:=by
 unfold PS at h
 split at h
 ·split at h
  ·rename_i hk;subst hk
   split at h
   ·rename_i x hx
    exact ⟨_,x,by rw [←hx],h⟩
   ·cases h
  ·cases h
 ·cases h
def ay(z0:Bool)(k:K)(a:AV)(c:k.den→Tre R):Tre R:=match a with
 |.imm z k' d=>if h:k'=k then (if z=z0 then c (h ▸ d) else .fail) else .fail
 |_=>.fail
theorem cu{z0:Bool}{k:K}{a:AV}{c:k.den→Tre R}(h:(ay z0 k a c).run g=some r):∃d,a=.imm z0 k d∧(c d).run g=some r:=by
 unfold ay at h
 split at h
 ·split at h
  ·rename_i hk
   subst hk
   split at h
   ·rename_i hz;subst hz;exact ⟨_,rfl,h⟩
   ·cases h
  ·cases h
 ·cases h
def aAL(e:K)(a:AV)(c:Bool→List e.den→Tre R):Tre R:=match a with
 |.nn z e' d=>if h:e'=e then c z (h ▸ d) else .fail
 |_=>.fail
theorem awT{e:K}{a:AV}{c:Bool→List e.den→Tre R}(h:(aAL e a c).run g=some r):∃z d,a=.nn z e d∧(c z d).run g=some r:=by
 unfold aAL at h
 split at h
 ·split at h
  ·rename_i hk;subst hk;exact ⟨_,_,rfl,h⟩
  ·cases h
 ·cases h
def dI(q:aB)(p:Path)(a:AV)(c:Tre R):Tre R:=match a with
 |.ref q' p'=>if q'=q∧p'=p then c else .fail
 |_=>.fail
theorem PU{q:aB}{p:Path}{a:AV}{c:Tre R}(h:(dI q p a c).run g=some r):a=.ref q p∧c.run g=some r:=by
 unfold dI at h
 split at h
 ·split at h
  ·rename_i hk;obtain ⟨rfl,rfl⟩:=hk;exact ⟨rfl,h⟩
  ·cases h
 ·cases h
def firstIdx:Path→Nat
 |.idx n::_=>n
 |_::p=>firstIdx p
 |[]=>0
def avV:Path→Path→Bool
 |[],[]=>true
 |.fst::t,.fst::p=>avV t p
 |.snd::t,.snd::p=>avV t p
 |_,_=>false
def ar4:Path→Path→Bool
 |.fst::t,.fst::p=>ar4 t p
 |.snd::t,.snd::p=>ar4 t p
 |.idx _::t,.idx _::p=>avV t p
 |_,_=>false
def avK:Path→Nat→Path
 |.idx _::t,n=>.idx n::t
 |s::t,n=>s::avK t n
 |[],_=>[]
theorem akS:∀(t p:Path),avV t p=true→p=t
 |[],[],_=>rfl
 |.fst::t,.fst::p,h=>by rw [akS t p h]
 |.snd::t,.snd::p,h=>by rw [akS t p h]
theorem akT:∀(t p:Path),ar4 t p=true→p=avK t (firstIdx p)
 |.fst::t,.fst::p,h=>congrArg (Step.fst::·) (akT t p h)
 |.snd::t,.snd::p,h=>congrArg (Step.snd::·) (akT t p h)
 |.idx _::t,.idx n::p,h=>congrArg (Step.idx n::·) (akS t p h)
def ZK(q:aB)(t:Path)(a:AV)(c:Nat→Tre R):Tre R:=match a with
 |.ref r p=>bif req r q&&ar4 t p then c (firstIdx p) else .fail
 |_=>.fail
theorem aqP{q:aB}{t:Path}{a:AV}{c:Nat→Tre R}(h:(ZK q t a c).run g=some r):∃n,a=.ref q (avK t n)∧(c n).run g=some r:=by
 unfold ZK at h
 split at h
 case h_2=>cases h
 rename_i r' p'
 cases hk:(req r' q&&ar4 t p') with
 |false=>rw [hk] at h;cases h
 |true=>
  rw [hk] at h
  simp only [Bool.and_eq_true] at hk
  have hr:=dx.1 hk.1
  subst hr
  exact ⟨_,congrArg (AV.ref r') (akT t p' hk.2),h⟩
def ayC(q:aB)(p:Path)(a:AV)(c:Nat→Nat→Tre R):Tre R:=match a with
 |.slc q' p' lo n=>if q'=q∧p'=p then c lo n else .fail
 |_=>.fail
theorem atQ{q:aB}{p:Path}{a:AV}{c:Nat→Nat→Tre R}(h:(ayC q p a c).run g=some r):∃lo n,a=.slc q p lo n∧(c lo n).run g=some r:=by
 unfold ayC at h
 split at h
 ·split at h
  ·rename_i hk;obtain ⟨rfl,rfl⟩:=hk;exact ⟨_,_,rfl,h⟩
  ·cases h
 ·cases h
def eF(q:aB)(p:Path)(a:AV)(c:Tre R):Tre R:=match a with
 |.ptr q' p'=>if q'=q∧p'=p then c else .fail
 |_=>.fail
theorem Im{q:aB}{p:Path}{a:AV}{c:Tre R}(h:(eF q p a c).run g=some r):a=.ptr q p∧c.run g=some r:=by
 unfold eF at h
 split at h
 ·split at h
  ·rename_i hk;obtain ⟨rfl,rfl⟩:=hk;exact ⟨rfl,h⟩
  ·cases h
 ·cases h
def Tk(f:Nat)(caps:List aB)(a:AV)(c:Tre R):Tre R:=match a with
 |.fn f' caps'=>if f'=f∧caps'=caps then c else .fail
 |_=>.fail
theorem Cq{f:Nat}{caps:List aB}{a:AV}{c:Tre R}(h:(Tk f caps a c).run g=some r):a=.fn f caps∧c.run g=some r:=by
 unfold Tk at h
 split at h
 ·split at h
  ·rename_i hk;obtain ⟨rfl,rfl⟩:=hk;exact ⟨rfl,h⟩
  ·cases h
 ·cases h
def avz(a:AV)(c:Tre R):Tre R:=match a with
 |.nil=>c
 |_=>.fail
theorem atP{a:AV}{c:Tre R}(h:(avz a c).run g=some r):a=.nil∧c.run g=some r:=by
 unfold avz at h
 split at h
 ·exact ⟨rfl,h⟩
 ·cases h
def ZJ(a:AV)(c:AV→AV→Tre R):Tre R:=match a with
 |.pair x y=>c x y
 |_=>.fail
theorem aqO{a:AV}{c:AV→AV→Tre R}(h:(ZJ a c).run g=some r):∃x y,a=.pair x y∧(c x y).run g=some r:=by
 unfold ZJ at h
 split at h
 ·exact ⟨_,_,rfl,h⟩
 ·cases h
def aC{α:Type}(l:List α)(c:α→List α→Tre R):Tre R:=match l with
 |x::y=>c x y
 |_=>.fail
theorem agu{α:Type}{l:List α}{c:α→List α→Tre R}(h:(aC l c).run g=some r):∃x y,l=x::y∧(c x y).run g=some r:=by
 unfold aC at h
 split at h
 ·exact ⟨_,_,rfl,h⟩
 ·cases h
def aM{α:Type}(l:List α)(c:Tre R):Tre R:=match l with
 |[]=>c
 |_=>.fail
theorem ZI{α:Type}{l:List α}{c:Tre R}(h:(aM l c).run g=some r):l=[]∧c.run g=some r:=by
 unfold aM at h
 split at h
 ·exact ⟨rfl,h⟩
 ·cases h
def wV(mem:Bool)(k:K)(x:Root)(c:Mask→k.den→Tre R):Tre R:=
 if h:x.k=k then (bif Bool.beq x.mem mem then c x.m (h ▸ x.d) else .fail) else .fail
 where Bool.beq:Bool→Bool→Bool
 |true,b=>b
 |false,b=>!b
theorem anG{mem:Bool}{k:K}{x:Root}{c:Mask→k.den→Tre R}(h:(wV mem k x c).run g=some r):∃m d,x=⟨mem,k,m,d⟩∧(c m d).run g=some r:=by
 obtain ⟨mem',k',m',d'⟩:=x
 unfold wV at h
 split at h
 ·rename_i hk
  have hk:k'=k:=hk
  subst hk
  cases mem'<;>cases mem<;>first|exact ⟨_,_,rfl,h⟩|cases h
 ·cases h
def bg(mem:Bool)(k:K)(o:Option Root)(c:Mask→k.den→Tre R):Tre R:=match o with
 |some x=>wV mem k x c
 |none=>.fail
theorem fQ{mem:Bool}{k:K}{o:Option Root}{c:Mask→k.den→Tre R}(h:(bg mem k o c).run g=some r):∃m d,o=some ⟨mem,k,m,d⟩∧(c m d).run g=some r:=by
 unfold bg at h
 split at h
 ·obtain ⟨m,d,hx,h2⟩:=anG h;exact ⟨m,d,by rw [hx],h2⟩
 ·cases h
def asM(m0 m:Mask)(c:Tre R):Tre R:=if m=m0 then c else .fail
theorem rO{m0 m:Mask}{c:Tre R}(h:(asM m0 m c).run g=some r):m=m0∧c.run g=some r:=by
 unfold asM at h
 split at h
 ·exact ⟨‹_›,h⟩
 ·cases h
def lu(m:Mask)(c:Bool→Tre R):Tre R:=match m with
 |.imm z=>c z
 |_=>.fail
theorem KM{m:Mask}{c:Bool→Tre R}(h:(lu m c).run g=some r):∃z,m=.imm z∧(c z).run g=some r:=by
 unfold lu at h
 split at h
 ·exact ⟨_,rfl,h⟩
 ·cases h
end
section
variable {σ β : Type}
def runN (step:σ→Tre (σ ⊕ β)):Nat→σ→Option β
 |0,_=>none
 |n+1,x=>(step x).run fun
  |.inl y=>runN step n y
  |.inr b=>some b
theorem OQ(step:σ→Tre (σ ⊕ β))(n:Nat)(x:σ):runN step (n+1) x=((step x).run some).bind fun
  |.inl y=>runN step n y
  |.inr b=>some b:=Tre.run_bind _ _
theorem axX(step:σ→Tre (σ ⊕ β)):∀(n:Nat)(x:σ)(b:β),runN step n x=some b→runN step (n+1) x=some b:=by
 intro n
 induction n with
 |zero=>intro x b h;cases h
 |succ n ih=>
  intro x b h
  rw [OQ] at h ⊢
  cases hs:(step x).run some with
  |none=>rw [hs] at h;cases h
  |some y=>
   rw [hs] at h
   cases y with
   |inl y=>exact ih y b h
   |inr y=>exact h
theorem ajf(step:σ→Tre (σ ⊕ β)){n m:Nat}(hnm:n≤m){x:σ}{b:β}(h:runN step n x=some b):runN step m x=some b:=by
 induction hnm with
 |refl=>exact h
 |step _ ih=>exact axX step _ _ _ ih
open Classical in
def aO (step:σ→Tre (σ ⊕ β)) (x:σ):Option β:=
 match runN step 1000000000000 x with
 |some b=>some b
 |none=>if h:∃b,∃n,runN step n x=some b then some (Classical.choose h) else none
theorem XH{step:σ→Tre (σ ⊕ β)}{x:σ}{b:β}:aO step x=some b ↔ ∃n,runN step n x=some b:=by
 unfold aO
 generalize hN:(1000000000000:Nat)=N
 cases hr:runN step N x with
 |some b'=>
  constructor
  ·intro h;cases h;exact ⟨N,hr⟩
  ·rintro ⟨n,hn⟩
   have h1:=ajf step (Nat.le_max_left n N) hn
   have h2:=ajf step (Nat.le_max_right n N) hr
   rw [h1] at h2
   exact h2.symm
 |none=>
  constructor
  ·intro h
   dsimp only at h
   split at h
   ·rename_i hx
    simp only [Option.some.injEq] at h
    rw [←h]
    exact Classical.choose_spec hx
   ·cases h
  ·rintro ⟨n,hn⟩
   have hx:∃b,∃n,runN step n x=some b:=⟨b,n,hn⟩
   dsimp only
   rw [dif_pos hx]
   obtain ⟨m,hm⟩:=Classical.choose_spec hx
   have h1:=ajf step (Nat.le_max_left n m) hn
   have h2:=ajf step (Nat.le_max_right n m) hm
   rw [h1] at h2
   exact h2.symm
theorem ar8(step:σ→Tre (σ ⊕ β))(x:σ):aO step x=((step x).run some).bind fun
  |.inl y=>aO step y
  |.inr b=>some b:=by
 apply Option.ext
 intro b
 rw [XH]
 constructor
 ·rintro ⟨n,hn⟩
  cases n with
  |zero=>cases hn
  |succ n=>
   rw [OQ] at hn
   cases hs:(step x).run some with
   |none=>rw [hs] at hn;cases hn
   |some y=>
    rw [hs] at hn
    cases y with
    |inl y=>exact XH.2 ⟨n,hn⟩
    |inr y=>exact hn
 ·intro h
  cases hs:(step x).run some with
  |none=>rw [hs] at h;cases h
  |some y=>
   rw [hs] at h
   cases y with
   |inl y=>
    obtain ⟨n,hn⟩:=XH.1 h
    exact ⟨n+1,by rw [OQ,hs];exact hn⟩
   |inr y=>exact ⟨1,by rw [OQ,hs];exact h⟩
variable {V : Env} {A : List (Nat × bq)}
def bR(kp kx:Keep)(c:St→Option (Ex×St))(e:Ex)(s:St):Option (Ex×St):=match e with
 |.normal=>c (restrict kp s)
 |e=>some (e,restrict kx s)
def bS(mk:σ→St)(out:β→Ex×St)(c:St→Option (Ex×St)):σ ⊕ β→Option (Ex×St)
 |.inl y=>c (mk y)
 |.inr b=>some (out b)
theorem axD{L:bq}{body:Code}{mk:σ→St}{out:β→Ex×St}{step:σ→Tre (σ ⊕ β)}
  (hstep:∀(x:σ)(c:St→Option (Ex×St)),den V A body (mk x) (bR L.kp L.kx c)=(step x).run (bS mk out c)):∀(n:Nat)(x:σ)(b:β),runN step n x=some b→iter L (fun s (c:Ex→St→Option (Ex×St))=>den V A body s c) n (mk x) (fun e s'=>some (e,s'))=some (out b):=by
 intro n
 induction n with
 |zero=>intro x b h;cases h
 |succ n ih=>
  intro x b h
  rw [OQ] at h
  have h1:=hstep x fun s=>iter L (fun s (c:Ex→St→Option (Ex×St))=>den V A body s c) n s (fun e s'=>some (e,s'))
  rw [Tre.run_bind] at h1
  refine Eq.trans (Eq.trans ?_ h1) ?_
  ·rfl
  cases hs:(step x).run some with
  |none=>rw [hs] at h;cases h
  |some y=>
   rw [hs] at h
   cases y with
   |inl y=>exact ih y b h
   |inr y=>cases h;rfl
def bP (T:List (Nat×AV)) (U:List (aB×Option Root)):St:=⟨aee T,ac6 U,Ng (ac6 U) (U.map (·.1))⟩
def allT(tm:TF):List (Nat×AV)→Prop
 |[]=>True
 | (t,v)::l=>tm t=v∧allT tm l
def ayy(rs:RF):List (aB×Option Root)→Prop
 |[]=>True
 | (q,x)::l=>rs q=x∧ayy rs l
theorem aAu{tm:TF}:∀(l:List Nat)(t:Nat),t∈l→aee (Y3 tm l) t=tm t:=by
 intro l
 induction l with
 |nil=>intro t h;cases h
 |cons x l ih=>
  intro t h
  simp only [Y3,aee]
  by_cases he:t=x
  ·rw [beq_iff.2 he];subst he;rfl
  ·rw [iw he]
   exact ih t ((List.mem_cons.1 h).resolve_left he)
theorem asC{rs:RF}:∀(l:List aB)(q:aB),q∈l→ac6 (keepR rs l) q=rs q:=by
 intro l
 induction l with
 |nil=>intro t h;cases h
 |cons x l ih=>
  intro t h
  simp only [keepR,ac6]
  by_cases he:t=x
  ·rw [dx.2 he];subst he;rfl
  ·rw [iy he]
   exact ih t ((List.mem_cons.1 h).resolve_left he)
theorem axE{tm:TF}:∀(T:List (Nat×AV)),allT tm T→Y3 tm (T.map (·.1))=T:=by
 intro T
 induction T with
 |nil=>intro _;rfl
 |cons x T ih=>intro h;obtain ⟨t,v⟩:=x;obtain ⟨h1,h2⟩:=h;simp only [List.map_cons,Y3,ih h2,h1]
theorem an3{rs:RF}:∀(U:List (aB×Option Root)),ayy rs U→keepR rs (U.map (·.1))=U:=by
 intro U
 induction U with
 |nil=>intro _;rfl
 |cons x U ih=>intro h;obtain ⟨t,v⟩:=x;obtain ⟨h1,h2⟩:=h;simp only [List.map_cons,keepR,ih h2,h1]
theorem apJ{rs rs':RF}:∀(l:List aB),(∀q∈l,rs' q=rs q)→Ng rs' l=Ng rs l:=by
 intro l
 induction l with
 |nil=>intro _;rfl
 |cons x l ih=>
  intro h
  funext n
  simp only [Ng]
  rw [h x (by simp),ih fun q hq=>h q (by simp [hq])]
theorem amo{kp:Keep}{s:St}:∀(T:List (Nat×AV)),(∀t∈T.map (·.1),t∈kp.1)→allT (restrict kp s).tmps T→allT s.tmps T:=by
 intro T
 induction T with
 |nil=>intro _ _;trivial
 |cons x T ih=>
  intro hm h
  obtain ⟨t,v⟩:=x
  refine ⟨?_,ih (fun u hu=>hm u (by simp at hu ⊢;exact .inr hu)) h.2⟩
  rw [←h.1]
  exact (aAu _ t (hm t (by simp))).symm
theorem amq{kp:Keep}{s:St}:∀(U:List (aB×Option Root)),(∀q∈U.map (·.1),q∈kp.2)→ayy (restrict kp s).roots U→ayy s.roots U:=by
 intro U
 induction U with
 |nil=>intro _ _;trivial
 |cons x U ih=>
  intro hm h
  obtain ⟨t,v⟩:=x
  refine ⟨?_,ih (fun u hu=>hm u (by simp at hu ⊢;exact .inr hu)) h.2⟩
  rw [←h.1]
  exact (asC _ t (hm t (by simp))).symm
theorem aP{kp:Keep}{s:St}{T:List (Nat×AV)}{U:List (aB×Option Root)}(h1:kp.1=T.map (·.1))(h2:kp.2=U.map (·.1))(hT:allT (restrict kp s).tmps T)(hU:ayy (restrict kp s).roots U):restrict kp s=bP T U:=by
 have hT':=amo T (by rw [h1];exact fun _ h=>h) hT
 have hU':=amq U (by rw [h2];exact fun _ h=>h) hU
 unfold restrict bP
 rw [h1,h2,axE T hT',an3 U hU']
 have:Ng s.roots (U.map (·.1))=Ng (ac6 U) (U.map (·.1)):=by
  refine apJ _ fun q hq=>?_
  have h3:=an3 U hU'
  rw [←asC (rs:=s.roots) (U.map (·.1)) q hq,h3]
 rw [this]
def fM:Code→List Code
 |.seq a b=>fM a++fM b
 |.cond _ a b=>fM a++fM b
 |.block _ a=>fM a
 |.loop a=>a::fM a
 |_=>[]
theorem akW:∀(c:Code),(∀a∈fM c,∀i L,fu a=some i→iq i A=some L→bQ V A a L)→sZ V A c:=by
 intro c
 induction c with
 |seq a b iha ihb=>intro h;exact ⟨iha fun x hx=>h x (by simp [fM,hx]),ihb fun x hx=>h x (by simp [fM,hx])⟩
 |cond x a b iha ihb=>intro h;exact ⟨iha fun x hx=>h x (by simp [fM,hx]),ihb fun x hx=>h x (by simp [fM,hx])⟩
 |block id a ih=>intro h;exact ih h
 |loop a ih=>intro h;exact ⟨ih fun x hx=>h x (by simp [fM,hx]),h a (by simp [fM])⟩
 |_=>intro _;trivial
def aT(c:Code)(n:Nat):Code:=(fM c).getD n .skip
theorem asa{c:Code}(h:(fM c).length=0):sZ V A c:=akW c fun a ha=>by rw [List.eq_nil_of_length_eq_zero h] at ha;cases ha
theorem ar9{c:Code}{n:Nat}(hn:(fM c).length=n)(h:∀k,k<n→∀i L,fu (aT c k)=some i→iq i A=some L→bQ V A (aT c k) L):sZ V A c:=by
 refine akW c fun a ha=>?_
 obtain ⟨k,hk,rfl⟩:=List.mem_iff_getElem.1 ha
 have:=h k (by omega)
 unfold aT at this
 rw [List.getD_eq_getElem?_getD,List.getElem?_eq_getElem hk] at this
 exact this
theorem axH{a:Code}{id:Nat}{L:bq}(h1:fu a=some id)(h2:iq id A=some L)(h:bQ V A a L):∀i L',fu a=some i→iq i A=some L'→bQ V A a L':=by
 intro i L' h3 h4
 rw [h1] at h3
 cases h3
 rw [h2] at h4
 cases h4
 exact h
theorem fK{a:Code}{L:bq} (h:∀(s:St)(e:Ex)(s':St),(L.sm (restrict L.kp s)).run some=some (e,s') →
  ∃(σ β:Type) (mk:σ→St) (out:β→Ex×St) (step:σ→Tre (σ ⊕ β)) (x:σ) (b:β),restrict L.kp s=mk x∧aO step x=some b∧out b=(e,s') ∧
   ∀(x:σ)(c:St→Option (Ex×St)),den V A a (mk x) (bR L.kp L.kx c)=(step x).run (bS mk out c)):bQ V A a L:=by
 intro s e s' hs
 obtain ⟨σ,β,mk,out,step,x,b,h1,h2,h3,h4⟩:=h s e s' hs
 obtain ⟨n,hn⟩:=XH.1 h2
 refine ⟨n,?_⟩
 rw [h1,←h3]
 exact axD h4 n x b hn
theorem xE{α:Type}{b:Bool}{t f:Tre α}{x y:α}(h1:t.run some=some x)(h2:f.run some=some y):(Tre.cond b t f).run some=some (cond b x y):=by cases b<;>assumption
theorem ajb{ρ γ δ:Type}{o:Option ρ}{out:ρ→γ}{x:δ}{c:γ→Option δ}(h:(Tre.mat o fun y=>Tre.ret (out y)).run c=some x):∃y,o=some y∧c (out y)=some x:=by
 rw [Tre.kg] at h
 cases o with
 |none=>cases h
 |some y=>exact ⟨y,rfl,h⟩
theorem gN{β δ α:Type}{o:Option β}{k:β→Tre α}{x:δ}{c:α→Option δ}(h:(Tre.mat o k).run c=some x):∃y,o=some y∧(k y).run c=some x:=by
 rw [Tre.kg] at h
 cases o with
 |none=>cases h
 |some y=>exact ⟨y,rfl,h⟩
theorem aAy{α δ:Type}{b:Bool}{A B:Tre α}{c:α→Option δ}{x:δ}(hb:b=true)(h:(cond b A B).run c=some x):A.run c=some x:=by subst hb;exact h
theorem ayn{α δ:Type}{b:Bool}{A B:Tre α}{c:α→Option δ}{x:δ}(hb:b=false)(h:(cond b A B).run c=some x):B.run c=some x:=by subst hb;exact h
theorem bn{ρ:Type}{t:Tre ρ}{out:ρ→au}{d:Option au}{co:au}(hd:d=t.run fun y=>some (out y))(h:(Tre.mat (t.run some) fun y=>Tre.ret (out y)).run some=some co):(Tre.mat d Tre.ret).run some=some co:=by
 obtain ⟨y,h1,h2⟩:=ajb h
 rw [hd,Tre.run_bind t,h1]
 exact h2
theorem tC{ρ:Type}{t:Tre ρ}{out:ρ→au}{d:Option au}{co:au}{y:ρ}(hd:d=t.run fun y=>some (out y))(hs:t.run some=some y)(h:(Tre.ret (out y):Tre au).run some=some co):(Tre.mat d Tre.ret).run some=some co:=by
 rw [hd,Tre.run_bind t,hs]
 exact h
theorem qE{ρ:Type}{t:Tre ρ}{out:ρ→au}{d:Option au}{co:au}{o:Option ρ}(hd:d=t.run fun y=>some (out y))(hs:∀y,o=some y→t.run some=some y)(h:(Tre.mat o fun y=>Tre.ret (out y)).run some=some co):(Tre.mat d Tre.ret).run some=some co:=by
 obtain ⟨y,h1,h2⟩:=ajb h
 exact tC hd (hs y h1) h2
theorem ajT{ρ:Type}{t:Tre ρ}{out:ρ→au}{k:ρ→Tre au}{d:Option au}{co:au}(hd:d=t.run fun y=>some (out y))(h:(Tre.mat (t.run some) k).run some=some co)(hk:∀x,(k x).run some=some (out x)):(Tre.mat d Tre.ret).run some=some co:=by
 obtain ⟨y,h1,h2⟩:=gN h
 rw [hk] at h2
 rw [hd,Tre.run_bind t,h1]
 exact h2
theorem aoN{P:Program}{Γ:Glb}{f:FuncId}{q0 q1 q:Ctr}{e:K}(h0:Contract P Γ f q0)(h1:Contract P Γ f q1) (hq:∀ci co,(q.G ci).run some=some co→∃z d,ci=⟨[.imm z (.sl e) d],[]⟩ ∧
  (q1.G ⟨[.nn z e d],[]⟩).run some=some co∧(d=[]→(q0.G ⟨[.nil],[]⟩).run some=some co)) (hs:q.soft=false:=by rfl):Contract P Γ f q:=by
 intro w C ci co vals hM hptr hsz hvals hgl hG
 obtain ⟨z,d,rfl,g1,g0⟩:=hq ci co hG
 obtain ⟨v,rfl⟩:∃v,vals = #[v]:=by
  match vals,hsz with
  |⟨[v]⟩,_=>exact ⟨v,rfl⟩
 have hv:=hvals 0 v _ rfl rfl
 obtain ⟨hA,hc⟩:=hv.cell (by simp) rfl (by simp) (by simp)
 have key:(v=.slice none 0 0∧d=[])∨∃a n c,v=.slice (some a) n c:=by
  rcases hA.2 with ⟨h,_⟩|⟨_,rfl,a,h⟩|⟨_,b,off,cap,c,T,fz,h,_⟩
  ·cases h
  ·simp only [List.cons.injEq,and_true] at h
   cases a with
   |none=>exact .inl ⟨h,rfl⟩
   |some a=>exact .inr ⟨a,_,_,h⟩
  ·simp only [List.cons.injEq,and_true] at h
   exact .inr ⟨_,_,_,h⟩
 have one:∀{av:AV},bT w C (ac8 []) v av→∀(i:Nat)(v':Value)(a:AV),(#[v]:Array Value)[i]?=some v'→[av][i]?=some a→bT w C (ac8 []) v' a:=by
  intro av hav i v' a h1 h2
  cases i with
  |zero=>simp only [List.getElem?_cons_zero,Option.some.injEq] at h2;subst h2;simp at h1;subst h1;exact hav
  |succ i=>simp at h2
 have conv:∀{args:List AV}{sf:Bool}{e':Ending}{w':World},(match e' with
   |.returned v=>∃C',Uu w C ⟨args,[]⟩ co v w' C'∧(sf=true→ajn w C ⟨args,[]⟩ co w' C')
   |_=>False)→(match e' with
   |.returned v=>∃C',Uu w C ⟨[.imm z (.sl e) d],[]⟩ co v w' C'∧(q.soft=true→ajn w C ⟨[.imm z (.sl e) d],[]⟩ co w' C')
   |_=>False):=by
  intro args sf e' w' h
  cases e' with
  |returned v=>obtain ⟨C',hp,_⟩:=h;exact ⟨C',⟨hp.Z,hp.S,hp.θ,hp.mem,hp.val,hp.ρ,hp.kept,hp.foot,hp.zn⟩,fun h=>by rw [hs] at h;cases h⟩
  |_=>exact h
 rcases key with ⟨rfl,hd⟩|⟨a,n,c,rfl⟩
 ·refine Calls.mono ?_ (fun e' w' h=>conv (args:=[.nil]) (sf:=q0.soft) h)
  exact h0 w C ⟨[.nil],[]⟩ co #[.slice none 0 0] hM (by simp) rfl (one (.inl (.inr (.inr ⟨rfl,rfl,rfl⟩)))) hgl (g0 hd)
 ·refine Calls.mono ?_ (fun e' w' h=>conv (args:=[.nn z e d]) (sf:=q1.soft) h)
  exact h1 w C ⟨[.nn z e d],[]⟩ co #[.slice (some a) n c] hM (by simp) rfl (one (.inl (.inr (.inr ⟨rfl,⟨hA.1,hA.2,a,n,c,rfl⟩,rfl⟩)))) hgl g1
def _root_.Go.Abs.AV.isRef:AV→Bool
 |.ref _ _=>true
 |_=>false
end
end Go.Abs
namespace Go.Abs
theorem dP{n:Int}(h1:-9223372036854775808≤n)(h2:n≤9223372036854775807):aI .i64 n=n:=Go.IntWalk.i64_in n ⟨h1,h2⟩
theorem aR{i:Nat}(h:i<4611686018427387904):aI .i64 ((i:Int)+1)=((i+1:Nat):Int):=by
 rw [dP (by omega) (by omega)];rfl
theorem afb{n:Int}(h1:0≤n)(h2:n≤18446744073709551615):aI .u64 n=n:=by
 unfold aI IntKind.wrap
 simp only [IntKind.signed,IntKind.bits,Bool.false_and,Bool.false_eq_true,if_false]
 exact Int.emod_eq_of_lt h1 (by omega)
theorem Oz(n:Int):0≤aI .u64 n:=by
 unfold aI IntKind.wrap
 simp only [IntKind.signed,IntKind.bits,Bool.false_and,Bool.false_eq_true,if_false]
 exact Int.emod_nonneg _ (by decide)
def inR(n a b:Int):Bool:=decide (a≤n)&&decide (n≤b)
theorem gV{n a b:Int}:inR n a b=true↔a≤n∧n≤b:=by simp [inR]
theorem axB{n a b:Int}:inR n a b=false↔n<a∨b<n:=by
 cases h:inR n a b with
 |true=>rw [gV] at h;simp;omega
 |false=>
  simp only [true_iff]
  have:¬(a≤n∧n≤b):=fun h2=>by rw [gV.2 h2] at h;cases h
  omega
def ajx{α:Type}(b:Bool)(x:α):Option α:=cond b (some x) none
theorem rY{α:Type}{b:Bool}{x y:α}(h:ajx b x=some y):b=true∧x=y:=by
 cases b with
 |true=>exact ⟨rfl,Option.some.inj h⟩
 |false=>cases h
theorem jJ{α:Type}{b:Bool}{x:α}(h:b=true):ajx b x=some x:=by rw [h];rfl
def lim{α:Type}(n:Nat)(x:α):Option α:=if n≤1048576 then some x else none
theorem acN{α:Type}{n:Nat}{x y:α}(h:lim n x=some y):n≤1048576∧x=y:=by
 unfold lim at h
 split at h
 ·exact ⟨‹_›,Option.some.inj h⟩
 ·cases h
theorem FH{α:Type}{n:Nat}{x:α}(h:n≤1048576):lim n x=some x:=if_pos h
abbrev fT{α:Type}(xs:List α):Option (List α):=lim xs.length xs
section
variable {σ β α γ ρ R : Type} {step : σ → Tre (σ ⊕ β)}
theorem mM{x y:σ}(h:(step x).run some=some (.inl y)):aO step x=aO step y:=by rw [ar8,h];rfl
theorem fO{x:σ}{b:β}(h:(step x).run some=some (.inr b)):aO step x=some b:=by rw [ar8,h];rfl
theorem dX{xs:List α}{i:Nat}{x:α}{k:α→Tre ρ}{e:Tre ρ}{c:ρ→Option R}(h:xs[i]?=some x) :
  (Tre.cond (decide ((i:Int)<(xs.length:Int))) (.ite (0≤(i:Int)∧(i:Int)<(xs.length:Int)) (.mat xs[(i:Int).toNat]? k)) e).run c=(k x).run c:=by
 have hi:i<xs.length:=(List.getElem?_eq_some_iff.1 h).1
 rw [Tre.aA,show decide ((i:Int)<(xs.length:Int))=true from by simp;omega,cond_true,Tre.run_ite,if_pos ⟨by omega,by omega⟩,Tre.kg,Int.toNat_natCast,h]
 rfl
theorem dN{xs:List α}{i:Nat}{x:α}{k:α→Tre ρ}{c:ρ→Option R}(h:xs[i]?=some x) :
  (Tre.ite (0≤(i:Int)∧(i:Int)<(xs.length:Int)) (.mat xs[(i:Int).toNat]? k)).run c=(k x).run c:=by
 have hi:i<xs.length:=(List.getElem?_eq_some_iff.1 h).1
 rw [Tre.run_ite,if_pos ⟨by omega,by omega⟩,Tre.kg,Int.toNat_natCast,h]
 rfl
theorem dF{n:Int}{t e:Tre ρ}{c:ρ→Option R}:(Tre.cond (decide (n<n)) t e).run c=e.run c:=by
 rw [Tre.aA,show decide (n<n)=false from by simp];rfl
theorem ah{o:Option α}{x:α}{k:α→Tre ρ}{c:ρ→Option R}(h:o=some x):(Tre.mat o k).run c=(k x).run c:=by rw [Tre.kg,h];rfl
def qp(f:Nat→γ→α→γ ⊕ β)(fin:γ→β):Nat→γ→List α→β
 |_,acc,[]=>fin acc
 |i,acc,x::l=>match f i acc x with
  |.inl a=>qp f fin (i+1) a l
  |.inr b=>b
theorem kN{xs:List α}(st:Nat→γ→σ)(f:Nat→γ→α→γ ⊕ β)(fin:γ→β)(I:Nat→γ→Prop)
  (hs:∀i acc x,xs[i]?=some x→I i acc→(step (st i acc)).run some=some (match f i acc x with
   |.inl a=>.inl (st (i+1) a)
   |.inr b=>.inr b)∧∀a,f i acc x=.inl a→I (i+1) a)
  (he:∀acc,I xs.length acc→(step (st xs.length acc)).run some=some (.inr (fin acc))):∀(l:List α)(i:Nat)(acc:γ),xs.drop i=l→i≤xs.length→I i acc→aO step (st i acc)=some (qp f fin i acc l):=by
 intro l
 induction l with
 |nil=>
  intro i acc hl hi hI
  have:i=xs.length:=by have:=List.drop_eq_nil_iff.1 hl;omega
  subst this
  exact fO (he acc hI)
 |cons x l ih=>
  intro i acc hl hi hI
  have hx:xs[i]?=some x:=by
   have:=congrArg (·[0]?) hl
   simpa using this
  have hi':i<xs.length:=(List.getElem?_eq_some_iff.1 hx).1
  obtain ⟨h1,h2⟩:=hs i acc x hx hI
  simp only [qp]
  cases hf:f i acc x with
  |inl a=>
   rw [hf] at h1
   rw [mM h1]
   exact ih (i+1) a (by rw [←List.drop_drop,hl];rfl) (by omega) (h2 a hf)
  |inr b=>
   rw [hf] at h1
   exact fO h1
theorem auq{xs:List α}(st:Nat→γ→σ)(f:Nat→γ→α→γ ⊕ β)(fin:γ→β)
  (hs:∀i acc x,xs[i]?=some x→(step (st i acc)).run some=some (match f i acc x with
   |.inl a=>.inl (st (i+1) a)
   |.inr b=>.inr b))
  (he:∀acc,(step (st xs.length acc)).run some=some (.inr (fin acc))) (acc:γ):aO step (st 0 acc)=some (qp f fin 0 acc xs):=
 kN (xs:=xs) st f fin (fun _ _=>True) (fun i a x h _=>⟨hs i a x h,fun _ _=>trivial⟩) (fun a _=>he a) xs 0 acc rfl (Nat.zero_le _) trivial
def Ga(f:Nat→α→Option β)(fin:β):Nat→List α→β
 |_,[]=>fin
 |i,x::l=>match f i x with
  |some b=>b
  |none=>Ga f fin (i+1) l
theorem vC{step:Int→Tre (Int ⊕ β)}{xs:List α}(f:Nat→α→Option β)(fin:β)
  (hs:∀(i:Nat) x,xs[i]?=some x→(step (i:Int)).run some=some (match f i x with
   |none=>.inl ((i+1:Nat):Int)
   |some b=>.inr b)) (he:(step (xs.length:Int)).run some=some (.inr fin)):aO step 0=some (Ga f fin 0 xs):=by
 have key:∀(l:List α)(i:Nat),xs.drop i=l→i≤xs.length→aO step (i:Int)=some (Ga f fin i l):=by
  intro l
  induction l with
  |nil=>
   intro i hl hi
   have:i=xs.length:=by have:=List.drop_eq_nil_iff.1 hl;omega
   subst this
   exact fO he
  |cons x l ih=>
   intro i hl hi
   have hx:xs[i]?=some x:=by
    have:=congrArg (·[0]?) hl
    simpa using this
   have hi':i<xs.length:=(List.getElem?_eq_some_iff.1 hx).1
   have h1:=hs i x hx
   simp only [Ga]
   cases hf:f i x with
   |none=>
    rw [hf] at h1
    rw [mM h1]
    exact ih (i+1) (by rw [←List.drop_drop,hl];rfl) (by omega)
   |some b=>
    rw [hf] at h1
    exact fO h1
 exact key xs 0 rfl (Nat.zero_le _)
theorem axi{p:α→Bool}{b c:β}:∀(l:List α)(i:Nat),Ga (fun _ x=>cond (p x) none (some b)) c i l=cond (l.all p) c b:=by
 intro l
 induction l with
 |nil=>intro i;rfl
 |cons x l ih=>
  intro i
  simp only [Ga,List.all_cons]
  cases p x with
  |true=>simp only [cond_true,Bool.true_and];exact ih _
  |false=>rfl
def ny(p:α→Bool):Nat→List α→Int
 |_,[]=>-1
 |i,x::l=>cond (p x) (i:Int) (ny p (i+1) l)
theorem NI{p:α→Bool}:∀(l:List α)(i:Nat),(match Ga (β:=Int ⊕ Unit) (fun i x=>cond (p x) (some (.inl (i:Int))) none) (.inr ()) i l with
  |.inl n=>n
  |.inr _=>-1)=ny p i l:=by
 intro l
 induction l with
 |nil=>intro i;rfl
 |cons x l ih=>
  intro i
  simp only [Ga,ny]
  cases p x with
  |true=>rfl
  |false=>exact ih _
theorem arP{p:α→Bool}:∀(l:List α)(i:Nat),decide (ny p i l ≥ 0)=l.any p:=by
 intro l
 induction l with
 |nil=>intro i;rfl
 |cons x l ih=>
  intro i
  simp only [ny,List.any_cons]
  rcases Bool.eq_false_or_eq_true (p x) with hp|hp
  ·simp [hp]
  ·have:=ih (i+1)
   simp only [hp,cond_false,Bool.false_or]
   exact this
end
def eqR{α:Type} [DecidableEq α] (n:Nat) (x y:α):Option Bool:=if n≤1048576∧x=y then some true else none
theorem azc{α:Type} [DecidableEq α] {n:Nat} {x y:α} {b:Bool} (h:eqR n x y=some b):n≤1048576∧x=y∧b=true:=by
 unfold eqR at h
 split at h
 ·rename_i hh;exact ⟨hh.1,hh.2,(Option.some.inj h).symm⟩
 ·cases h
theorem abL{α:Type} [DecidableEq α] {n:Nat} {x:α} (h:n≤1048576):eqR n x x=some true:=if_pos ⟨h,rfl⟩
def aAv(m:Int):Int:=aI .i64 (Ua .i64 1 m-1)
def inP(m x:Int):Bool:=inR x 0 (aAv m)
theorem axk{α β:Type}(fin:List α→β):∀(l:List α)(i:Nat)(acc:List α),acc.length=i+l.length→qp (fun i acc x=>(.inl (acc.set i x):List α ⊕ β)) fin i acc l=fin (acc.take i++l):=by
 intro l
 induction l with
 |nil=>intro i acc h;simp only [qp,List.append_nil];rw [List.take_of_length_le (by simp at h;omega)]
 |cons x l ih=>
  intro i acc h
  simp only [qp]
  simp only [List.length_cons] at h
  rw [ih (i+1) (acc.set i x) (by simp;omega)]
  congr 1
  rw [List.take_set,List.take_add_one]
  have hi:i<acc.length:=by omega
  rw [List.getElem?_eq_getElem hi]
  rw [List.set_append]
  simp [List.length_take,Nat.min_eq_left (Nat.le_of_lt hi)]
end Go.Abs
namespace Go.Abs
theorem Ih{n:Nat}(h:n<9223372036854775808):aI .i64 (n:Int)=n:=dP (by omega) (by omega)
theorem XI{n:Nat}(h:n<18446744073709551616):(BitVec.ofInt 64 (n:Int)).toNat=n:=by
 rw [BitVec.ofInt_natCast,BitVec.toNat_ofNat,Nat.mod_eq_of_lt h]
theorem nT{a b:Nat}(ha:a<2 ^ 63)(hb:b<2 ^ 63):jw .i64 (a:Int) (b:Int)=((a^^^b:Nat):Int):=by
 have hx:a^^^b<2 ^ 63:=Nat.xor_lt_two_pow ha hb
 have:(BitVec.ofInt 64 (a:Int)^^^BitVec.ofInt 64 (b:Int)).toNat=a^^^b:=by
  rw [BitVec.toNat_xor,XI (by omega),XI (by omega)]
 unfold jw
 show aI .i64 (((BitVec.ofInt 64 (a:Int)^^^BitVec.ofInt 64 (b:Int)).toNat:Nat):Int)=_
 rw [this,Ih (by omega)]
theorem azt{a b:Nat}(ha:a<2 ^ 63)(hb:b<2 ^ 63):ah7 .i64 (a:Int) (b:Int)=((a&&&b:Nat):Int):=by
 have hx:a&&&b<2 ^ 63:=Nat.and_lt_two_pow _ hb
 have:(BitVec.ofInt 64 (a:Int)&&&BitVec.ofInt 64 (b:Int)).toNat=a&&&b:=by
  rw [BitVec.toNat_and,XI (by omega),XI (by omega)]
 unfold ah7
 show aI .i64 (((BitVec.ofInt 64 (a:Int)&&&BitVec.ofInt 64 (b:Int)).toNat:Nat):Int)=_
 rw [this,Ih (by omega)]
theorem azA{a j:Nat}(hj:j≤64):aaA .i64 (a:Int) (j:Int)=((a >>> j:Nat):Int):=by
 unfold aaA
 rw [Int.toNat_natCast,show min j (IntKind.bits .i64)=j from Nat.min_eq_left hj,Nat.shiftRight_eq_div_pow,Int.fdiv_eq_ediv_of_nonneg _ (by exact_mod_cast Nat.zero_le _)]
 push_cast
 rfl
def BH(x j:Int):Bool:=decide (ah7 .i64 (aaA .i64 x j) 1=1)
theorem Ib{a j:Nat}(ha:a<2 ^ 63)(hj:j≤64):BH (a:Int) (j:Int)=a.testBit j:=by
 have h1:a >>> j<2 ^ 63:=by rw [Nat.shiftRight_eq_div_pow];exact Nat.lt_of_le_of_lt (Nat.div_le_self _ _) ha
 unfold BH
 rw [azA hj,show (1:Int)=((1:Nat):Int) from rfl,azt h1 (by decide),Nat.and_one_is_mod,Nat.testBit_eq_decide_div_mod_eq,Nat.shiftRight_eq_div_pow]
 rw [Bool.eq_iff_iff]
 simp only [decide_eq_true_eq]
 omega
inductive Sp (l:List Nat):Nat→Prop
 |zero:Sp l 0
 |add {r v:Nat}:r∈l→Sp l v→Sp l (r^^^v)
theorem Sp.mem{l:List Nat}{r:Nat}(h:r∈l):Sp l r:=by
 have:=Sp.add h (Sp.zero)
 rwa [Nat.xor_zero] at this
theorem Sp.xor{l:List Nat}{a b:Nat}(ha:Sp l a)(hb:Sp l b):Sp l (a^^^b):=by
 induction ha with
 |zero=>rwa [Nat.zero_xor]
 |add h _ ih=>rw [Nat.xor_assoc];exact .add h ih
theorem Sp.trans{l l':List Nat}(h:∀r∈l,Sp l' r){v:Nat}(hv:Sp l v):Sp l' v:=by
 induction hv with
 |zero=>exact .zero
 |add hr _ ih=>exact (h _ hr).xor ih
def Lo(r p:Nat):Prop:=r.testBit p=true∧∀q,q<p→r.testBit q=false
theorem Lo.uniq{r p q:Nat}(h1:Lo r p)(h2:Lo r q):p=q:=by
 rcases Nat.lt_trichotomy p q with h|h|h
 ·have:=h2.2 p h;rw [h1.1] at this;cases this
 ·exact h
 ·have:=h1.2 q h;rw [h2.1] at this;cases this
def Red(c:Nat)(E:List (Nat×Nat)):Prop:=(∀a∈E,a.1<c∧Lo a.2 a.1)∧E.Pairwise fun a b=>a.1<b.1∧a.2.testBit b.1=false
def comb(f:Nat→Bool):List (Nat×Nat)→Nat
 |[]=>0
 |a::l=>cond (f a.1) (a.2^^^comb f l) (comb f l)
theorem ayI(f g:Nat→Bool):∀l:List (Nat×Nat),comb (fun x=>f x ^^ g x) l=comb f l^^^comb g l:=by
 intro l
 induction l with
 |nil=>exact (Nat.xor_self 0).symm
 |cons a l ih=>
  simp only [comb,ih]
  cases f a.1<;>cases g a.1<;>simp only [Bool.false_xor,Bool.true_xor,Bool.not_true,Bool.not_false,cond_true,cond_false]
  ·rw [←Nat.xor_assoc,←Nat.xor_assoc,Nat.xor_comm a.2]
  ·rw [Nat.xor_assoc]
  ·rw [Nat.xor_assoc a.2,Nat.xor_comm (comb f l) (a.2^^^comb g l),←Nat.xor_assoc,←Nat.xor_assoc,Nat.xor_self,Nat.zero_xor,Nat.xor_comm]
theorem aeu(f:Nat→Bool):∀l:List (Nat×Nat),(∀a∈l,f a.1=false)→comb f l=0:=by
 intro l h
 induction l with
 |nil=>rfl
 |cons a l ih=>simp only [comb,h a (.head _),cond_false];exact ih fun x hx=>h x (.tail _ hx)
theorem ZO(f:Nat→Bool){p:Nat}:∀l:List (Nat×Nat),(∀a∈l,a.2.testBit p=false)→(comb f l).testBit p=false:=by
 intro l h
 induction l with
 |nil=>simp [comb]
 |cons a l ih=>
  have:=ih fun x hx=>h x (.tail _ hx)
  simp only [comb]
  cases f a.1
  ·exact this
  ·simp [Nat.testBit_xor,this,h a (.head _)]
theorem Red.tail{c:Nat}{a:Nat×Nat}{l:List (Nat×Nat)}(h:Red c (a::l)):Red c l:=⟨fun x hx=>h.1 x (.tail _ hx),(List.pairwise_cons.1 h.2).2⟩
theorem ayH{c:Nat}:∀(E:List (Nat×Nat)),Red c E→∀a∈E,comb (fun p=>p == a.1) E=a.2:=by
 intro E
 induction E with
 |nil=>intro _ a ha;cases ha
 |cons b l ih=>
  intro h a ha
  have hp:=(List.pairwise_cons.1 h.2).1
  simp only [comb]
  cases ha with
  |head=>
   rw [aeu _ l fun x hx=>by have:=(hp x hx).1;simp;omega]
   simp
  |tail _ ha=>
   have:(b.1 == a.1)=false:=by have:=(hp a ha).1;simp;omega
   rw [this]
   exact ih h.tail a ha
theorem Sp.comb{c:Nat}{E:List (Nat×Nat)}(h:Red c E){v:Nat}(hv:Sp (E.map (·.2)) v):∃f,v=Abs.comb f E:=by
 induction hv with
 |zero=>exact ⟨fun _=>false,(aeu _ _ fun _ _=>rfl).symm⟩
 |add hr _ ih=>
  obtain ⟨f,rfl⟩:=ih
  obtain ⟨a,ha,rfl⟩:=List.mem_map.1 hr
  exact ⟨_,by rw [ayI (fun p=>p == a.1) f,ayH E h a ha]⟩
theorem ayF{c:Nat}(f:Nat→Bool):∀(E:List (Nat×Nat)),Red c E→∀a∈E,(comb f E).testBit a.1=f a.1:=by
 intro E
 induction E with
 |nil=>intro _ a ha;cases ha
 |cons b l ih=>
  intro h a ha
  have hp:=(List.pairwise_cons.1 h.2).1
  simp only [comb]
  cases ha with
  |head=>
   have h0:(comb f l).testBit b.1=false:=ZO f l fun x hx=>(h.1 x (.tail _ hx)).2.2 _ (hp x hx).1
   cases hf:f b.1
   ·exact h0
   ·simp [Nat.testBit_xor,h0,(h.1 b (.head _)).2.1]
  |tail _ ha=>
   have hb:=(hp a ha).2
   have:=ih h.tail a ha
   cases f b.1
   ·exact this
   ·simp [Nat.testBit_xor,this,hb]
theorem ayG{c:Nat}(f:Nat→Bool):∀(E:List (Nat×Nat)),Red c E→comb f E=0∨∃a∈E,Lo (comb f E) a.1:=by
 intro E
 induction E with
 |nil=>intro _;exact .inl rfl
 |cons b l ih=>
  intro h
  have hp:=(List.pairwise_cons.1 h.2).1
  have hb:=(h.1 b (.head _)).2
  simp only [comb]
  cases f b.1
  ·rcases ih h.tail with h0|⟨a,ha,hl⟩
   ·exact .inl h0
   ·exact .inr ⟨a,.tail _ ha,hl⟩
  ·refine .inr ⟨b,.head _,?_,fun q hq=>?_⟩
   ·have h0:(comb f l).testBit b.1=false:=ZO f l fun x hx=>(h.1 x (.tail _ hx)).2.2 _ (hp x hx).1
    simp [Nat.testBit_xor,h0,hb.1]
   ·have h0:(comb f l).testBit q=false:=ZO f l fun x hx=>(h.1 x (.tail _ hx)).2.2 _ (Nat.lt_trans hq (hp x hx).1)
    simp [Nat.testBit_xor,h0,hb.2 q hq]
theorem Red.apart{c:Nat}:∀{E:List (Nat×Nat)},Red c E→∀{a b:Nat×Nat},a∈E→b∈E→a.1≠b.1→a.2.testBit b.1=false:=by
 intro E
 induction E with
 |nil=>intro _ a b ha;cases ha
 |cons x l ih=>
  intro h a b ha hb hne
  have hp:=(List.pairwise_cons.1 h.2).1
  cases ha with
  |head=>
   cases hb with
   |head=>exact absurd rfl hne
   |tail _ hb=>exact (hp b hb).2
  |tail _ ha=>
   cases hb with
   |head=>exact (h.1 a (.tail _ ha)).2.2 _ (hp a ha).1
   |tail _ hb=>exact ih h.tail ha hb hne
theorem Red.find{c:Nat}{E:List (Nat×Nat)}(h:Red c E){v p:Nat}(hv:Sp (E.map (·.2)) v)(hl:Lo v p):∃a∈E,a.1=p:=by
 obtain ⟨f,rfl⟩:=hv.comb h
 rcases ayG f E h with h0|⟨a,ha,hl'⟩
 ·rw [h0] at hl;have:=hl.1;simp at this
 ·exact ⟨a,ha,hl'.uniq hl⟩
theorem Red.sub{c c':Nat}{E E':List (Nat×Nat)}(h:Red c E)(h':Red c' E')(hs:∀v,Sp (E.map (·.2)) v↔Sp (E'.map (·.2)) v):∀a∈E,a∈E':=by
 intro a ha
 have ha1:=(h.1 a ha).2
 have hin:∀b∈E,∃b'∈E',b'.1=b.1:=fun b hb=>h'.find ((hs _).1 (.mem (List.mem_map.2 ⟨b,hb,rfl⟩))) (h.1 b hb).2
 obtain ⟨a',ha',he⟩:=hin a ha
 have ha1':=(h'.1 a' ha').2
 have hw:Sp (E.map (·.2)) (a.2^^^a'.2):=(Sp.mem (List.mem_map.2 ⟨a,ha,rfl⟩)).xor ((hs _).2 (.mem (List.mem_map.2 ⟨a',ha',rfl⟩)))
 obtain ⟨g,hg⟩:=hw.comb h
 have hz:∀b∈E,g b.1=false:=by
  intro b hb
  rw [←ayF g E h b hb,←hg,Nat.testBit_xor]
  by_cases hab:a.1=b.1
  ·rw [←hab,ha1.1,←he,ha1'.1];rfl
  ·obtain ⟨b',hb',he'⟩:=hin b hb
   rw [h.apart ha hb hab,←he',h'.apart ha' hb' (by rw [he,he'];exact hab)];rfl
 rw [aeu g E hz] at hg
 have h2:a.2=a'.2:=by
  have h3:=congrArg (· ^^^ a'.2) hg
  simp only [Nat.xor_assoc,Nat.xor_self,Nat.xor_zero,Nat.zero_xor] at h3
  exact h3
 have:a=a':=Prod.ext he.symm h2
 rw [this]
 exact ha'
theorem ayh:∀(E E':List (Nat×Nat)),(E.Pairwise fun a b=>a.1<b.1)→(E'.Pairwise fun a b=>a.1<b.1)→(∀a∈E,a∈E')→(∀a∈E',a∈E)→E=E':=by
 intro E
 induction E with
 |nil=>
  intro E' _ _ _ h
  cases E' with
  |nil=>rfl
  |cons b l=>have:=h b (.head _);cases this
 |cons a l ih=>
  intro E' hE hE' h1 h2
  cases E' with
  |nil=>have:=h1 a (.head _);cases this
  |cons b l'=>
   have hp:=List.pairwise_cons.1 hE
   have hp':=List.pairwise_cons.1 hE'
   have hab:a=b:=by
    have i1:=h1 a (.head _)
    have i2:=h2 b (.head _)
    cases i1 with
    |head=>rfl
    |tail _ i1=>
     cases i2 with
     |head=>rfl
     |tail _ i2=>have:=hp'.1 a i1;have:=hp.1 b i2;omega
   subst hab
   congr 1
   refine ih l' hp.2 hp'.2 (fun x hx=>?_) (fun x hx=>?_)
   ·have:=h1 x (.tail _ hx)
    cases this with
    |head=>have:=hp.1 _ hx;omega
    |tail _ h=>exact h
   ·have:=h2 x (.tail _ hx)
    cases this with
    |head=>have:=hp'.1 _ hx;omega
    |tail _ h=>exact h
theorem Red.uniq{c c':Nat}{E E':List (Nat×Nat)}(h:Red c E)(h':Red c' E')(hs:∀v,Sp (E.map (·.2)) v↔Sp (E'.map (·.2)) v):E=E':=
 ayh E E' (h.2.imp fun h=>h.1) (h'.2.imp fun h=>h.1) (h.sub h' hs) (h'.sub h fun v=>(hs v).symm)
def rM(rows E:List Nat):Prop:=∃P c,Red c P∧P.map (·.2)=E∧∀v,Sp rows v↔Sp E v
def ech (rows:List Nat):List Nat:=by
 classical
 exact if h:∃E,rM rows E then Classical.choose h else []
theorem rM.eq{rows E E':List Nat}(h:rM rows E)(h':rM rows E'):E=E':=by
 obtain ⟨P,c,hr,rfl,hs⟩:=h
 obtain ⟨P',c',hr',rfl,hs'⟩:=h'
 rw [hr.uniq hr' fun v=>(hs v).symm.trans (hs' v)]
theorem auk{rows E:List Nat}(h:rM rows E):ech rows=E:=by
 have hx:∃E,rM rows E:=⟨E,h⟩
 unfold ech
 rw [dif_pos hx]
 exact (Classical.choose_spec hx).eq h
def iD(c r x:Nat):Nat:=cond (x.testBit c) (x^^^r) x
theorem anP{c r x:Nat}(hr:r.testBit c=true):(iD c r x).testBit c=false:=by
 unfold iD
 cases h:x.testBit c
 ·exact h
 ·simp [Nat.testBit_xor,h,hr]
theorem Xv{c r x q:Nat}(hr:r.testBit q=false):(iD c r x).testBit q=x.testBit q:=by
 unfold iD
 cases x.testBit c
 ·rfl
 ·simp [Nat.testBit_xor,hr]
theorem abK{c r x b:Nat}(hr:r<2 ^ b)(hx:x<2 ^ b):iD c r x<2 ^ b:=by
 unfold iD
 cases x.testBit c
 ·exact hx
 ·exact Nat.xor_lt_two_pow hx hr
structure Inv(orig:List Nat)(c:Nat)(E:List (Nat×Nat))(R:List Nat):Prop where
 red:Red c E
 low:∀x∈R,∀q,q<c→x.testBit q=false
 span:∀v,Sp orig v↔Sp (E.map (·.2)++R) v
theorem Inv.skip{orig:List Nat}{c:Nat}{E:List (Nat×Nat)}{R:List Nat}(h:Inv orig c E R)(hc:∀x∈R,x.testBit c=false):Inv orig (c+1) E R:=
 ⟨⟨fun a ha=>⟨Nat.lt_succ_of_lt (h.red.1 a ha).1,(h.red.1 a ha).2⟩,h.red.2⟩,fun x hx q hq=>by
  rcases Nat.lt_succ_iff_lt_or_eq.1 hq with h1|rfl
  ·exact h.low x hx q h1
  ·exact hc x hx,h.span⟩
theorem Inv.step{orig:List Nat}{c:Nat}{E:List (Nat×Nat)}{R R':List Nat}{r:Nat}(h:Inv orig c E R)(hr:r∈R)(hb:r.testBit c=true)
  (h1:∀y∈R',y=0∨∃x∈R,y=iD c r x) (h2:∀x∈R,x=r∨iD c r x∈R'):Inv orig (c+1) (E.map (fun a=>(a.1,iD c r a.2))++[(c,r)]) R':=by
 have hlow:=h.low r hr
 refine ⟨⟨?_,?_⟩,?_,?_⟩
 ·intro a ha
  rcases List.mem_append.1 ha with ha|ha
  ·obtain ⟨b,hb',rfl⟩:=List.mem_map.1 ha
   obtain ⟨i1,i2⟩:=h.red.1 b hb'
   refine ⟨Nat.lt_succ_of_lt i1,?_,fun q hq=>?_⟩
   ·dsimp only;rw [Xv (hlow _ i1)];exact i2.1
   ·dsimp only at hq ⊢;rw [Xv (hlow _ (Nat.lt_trans hq i1))];exact i2.2 q hq
  ·simp only [List.mem_singleton] at ha
   subst ha
   exact ⟨Nat.lt_succ_self _,hb,hlow⟩
 ·refine List.pairwise_append.2 ⟨?_,List.pairwise_singleton _ _,?_⟩
  ·refine List.pairwise_map.2 ((List.pairwise_iff_forall_sublist.2 ?_))
   intro a b hs
   have hmem:a∈E∧b∈E:=⟨hs.subset (.head _),hs.subset (.tail _ (.head _))⟩
   have:=List.pairwise_iff_forall_sublist.1 h.red.2 hs
   exact ⟨this.1,by dsimp only;rw [Xv (hlow _ (h.red.1 b hmem.2).1)];exact this.2⟩
  ·intro a ha b hb'
   simp only [List.mem_singleton] at hb'
   subst hb'
   obtain ⟨x,hx,rfl⟩:=List.mem_map.1 ha
   exact ⟨(h.red.1 x hx).1,anP hb⟩
 ·intro y hy q hq
  rcases h1 y hy with rfl|⟨x,hx,rfl⟩
  ·simp
  ·rcases Nat.lt_succ_iff_lt_or_eq.1 hq with h3|rfl
   ·rw [Xv (hlow _ h3)];exact h.low x hx q h3
   ·exact anP hb
 ·have hr1:Sp (E.map (·.2)++R) r:=.mem (List.mem_append_right _ hr)
  have key:∀{L:List Nat}{x:Nat},Sp L r→Sp L x→Sp L (iD c r x):=by
   intro L x i1 i2
   unfold iD
   cases x.testBit c
   ·exact i2
   ·exact i2.xor i1
  have key2:∀{L:List Nat}{x:Nat},Sp L r→Sp L (iD c r x)→Sp L x:=by
   intro L x i1 i2
   unfold iD at i2
   cases hx:x.testBit c
   ·rw [hx] at i2;exact i2
   ·rw [hx] at i2
    have:=Sp.xor i2 i1
    simp only [cond_true] at this
    rwa [Nat.xor_assoc,Nat.xor_self,Nat.xor_zero] at this
  have hmap:(E.map (fun a=>(a.1,iD c r a.2))++[(c,r)]).map (·.2)=E.map (fun a=>iD c r a.2)++[r]:=by simp [List.map_map,Function.comp_def]
  rw [hmap]
  intro v
  rw [h.span v]
  have hr2:Sp (E.map (fun a=>iD c r a.2)++[r]++R') r:=.mem (by simp)
  constructor
  ·refine Sp.trans fun x hx=>?_
   rcases List.mem_append.1 hx with hx|hx
   ·obtain ⟨a,ha,rfl⟩:=List.mem_map.1 hx
    exact key2 hr2 (.mem (List.mem_append_left _ (List.mem_append_left _ (List.mem_map.2 ⟨a,ha,rfl⟩))))
   ·rcases h2 x hx with rfl|h3
    ·exact hr2
    ·exact key2 hr2 (.mem (List.mem_append_right _ h3))
  ·refine Sp.trans fun x hx=>?_
   rcases List.mem_append.1 hx with hx|hx
   ·rcases List.mem_append.1 hx with hx|hx
    ·obtain ⟨a,ha,rfl⟩:=List.mem_map.1 hx
     exact key hr1 (.mem (List.mem_append_left _ (List.mem_map.2 ⟨a,ha,rfl⟩)))
    ·simp only [List.mem_singleton] at hx
     subst hx
     exact hr1
   ·rcases h1 x hx with rfl|⟨y,hy,rfl⟩
    ·exact .zero
    ·exact key hr1 (.mem (List.mem_append_right _ hy))
theorem Inv.done{orig:List Nat}{c:Nat}{E:List (Nat×Nat)}{R:List Nat}(h:Inv orig c E R)(hz:∀x∈R,x=0):rM orig (E.map (·.2)):=by
 refine ⟨E,c,h.red,rfl,fun v=>(h.span v).trans ⟨?_,?_⟩⟩
 ·refine Sp.trans fun x hx=>?_
  rcases List.mem_append.1 hx with hx|hx
  ·exact .mem hx
  ·rw [hz x hx];exact .zero
 ·exact Sp.trans fun x hx=>.mem (List.mem_append_left _ hx)
theorem Inv.start(orig:List Nat):Inv orig 0 [] orig:=⟨⟨fun a ha=>by (cases ha),.nil⟩,fun _ _ q hq=>absurd hq (Nat.not_lt_zero q),fun _=>Iff.rfl⟩
theorem aeh{x b:Nat}(h:x<2 ^ b)(hq:∀q,q<b→x.testBit q=false):x=0:=by
 refine Nat.eq_of_testBit_eq fun q=>?_
 rw [Nat.zero_testBit]
 by_cases h1:q<b
 ·exact hq q h1
 ·exact Nat.testBit_lt_two_pow (Nat.lt_of_lt_of_le h (Nat.pow_le_pow_right (by decide) (by omega)))
abbrev up(l:List Nat):List Int:=l.map fun n:Nat=>(n:Int)
theorem atE{l:List Nat}{i x:Nat}(h:l[i]?=some x):(up l)[i]?=some (x:Int):=by simp [up,h]
theorem Xp(l:List Nat)(i x:Nat):(up l).set i (x:Int)=up (l.set i x):=by simp [up,List.map_set]
theorem wS(l:List Nat):(up l).length=l.length:=by simp [up]
def zx(g:Nat→Nat→Nat)(i:Nat)(l:List Nat):List Nat:=l.mapIdx fun j x=>if j<i then g j x else x
theorem acY(g:Nat→Nat→Nat)(i:Nat)(l:List Nat):(zx g i l).length=l.length:=by simp [zx]
theorem ajd{g:Nat→Nat→Nat}{i j x:Nat}{l:List Nat}(h:l[j]?=some x):(zx g i l)[j]?=some (if j<i then g j x else x):=by simp [zx,h]
theorem axP(g:Nat→Nat→Nat)(l:List Nat):zx g 0 l=l:=by
 refine List.ext_getElem? fun j=>?_
 simp [zx]
theorem asz{g:Nat→Nat→Nat}{i x:Nat}{l:List Nat}(h:l[i]?=some x):(zx g i l).set i (g i x)=zx g (i+1) l:=by
 refine List.ext_getElem? fun j=>?_
 have hi:i<l.length:=(List.getElem?_eq_some_iff.1 h).1
 rw [List.getElem?_set]
 by_cases hj:i=j
 ·subst hj
  rw [if_pos rfl,acY,if_pos hi,ajd h,if_pos (Nat.lt_succ_self _)]
 ·rw [if_neg hj]
  unfold zx
  rw [List.getElem?_mapIdx,List.getElem?_mapIdx]
  congr 1
  funext y
  by_cases h1:j<i
  ·rw [if_pos h1,if_pos (by omega)]
  ·rw [if_neg h1,if_neg (by omega)]
theorem az0(g:Nat→Nat→Nat)(l:List Nat):zx g l.length l=l.mapIdx g:=by
 refine List.ext_getElem? fun j=>?_
 unfold zx
 rw [List.getElem?_mapIdx,List.getElem?_mapIdx]
 cases h:l[j]? with
 |none=>rfl
 |some x=>simp [(List.getElem?_eq_some_iff.1 h).1]
theorem aoh{β:Type}{step:(Int×List Int)→Tre ((Int×List Int) ⊕ β)}(g:Nat→Nat→Nat)(l:List Nat)(fin:List Int→β)
  (hs:∀(i:Nat) x,l[i]?=some x→(step ((i:Int),up (zx g i l))).run some=some (.inl (((i+1:Nat):Int),up (zx g (i+1) l))))
  (he:(step ((l.length:Int),up (zx g l.length l))).run some=some (.inr (fin (up (zx g l.length l))))):aO step (0,up l)=some (fin (up (l.mapIdx g))):=by
 have key:∀(n i:Nat),i+n=l.length→aO step ((i:Int),up (zx g i l))=some (fin (up (l.mapIdx g))):=by
  intro n
  induction n with
  |zero=>
   intro i hi
   have:i=l.length:=hi
   subst this
   rw [←az0]
   exact fO he
  |succ n ih=>
   intro i hi
   have h1:i<l.length:=by omega
   rw [mM (hs i l[i] (List.getElem?_eq_getElem h1))]
   exact ih (i+1) (by omega)
 have:=key l.length 0 (by omega)
 rw [axP] at this
 exact this
theorem apC(f:Nat→Nat)(l:List Nat):l.mapIdx (fun _ x=>f x)=l.map f:=by
 refine List.ext_getElem? fun i=>?_
 simp
theorem apD{A B:List Nat}{r k:Nat}{f:Nat→Nat}{g:Nat→Nat→Nat}(hk:A.length=k)(hg:∀i x,i≠k→g i x=f x)(hr:g k r=r):(A++r::B).mapIdx g=A.map f++r::B.map f:=by
 subst hk
 refine List.ext_getElem? fun i=>?_
 rw [List.getElem?_mapIdx]
 rcases Nat.lt_trichotomy i A.length with h|h|h
 ·rw [List.getElem?_append_left h,List.getElem?_append_left (by simpa using h),List.getElem?_map]
  congr 1
  funext x
  exact hg i x (by omega)
 ·subst h
  rw [List.getElem?_append_right (Nat.le_refl _),List.getElem?_append_right (by simp)]
  simp [hr]
 ·rw [List.getElem?_append_right (by omega),List.getElem?_append_right (by simp;omega),List.length_map]
  obtain ⟨n,hn⟩:∃n,i-A.length=n+1:=⟨i-A.length-1,by omega⟩
  rw [hn,List.getElem?_cons_succ,List.getElem?_cons_succ,List.getElem?_map]
  congr 1
  funext x
  exact hg i x (by omega)
theorem yK{α:Type}(p:α→Bool):∀(l:List α)(i:Nat),(ny p i l = -1∧∀x∈l,p x=false)∨∃k x,l[k]?=some x∧p x=true∧ny p i l=((i+k:Nat):Int):=by
 intro l
 induction l with
 |nil=>intro i;exact .inl ⟨rfl,fun x hx=>by cases hx⟩
 |cons a l ih=>
  intro i
  simp only [ny]
  cases ha:p a
  ·rcases ih (i+1) with ⟨h1,h2⟩|⟨k,x,h1,h2,h3⟩
   ·exact .inl ⟨h1,fun x hx=>by
     cases hx with
     |head=>exact ha
     |tail _ hx=>exact h2 x hx⟩
   ·exact .inr ⟨k+1,x,h1,h2,by rw [cond_false,h3];congr 1;omega⟩
  ·exact .inr ⟨0,a,rfl,ha,rfl⟩
theorem apN{α ρ R:Type}{xs:List α}{i:Nat}{x:α}{k:α→Tre ρ}{c:ρ→Option R}(h:xs[i]?=some x) :
  (Tre.ite (0≤(i:Int)∧(i:Int)<(xs.length:Int)) (.mat xs[i]? k)).run c=(k x).run c:=by
 have hi:i<xs.length:=(List.getElem?_eq_some_iff.1 h).1
 rw [Tre.run_ite,if_pos ⟨by omega,by omega⟩,Tre.kg,h]
 rfl
def FJ(b:Nat)(xs:List Int):Bool:=decide (xs.length≤1048576)&&xs.all fun x=>decide (0≤x)&&decide (x<((2 ^ b:Nat):Int))
theorem afA{b:Nat}{xs:List Int}(h:FJ b xs=true):∃ns:List Nat,xs=up ns∧ns.length≤1048576∧(∀n∈ns,n<2 ^ b)∧xs.map Int.toNat=ns:=by
 unfold FJ at h
 simp only [Bool.and_eq_true,decide_eq_true_eq,List.all_eq_true] at h
 refine ⟨xs.map Int.toNat,?_,by simpa using h.1,?_,rfl⟩
 ·unfold up
  rw [List.map_map]
  exact ((List.map_congr_left (g:=id) fun x hx=>Int.toNat_of_nonneg (h.2 x hx).1).trans (List.map_id _)).symm
 ·intro n hn
  obtain ⟨x,hx,rfl⟩:=List.mem_map.1 hn
  have:=h.2 x hx
  omega
theorem aof{b:Nat}{ns:List Nat}(h1:ns.length≤1048576)(h2:∀n∈ns,n<2 ^ b):FJ b (up ns)=true:=by
 unfold FJ
 simp only [Bool.and_eq_true,decide_eq_true_eq,List.all_eq_true]
 refine ⟨by simpa using h1,fun x hx=>?_⟩
 obtain ⟨n,hn,rfl⟩:=List.mem_map.1 hx
 have:=h2 n hn
 omega
def Tm (xs:List Int):List Int:=up (ech (xs.map Int.toNat))
theorem up_toNat(ns:List Nat):(up ns).map Int.toNat=ns:=by
 unfold up
 rw [List.map_map]
 exact (List.map_congr_left (g:=id) fun x _=>rfl).trans (List.map_id _)
theorem auT{b c:Nat}(h:b≤c):2 ^ b≤2 ^ c:=Nat.pow_le_pow_right (by decide) h
theorem aAw{m:Nat}(h:m≤62):aAv (m:Int)=((2 ^ m-1:Nat):Int):=by
 have h1:=auT h
 have h2:0<2 ^ m:=Nat.two_pow_pos m
 unfold aAv Ua
 rw [Int.toNat_natCast,show min m (IntKind.bits .i64)=m from Nat.min_eq_left (by show m≤64;omega),Int.one_mul]
 have h3:(2:Int) ^ m=((2 ^ m:Nat):Int):=by push_cast;rfl
 rw [h3]
 show aI .i64 (aI .i64 _-1)=_
 rw [Ih (by omega),show ((2 ^ m:Nat):Int)-1=((2 ^ m-1:Nat):Int) from by omega,Ih (by omega)]
theorem avQ{m:Nat}{x:Int}(h:m≤62)(hx:inP (m:Int) x=true):∃n:Nat,x=(n:Int)∧n<2 ^ m:=by
 unfold inP at hx
 rw [gV,aAw h] at hx
 have h2:0<2 ^ m:=Nat.two_pow_pos m
 exact ⟨x.toNat,by omega,by omega⟩
def marks(k:Int)(n:Nat):List Int:=(List.range' 0 n).map fun i:Nat=>k+(i:Int)
theorem aro{α β:Type}(k:Int)(fin:List Int→β):∀(l:List α)(i:Nat)(acc:List Int),acc.length=i+l.length→qp (fun i acc _=>(.inl (acc.set i (k+(i:Int))):List Int ⊕ β)) fin i acc l=fin (acc.take i++(List.range' i l.length).map fun i:Nat=>k+(i:Int)):=by
 intro l
 induction l with
 |nil=>intro i acc h;simp only [qp,List.length_nil,List.range'_zero,List.map_nil,List.append_nil];rw [List.take_of_length_le (by simp at h;omega)]
 |cons x l ih=>
  intro i acc h
  simp only [qp]
  simp only [List.length_cons] at h
  rw [ih (i+1) (acc.set i (k+(i:Int))) (by simp;omega)]
  congr 1
  rw [List.take_set,List.take_add_one]
  have hi:i<acc.length:=by omega
  rw [List.getElem?_eq_getElem hi,List.set_append,List.length_cons,List.range'_succ]
  simp [List.length_take,Nat.min_eq_left (Nat.le_of_lt hi)]
end Go.Abs
namespace Go.Abs
end Go.Abs
namespace Go.Abs
end Go.Abs
namespace Go.Abs
def rH:List Nat→List Nat
 |[]=>[0]
 |x::l=>rH l++(rH l).map (x ^^^ ·)
theorem amb:∀l:List Nat,(rH l).length=2 ^ l.length:=by
 intro l
 induction l with
 |nil=>rfl
 |cons x l ih=>simp only [rH,List.length_append,List.length_map,ih,List.length_cons,Nat.pow_succ];omega
theorem atz:∀l:List Nat,0∈rH l:=by
 intro l
 induction l with
 |nil=>simp [rH]
 |cons x l ih=>exact List.mem_append.2 (.inl ih)
theorem abC(a b:Nat):a^^^(a^^^b)=b:=by rw [←Nat.xor_assoc,Nat.xor_self,Nat.zero_xor]
theorem avj:∀{l:List Nat}{r v:Nat},r∈l→v∈rH l→r^^^v∈rH l:=by
 intro l
 induction l with
 |nil=>intro r v hr;cases hr
 |cons x l ih=>
  intro r v hr hv
  simp only [rH,List.mem_append,List.mem_map] at hv ⊢
  cases hr with
  |head=>
   rcases hv with hv|⟨w,hw,rfl⟩
   ·exact .inr ⟨v,hv,rfl⟩
   ·exact .inl (by rw [abC];exact hw)
  |tail _ hr=>
   rcases hv with hv|⟨w,hw,rfl⟩
   ·exact .inl (ih hr hv)
   ·exact .inr ⟨r^^^w,ih hr hw,by rw [←Nat.xor_assoc,Nat.xor_comm x r,Nat.xor_assoc]⟩
theorem Sp.sums{l:List Nat}{v:Nat}(h:Sp l v):v∈rH l:=by
 induction h with
 |zero=>exact atz l
 |add hr _ ih=>exact avj hr ih
theorem aB3:∀{l:List Nat}{v:Nat},v∈rH l→Sp l v:=by
 intro l
 induction l with
 |nil=>intro v hv;simp only [rH,List.mem_singleton] at hv;subst hv;exact .zero
 |cons x l ih=>
  intro v hv
  simp only [rH,List.mem_append,List.mem_map] at hv
  have hs:∀{w},Sp l w→Sp (x::l) w:=fun h=>h.trans fun r hr=>Sp.mem (.tail _ hr)
  rcases hv with hv|⟨w,hw,rfl⟩
  ·exact hs (ih hv)
  ·exact .add (.head _) (hs (ih hw))
theorem atA{p:Nat}:∀{l:List Nat}{v:Nat},(∀r∈l,r.testBit p=false)→v∈rH l→v.testBit p=false:=by
 intro l
 induction l with
 |nil=>intro v _ hv;simp only [rH,List.mem_singleton] at hv;subst hv;simp
 |cons x l ih=>
  intro v h hv
  simp only [rH,List.mem_append,List.mem_map] at hv
  rcases hv with hv|⟨w,hw,rfl⟩
  ·exact ih (fun r hr=>h r (.tail _ hr)) hv
  ·rw [Nat.testBit_xor,h x (.head _),ih (fun r hr=>h r (.tail _ hr)) hw];rfl
theorem Red.nodup{c:Nat}:∀{E:List (Nat×Nat)},Red c E→(rH (E.map (·.2))).Nodup:=by
 intro E
 induction E with
 |nil=>intro _;simp [rH]
 |cons a l ih=>
  intro h
  have hp:=(List.pairwise_cons.1 h.2).1
  have hl:∀r∈l.map (·.2),r.testBit a.1=false:=by
   intro r hr
   obtain ⟨b,hb,rfl⟩:=List.mem_map.1 hr
   exact ((h.1 b (.tail _ hb)).2).2 a.1 (hp b hb).1
  have ha:a.2.testBit a.1=true:=(h.1 a (.head _)).2.1
  simp only [List.map_cons,rH]
  rw [List.nodup_append]
  refine ⟨ih h.tail,?_,?_⟩
  ·rw [List.nodup_iff_pairwise_ne]
   refine List.pairwise_map.2 ((List.nodup_iff_pairwise_ne.1 (ih h.tail)).imp ?_)
   intro x y hxy hne
   exact hxy (by rw [←abC a.2 x,hne,abC])
  ·intro x hx y hy hxy
   obtain ⟨w,hw,rfl⟩:=List.mem_map.1 hy
   have h1:=atA hl hx
   have h2:=atA hl hw
   rw [hxy,Nat.testBit_xor,ha,h2] at h1
   cases h1
theorem azS{α:Type} [DecidableEq α]:∀{l l':List α},l.Nodup→(∀x∈l,x∈l')→l.length≤l'.length:=by
 intro l
 induction l with
 |nil=>intro l' _ _;exact Nat.zero_le _
 |cons x l ih=>
  intro l' hn hs
  rw [List.nodup_cons] at hn
  have hx:=hs x (.head _)
  have:=ih (l':=l'.erase x) hn.2 (fun y hy=>by
   have hne:y≠x:=by rintro rfl;exact hn.1 hy
   exact (List.mem_erase_of_ne hne).2 (hs y (.tail _ hy)))
  rw [List.length_erase_of_mem hx] at this
  have hpos:0<l'.length:=List.length_pos_of_mem hx
  simp only [List.length_cons]
  omega
theorem rM.le{rows E:List Nat}(h:rM rows E):E.length≤rows.length:=by
 obtain ⟨P,c,hr,rfl,hs⟩:=h
 have:=azS hr.nodup (fun x hx=>((hs x).2 (aB3 hx)).sums)
 rw [amb,amb] at this
 exact (Nat.pow_le_pow_iff_right (by decide)).1 this
theorem Sp.map{rows:List Nat}{f:Nat→Nat}(h0:f 0=0)(hf:∀a b,f (a^^^b)=f a^^^f b){v:Nat}(h:Sp rows v):Sp (rows.map f) (f v):=by
 induction h with
 |zero=>rw [h0];exact .zero
 |add hr _ ih=>rw [hf];exact .add (List.mem_map.2 ⟨_,hr,rfl⟩) ih
end Go.Abs
namespace Go.Abs
def ai1(h:Nat):Nat→List Nat→Nat
 |_,[]=>0
 |i,x::l=>cond (h.testBit i) x 0^^^ai1 h (i+1) l
theorem aos{h:Nat}:∀(l:List Nat)(i:Nat),(∀q,i≤q→h.testBit q=false)→ai1 h i l=0:=by
 intro l
 induction l with
 |nil=>intro i _;rfl
 |cons x l ih=>
  intro i hq
  simp only [ai1]
  rw [hq i (Nat.le_refl i),ih (i+1) fun q h=>hq q (by omega),cond_false,Nat.xor_self]
theorem aot(l:List Nat)(i:Nat):ai1 0 i l=0:=aos l i fun q _=>Nat.zero_testBit q
theorem aAH(x a b:Nat):a^^^b=(x^^^a)^^^(x^^^b):=by
 rw [Nat.xor_comm x a,Nat.xor_assoc,←Nat.xor_assoc x x b,Nat.xor_self,Nat.zero_xor]
theorem aAe(a b:Nat):∀(l:List Nat)(i:Nat),ai1 (a^^^b) i l=ai1 a i l^^^ai1 b i l:=by
 intro l
 induction l with
 |nil=>intro i;exact (Nat.xor_self 0).symm
 |cons x l ih=>
  intro i
  simp only [ai1]
  rw [ih,Nat.testBit_xor]
  cases a.testBit i<;>cases b.testBit i
  ·simp only [Bool.xor_false,cond_false,Nat.zero_xor]
  ·simp only [Bool.false_xor,cond_true,cond_false,Nat.zero_xor]
   rw [Nat.xor_comm,Nat.xor_assoc,Nat.xor_comm (ai1 b (i+1) l)]
  ·simp only [Bool.xor_false,cond_true,cond_false,Nat.zero_xor]
   rw [Nat.xor_assoc]
  ·simp only [Bool.xor_self,cond_true,cond_false,Nat.zero_xor]
   exact aAH x _ _
theorem atr:∀(l:List Nat)(i j:Nat){x:Nat},l[j]?=some x→ai1 (2 ^ (i+j)) i l=x:=by
 intro l
 induction l with
 |nil=>intro i j x h;simp at h
 |cons y l ih=>
  intro i j x h
  simp only [ai1]
  cases j with
  |zero=>
   simp only [List.getElem?_cons_zero,Option.some.injEq] at h
   subst h
   rw [Nat.add_zero,Nat.testBit_two_pow_self,cond_true,aos l (i+1) fun q hq=>by rw [Nat.testBit_two_pow];exact decide_eq_false (by omega),Nat.xor_zero]
  |succ j=>
   simp only [List.getElem?_cons_succ] at h
   rw [Nat.testBit_two_pow,decide_eq_false (by omega),cond_false,Nat.zero_xor,show i+(j+1)=i+1+j by omega]
   exact ih (i+1) j h
structure abE(N:Nat)(S:List Nat):Prop where
 len:S.length=N
 head:∀i x,S[i]?=some x→x&&&(2 ^ N-1)=2 ^ i
theorem abE.bit{N:Nat}{S:List Nat}(h:abE N S){i x q:Nat}(hx:S[i]?=some x)(hq:q<N):x.testBit q=decide (i=q):=by
 have:=congrArg (·.testBit q) (h.head i x hx)
 simpa [Nat.testBit_and,Nat.testBit_two_pow_sub_one,Nat.testBit_two_pow,hq] using this
theorem abE.back{N:Nat}{S:List Nat}(h:abE N S){v:Nat}(hv:Sp S v):ai1 (v&&&(2 ^ N-1)) 0 S=v:=by
 induction hv with
 |zero=>rw [Nat.zero_and,aot]
 |add hr _ ih=>
  obtain ⟨i,hi⟩:=List.getElem?_of_mem hr
  rw [Nat.and_xor_distrib_right,aAe,ih,h.head i _ hi]
  have:=atr S 0 i hi
  rw [Nat.zero_add] at this
  rw [this]
theorem al9:∀(l:List (Nat×Nat))(lo b:Nat),(l.Pairwise fun a b=>a.1<b.1)→(∀a∈l,lo≤a.1∧a.1<b)→l.length≤b-lo:=by
 intro l
 induction l with
 |nil=>intro lo b _ _;exact Nat.zero_le _
 |cons a l ih=>
  intro lo b h hb
  obtain ⟨h1,h2⟩:=List.pairwise_cons.1 h
  have:=ih (a.1+1) b h2 fun x hx=>⟨h1 x hx,(hb x (.tail _ hx)).2⟩
  have h0:=hb a (.head _)
  simp only [List.length_cons]
  omega
theorem ad9:∀(l:List (Nat×Nat))(lo:Nat),(l.Pairwise fun a b=>a.1<b.1)→(∀a∈l,lo≤a.1∧a.1<lo+l.length)→∀(i:Nat)(a:Nat×Nat),l[i]?=some a→a.1=lo+i:=by
 intro l
 induction l with
 |nil=>intro lo _ _ i a h;simp at h
 |cons b l ih=>
  intro lo h hb i a ha
  obtain ⟨h1,h2⟩:=List.pairwise_cons.1 h
  simp only [List.length_cons] at hb
  have h0:=hb b (.head _)
  have hl:=al9 l (b.1+1) (lo+(l.length+1)) h2 fun x hx=>⟨h1 x hx,(hb x (.tail _ hx)).2⟩
  have hb0:b.1=lo:=by omega
  cases i with
  |zero=>simp only [List.getElem?_cons_zero,Option.some.injEq] at ha;subst ha;exact hb0
  |succ i=>
   simp only [List.getElem?_cons_succ] at ha
   rw [ih (lo+1) h2 (fun x hx=>⟨by have:=h1 x hx;omega,by have:=(hb x (.tail _ hx)).2;omega⟩) i a ha]
   omega
theorem abE.full{N:Nat}{S rows E:List Nat}(h:abE N S)(hs:∀r∈rows,Sp S r)(he:rM rows E)(hl:E.length=N):E=S:=by
 obtain ⟨P,c,hr,rfl,hsp⟩:=he
 rw [List.length_map] at hl
 have hin:∀a∈P,Sp S a.2:=fun a ha=>Sp.trans hs ((hsp a.2).2 (Sp.mem (List.mem_map.2 ⟨a,ha,rfl⟩)))
 have hpos:∀a∈P,a.1<N:=fun a ha=>by
  refine Nat.lt_of_not_le fun hge=>?_
  have h0:a.2&&&(2 ^ N-1)=0:=by
   refine Nat.eq_of_testBit_eq fun q=>?_
   rw [Nat.testBit_and,Nat.testBit_two_pow_sub_one,Nat.zero_testBit]
   by_cases hq:q<N
   ·rw [(hr.1 a ha).2.2 q (by omega)];rfl
   ·rw [decide_eq_false hq,Bool.and_false]
  have h1:=h.back (hin a ha)
  rw [h0,aot] at h1
  have h2:=(hr.1 a ha).2.1
  rw [←h1,Nat.zero_testBit] at h2
  cases h2
 have hidx:=ad9 P 0 (hr.2.imp fun h=>h.1) fun a ha=>⟨Nat.zero_le _,by have:=hpos a ha;omega⟩
 refine List.ext_getElem? fun i=>?_
 rw [List.getElem?_map]
 cases ha:P[i]? with
 |none=>
  have hi:=List.getElem?_eq_none_iff.1 ha
  rw [List.getElem?_eq_none_iff.2 (show S.length≤i by have:=h.len;omega)]
  rfl
 |some a=>
  have hi:i<P.length:=(List.getElem?_eq_some_iff.1 ha).1
  have ham:=List.mem_of_getElem? ha
  have ha1:a.1=i:=by rw [hidx i a ha];omega
  have hiS:i<S.length:=by have:=h.len;omega
  have hx:S[i]?=some S[i]:=List.getElem?_eq_getElem hiS
  have hhead:a.2&&&(2 ^ N-1)=2 ^ i:=by
   refine Nat.eq_of_testBit_eq fun q=>?_
   rw [Nat.testBit_and,Nat.testBit_two_pow_sub_one,Nat.testBit_two_pow]
   by_cases hq:q<N
   ·rw [decide_eq_true hq,Bool.and_true]
    by_cases hqi:i=q
    ·subst hqi;rw [decide_eq_true rfl,←ha1];exact (hr.1 a ham).2.1
    ·have hb:P[q]?=some P[q]:=List.getElem?_eq_getElem (by omega)
     have hb1:P[q].1=q:=by rw [hidx q _ hb];omega
     have:=hr.apart ham (List.mem_of_getElem? hb) (by omega)
     rw [hb1] at this
     rw [this,decide_eq_false hqi]
   ·rw [decide_eq_false hq,Bool.and_false,decide_eq_false (by omega)]
  have h1:=h.back (hin a ham)
  have h2:=atr S 0 i hx
  rw [Nat.zero_add] at h2
  rw [hhead,h2] at h1
  rw [hx,Option.map_some,h1]
theorem abE.ech{N:Nat}{S:List Nat}(h:abE N S):rM S S:=by
 refine ⟨(List.range N).zip S,N,⟨fun a ha=>?_,?_⟩,?_,fun v=>Iff.rfl⟩
 ·obtain ⟨i,hi⟩:=List.getElem?_of_mem ha
  rw [List.getElem?_zip_eq_some] at hi
  obtain ⟨h1,h2⟩:=hi
  have hiN:i<N:=by have:=(List.getElem?_eq_some_iff.1 h1).1;simpa using this
  rw [List.getElem?_range hiN,Option.some.injEq] at h1
  refine ⟨by omega,by rw [h.bit h2 (by omega)];exact decide_eq_true h1,fun q hq=>by rw [h.bit h2 (by omega)];exact decide_eq_false (by omega)⟩
 ·rw [List.pairwise_iff_getElem]
  intro i j hi hj hij
  simp only [List.length_zip,List.length_range,h.len,Nat.min_self] at hi hj
  simp only [List.getElem_zip,List.getElem_range]
  refine ⟨hij,?_⟩
  rw [h.bit (List.getElem?_eq_getElem (by have:=h.len;omega)) hj]
  exact decide_eq_false (by omega)
 ·exact List.map_snd_zip (by simp [h.len])
theorem rM.heads{N:Nat}{rows E A:List Nat}(h:rM rows E)(hA:rM (rows.map (· &&& (2 ^ N-1))) A)(hE:E.length=N)(hAl:A.length=N):abE N E:=by
 obtain ⟨P,c,hr,rfl,hs⟩:=h
 rw [List.length_map] at hE
 have hlow:∀a∈P,a.1<N:=by
  intro a ha
  refine Decidable.byContradiction fun hn=>?_
  have hz:∀q,q<N→a.2.testBit q=false:=fun q hq=>(hr.1 a ha).2.2 q (by omega)
  have hza:a.2&&&(2 ^ N-1)=0:=by
   refine Nat.eq_of_testBit_eq fun q=>?_
   rw [Nat.testBit_and,Nat.testBit_two_pow_sub_one,Nat.zero_testBit]
   by_cases hq:q<N
   ·rw [hz q hq];rfl
   ·simp [hq]
  have hA2:rM (((P.erase a).map (·.2)).map (· &&& (2 ^ N-1))) A:=by
   obtain ⟨Q,d,h1,h2,h3⟩:=hA
   refine ⟨Q,d,h1,h2,fun v=>Iff.trans ⟨fun hv=>?_,fun hv=>?_⟩ (h3 v)⟩
   ·refine Sp.trans (fun x hx=>?_) hv
    obtain ⟨y,hy,rfl⟩:=List.mem_map.1 hx
    obtain ⟨b,hb,rfl⟩:=List.mem_map.1 hy
    have:=((hs b.2).2 (Sp.mem (List.mem_map.2 ⟨b,List.mem_of_mem_erase hb,rfl⟩))).map (f:=(· &&& (2 ^ N-1))) (Nat.zero_and _) (fun a b=>Nat.and_xor_distrib_right)
    exact this
   ·have key:∀w,Sp (P.map (·.2)) w→Sp (((P.erase a).map (·.2)).map (· &&& (2 ^ N-1))) (w&&&(2 ^ N-1)):=by
     intro w hw
     induction hw with
     |zero=>rw [Nat.zero_and];exact .zero
     |add hx _ ih=>
      obtain ⟨b,hb,rfl⟩:=List.mem_map.1 hx
      rw [Nat.and_xor_distrib_right]
      by_cases hba:b=a
      ·rw [hba,hza,Nat.zero_xor];exact ih
      ·exact .add (List.mem_map.2 ⟨b.2,List.mem_map.2 ⟨b,(List.mem_erase_of_ne hba).2 hb,rfl⟩,rfl⟩) ih
    refine Sp.trans (fun x hx=>?_) hv
    obtain ⟨r,hr2,rfl⟩:=List.mem_map.1 hx
    exact key r ((hs r).1 (Sp.mem hr2))
  have:=hA2.le
  rw [List.length_map,List.length_map,List.length_erase_of_mem ha] at this
  have:=List.length_pos_of_mem ha
  omega
 have hsort:=hr.2.imp (S:=fun a b:Nat×Nat=>a.1<b.1) fun h=>h.1
 have hat:=ad9 P 0 hsort fun a ha=>⟨Nat.zero_le _,by have:=hlow a ha;omega⟩
 refine ⟨by rw [List.length_map];exact hE,fun i x hx=>?_⟩
 rw [List.getElem?_map] at hx
 obtain ⟨a,ha,rfl⟩:=Option.map_eq_some_iff.1 hx
 have hai:=hat i a ha
 have ham:=List.mem_of_getElem? ha
 have hiN:=hlow a ham
 refine Nat.eq_of_testBit_eq fun q=>?_
 rw [Nat.testBit_and,Nat.testBit_two_pow_sub_one,Nat.testBit_two_pow]
 by_cases hq:q<N
 ·obtain ⟨b,hb⟩:∃b,P[q]?=some b:=⟨_,List.getElem?_eq_getElem (by omega)⟩
  have hbq:=hat q b hb
  by_cases hiq:i=q
  ·subst hiq
   have:=(hr.1 a ham).2.1
   rw [show a.1=i by omega] at this
   simp [this,hq]
  ·have:=hr.apart ham (List.mem_of_getElem? hb) (by omega)
   rw [show b.1=q by omega] at this
   simp [this,hiq]
 ·have:i≠q:=by omega
  simp [hq,this]
end Go.Abs
namespace Go.Abs
end Go.Abs
namespace Go.Abs
abbrev K.n:K:=.int .i64
abbrev K.il:K:=.sl (.int .i64)
abbrev AV.i(x:Int):AV:=.imm true (.int .i64) x
section
variable {R R' : Type} {r : R'} {g : R → Option R'}
theorem bY{k:K}{a:AV}{c:Bool→k.den→Tre R}{W:Prop}(h:∀z d,(c z d).run g=some r→a=.imm z k d→W)(e:(aZ k a c).run g=some r):W:=
 let ⟨z,d,e1,e2⟩:=fA e
 h z d e2 e1
theorem aJ{z0:Bool}{k:K}{a:AV}{c:k.den→Tre R}{W:Prop}(h:∀d,(c d).run g=some r→a=.imm z0 k d→W)(e:(ay z0 k a c).run g=some r):W:=
 let ⟨d,e1,e2⟩:=cu e
 h d e2 e1
theorem aoz{k:K}{a:AV}{c:Bool→k.den→Tre R}{W:Prop}(h:∀z d,(c z d).run g=some r→a=.iptr z (.sl k) [d] [.idx 0]→W)(e:(PS k a c).run g=some r):W:=
 let ⟨z,d,e1,e2⟩:=aqN e
 h z d e2 e1
theorem tNn{e:K}{a:AV}{c:Bool→List e.den→Tre R}{W:Prop}(h:∀z d,(c z d).run g=some r→a=.nn z e d→W)(e:(aAL e a c).run g=some r):W:=
 let ⟨z,d,e1,e2⟩:=awT e
 h z d e2 e1
theorem fI{q:aB}{p:Path}{a:AV}{c:Tre R}{W:Prop}(h:(c).run g=some r→a=.ref q p→W)(e:(dI q p a c).run g=some r):W:=
 let ⟨e1,e2⟩:=PU e
 h e2 e1
theorem awN{q:aB}{t:Path}{a:AV}{c:Nat→Tre R}{W:Prop}(h:∀n,(c n).run g=some r→a=.ref q (avK t n)→W)(e:(ZK q t a c).run g=some r):W:=
 let ⟨n,e1,e2⟩:=aqP e
 h n e2 e1
theorem jD{q:aB}{p:Path}{a:AV}{c:Tre R}{W:Prop}(h:(c).run g=some r→a=.ptr q p→W)(e:(eF q p a c).run g=some r):W:=
 let ⟨e1,e2⟩:=Im e
 h e2 e1
theorem tFn{f:Nat}{caps:List aB}{a:AV}{c:Tre R}{W:Prop}(h:(c).run g=some r→a=.fn f caps→W)(e:(Tk f caps a c).run g=some r):W:=
 let ⟨e1,e2⟩:=Cq e
 h e2 e1
theorem aFt{a:AV}{c:Tre R}{W:Prop}(h:(c).run g=some r→a=.nil→W)(e:(avz a c).run g=some r):W:=
 let ⟨e1,e2⟩:=atP e
 h e2 e1
theorem awM{a:AV}{c:AV→AV→Tre R}{W:Prop}(h:∀x y,(c x y).run g=some r→a=.pair x y→W)(e:(ZJ a c).run g=some r):W:=
 let ⟨x,y,e1,e2⟩:=aqO e
 h x y e2 e1
theorem aK{α:Type}{l:List α}{c:α→List α→Tre R}{W:Prop}(h:∀x y,(c x y).run g=some r→l=x::y→W)(e:(aC l c).run g=some r):W:=
 let ⟨x,y,e1,e2⟩:=agu e
 h x y e2 e1
theorem bf{α:Type}{l:List α}{c:Tre R}{W:Prop}(h:(c).run g=some r→l=[]→W)(e:(aM l c).run g=some r):W:=
 let ⟨e1,e2⟩:=ZI e
 h e2 e1
theorem tRt{mem:Bool}{k:K}{x:Root}{c:Mask→k.den→Tre R}{W:Prop}(h:∀m d,(c m d).run g=some r→x=⟨mem,k,m,d⟩→W)(e:(wV mem k x c).run g=some r):W:=
 let ⟨m,d,e1,e2⟩:=anG e
 h m d e2 e1
theorem bV{mem:Bool}{k:K}{o:Option Root}{c:Mask→k.den→Tre R}{W:Prop}(h:∀m d,(c m d).run g=some r→o=some ⟨mem,k,m,d⟩→W)(e:(bg mem k o c).run g=some r):W:=
 let ⟨m,d,e1,e2⟩:=fQ e
 h m d e2 e1
theorem tM{m0 m:Mask}{c:Tre R}{W:Prop}(h:(c).run g=some r→m=m0→W)(e:(asM m0 m c).run g=some r):W:=
 let ⟨e1,e2⟩:=rO e
 h e2 e1
theorem BA{m:Mask}{c:Bool→Tre R}{W:Prop}(h:∀z,(c z).run g=some r→m=.imm z→W)(e:(lu m c).run g=some r):W:=
 let ⟨z,e1,e2⟩:=KM e
 h z e2 e1
end
theorem bX{V:Env}{A:List (Nat×bq)}{a:Code}{kp kx:Keep}{D:St→Tre (Ex×St)} (h:∀(s:St)(e:Ex)(s':St),(D (restrict kp s)).run some=some (e,s') →
  ∃(σ β:Type) (mk:σ→St) (out:β→Ex×St) (step:σ→Tre (σ ⊕ β)) (x:σ) (b:β),restrict kp s=mk x∧aO step x=some b∧out b=(e,s') ∧
   ∀(x:σ)(c:St→Option (Ex×St)),den V A a (mk x) (bR kp kx c)=(step x).run (bS mk out c)):bQ V A a ⟨kp,kx,D⟩:=fK h
theorem bO{V:Env}{A:List (Nat×bq)}{a:Code}{kp kx:Keep}{σ β:Type}{mk:σ→St}{out:β→Ex×St}{step:σ→Tre (σ ⊕ β)}{s:St}{e:Ex×St}{x:σ}
  (h4:∀(x:σ)(c:St→Option (Ex×St)),den V A a (mk x) (bR kp kx c)=(step x).run (bS mk out c)) (h:(Tre.mat (aO step x) fun y=>Tre.ret (out y)).run some=some e) (h1:restrict kp s=mk x) :
  ∃(σ β:Type) (mk:σ→St) (out:β→Ex×St) (step:σ→Tre (σ ⊕ β)) (x:σ) (b:β),restrict kp s=mk x∧aO step x=some b∧out b=e ∧
   ∀(x:σ)(c:St→Option (Ex×St)),den V A a (mk x) (bR kp kx c)=(step x).run (bS mk out c):=by
 obtain ⟨y,hy,hz⟩:=ajb h
 exact ⟨σ,β,mk,out,step,x,y,h1,hy,Option.some.inj hz,h4⟩
def fnI(fn:Func)(A:List (Nat×bq)):FnI:=⟨fn.body.getD .skip,fn.results.toList,fn.resultTypes.toList,A⟩
def dD(rw:List Nat)(G:List AV→List Root→Tre au):Ctr:=⟨rw,fun ci=>G ci.args ci.roots,false⟩
theorem aD{P:Program}{V:Env}{Γ:Glb}{fn:Func}{A:List (Nat×bq)}{G:List AV→List Root→Tre au}{f:FuncId}{rw:List Nat}(hT:ig P V)(hE:anA P Γ V)(hf:P.funcs[f]?=some fn)(hL:sZ V A (fn.body.getD .skip))
  (h:∀av rs co,(G av rs).run some=some co→(Tre.mat (bJ V (fnI fn A) ⟨av,rs⟩) Tre.ret).run some=some co) (hb:fn.body=some (fn.body.getD .skip):=by kernel_rfl)
  (hd:D8 fn.ntmps (fn.body.getD .skip)=true:=by kernel_rfl):Contract P Γ f (dD rw G):=
 (aqY (F:=fnI fn A) hT hE hf hb rfl hd hL rw).weaken fun ci co h'=>h ci.args ci.roots co h'
theorem bI{V:Env}{A:List (Nat×bq)}{c:Code}(h:(fM c).length=0:=by kernel_rfl):sZ V A c:=asa h
theorem bH{V:Env}{A:List (Nat×bq)}{a:Code}{id:Nat}{L:bq}(h:bQ V A a L)(h1:fu a=some id:=by kernel_rfl)(h2:iq id A=some L:=by kernel_rfl):∀i L',fu a=some i→iq i A=some L'→bQ V A a L':=axH h1 h2 h
theorem bF{V:Env}{A:List (Nat×bq)}{c:Code}{n:Nat}(h:∀k,k<n→∀i L,fu (aT c k)=some i→iq i A=some L→bQ V A (aT c k) L)(hn:(fM c).length=n:=by kernel_rfl):sZ V A c:=ar9 hn h
end Go.Abs
namespace Go.Abs
open Go.Sort
structure avw where
 g:List Int→List Int
 len:∀d,(g d).length=d.length
 cut:Option (List Int→Nat)
 le:∀n,cut=some n→∀d,n d≤d.length
def avw.res(o:avw)(d:List Int):AV:=match o.cut with
 |none=>.tnil
 |some n=>.slc (0,0) [] 0 (n d)
def avw.val(o:avw)(d:List Int)(a:Option Addr)(cap:Nat):Value:=match o.cut with
 |none=>.tuple #[]
 |some n=>.slice a (n d) cap
def ayJ(zs:List Int):Nat:=(Lib.compact zs).length
def oJ(zs:List Int):List Int:=Lib.compact zs++List.replicate (zs.length-(Lib.compact zs).length) 0
theorem ayK(zs:List Int):ayJ zs≤zs.length:=by
 unfold ayJ Lib.compact Lib.compactUpTo
 rw [List.length_map]
 refine Nat.le_trans (List.length_filter_le _ _) ?_
 simp
theorem NG(zs:List Int):(oJ zs).length=zs.length:=by
 have:=ayK zs
 unfold ayJ at this
 unfold oJ
 rw [List.length_append,List.length_replicate];omega
end Go.Abs
namespace Go.Proofs.YtihiobjhogpmdaaGreat
open Go Go.Abs Go.Proofs
abbrev aL:K:=(.pair .n (.pair .n .unit))
abbrev bZ:K:=(.pair .n (.pair .il .unit))
abbrev aX:K:=(.pair aL (.pair .il (.pair .n .unit)))
abbrev gI:K:=(.pair aL (.pair .n (.pair (.sl .il) .unit)))
def tau:List (Nat×TI):=[(24,⟨.il,24,2⟩),(2,⟨.n,8,0⟩),(30,⟨aL,16,0⟩),(32,⟨aX,48,0⟩),(46,⟨bZ,32,0⟩),(77,⟨(.sl .il),24,24⟩),(108,⟨gI,48,0⟩),(3,⟨.n,8,0⟩),(26,⟨aX,48,0⟩),(43,⟨bZ,32,0⟩),(23,⟨aL,16,0⟩),(116,⟨.il,24,3⟩),(1,⟨.fn,8,0⟩),(4,⟨.bool,1,0⟩),(5,⟨(.int .u8),1,0⟩),(9,⟨.str,16,0⟩),(12,⟨(.int .u64),8,0⟩),(13,⟨(.pair .str (.pair (.int .u64) .unit)),24,0⟩),(21,⟨(.int .i32),4,0⟩),(22,⟨aL,16,0⟩),(25,⟨aX,48,0⟩),(27,⟨.fn,8,0⟩),(29,⟨.fn,8,0⟩),(31,⟨aX,48,0⟩),(33,⟨.fn,8,0⟩),(34,⟨.fn,8,0⟩),(35,⟨.fn,8,0⟩),(36,⟨.fn,8,0⟩),(37,⟨.fn,8,0⟩),(38,⟨.fn,8,0⟩),(39,⟨.fn,8,0⟩),(41,⟨.fn,8,0⟩),(42,⟨bZ,32,0⟩),(44,⟨.fn,8,0⟩),(45,⟨.fn,8,0⟩),(47,⟨.fn,8,0⟩),(48,⟨.fn,8,0⟩),(49,⟨.fn,8,0⟩),(50,⟨.fn,8,0⟩),(51,⟨.fn,8,0⟩),(52,⟨.ptr,8,0⟩),(54,⟨.fn,8,0⟩),(55,⟨.fn,8,0⟩),(56,⟨.fn,8,0⟩),(58,⟨.fn,8,0⟩),(59,⟨.fn,8,0⟩),(60,⟨.fn,8,0⟩),(61,⟨.fn,8,0⟩),(62,⟨.fn,8,0⟩),(63,⟨.fn,8,0⟩),(64,⟨.fn,8,0⟩),(65,⟨.ptr,8,0⟩),(66,⟨.fn,8,0⟩),(67,⟨.fn,8,0⟩),(68,⟨.fn,8,0⟩),(70,⟨.fn,8,0⟩),(71,⟨.fn,8,0⟩),(72,⟨.fn,8,0⟩),(73,⟨.fn,8,0⟩),(74,⟨.fn,8,0⟩),(75,⟨.fn,8,0⟩),(76,⟨.fn,8,0⟩),(78,⟨.fn,8,0⟩),(79,⟨.fn,8,0⟩),(80,⟨.fn,8,0⟩),(81,⟨.fn,8,0⟩),(82,⟨.fn,8,0⟩),(83,⟨.fn,8,0⟩),(84,⟨.fn,8,0⟩),(85,⟨.fn,8,0⟩),(86,⟨.fn,8,0⟩),(87,⟨.fn,8,0⟩),(89,⟨.fn,8,0⟩),(90,⟨.fn,8,0⟩),(91,⟨.fn,8,0⟩),(92,⟨(.int .u64),8,0⟩),(93,⟨.fn,8,0⟩),(94,⟨.fn,8,0⟩),(95,⟨.fn,8,0⟩),(96,⟨.fn,8,0⟩),(97,⟨.fn,8,0⟩),(98,⟨.fn,8,0⟩),(99,⟨.fn,8,0⟩),(100,⟨.fn,8,0⟩),(101,⟨.fn,8,0⟩),(102,⟨.fn,8,0⟩),(103,⟨.fn,8,0⟩),(104,⟨.fn,8,0⟩),(105,⟨.fn,8,0⟩),(106,⟨.fn,8,0⟩),(107,⟨gI,48,0⟩),(109,⟨.fn,8,0⟩),(110,⟨.fn,8,0⟩),(111,⟨.fn,8,0⟩),(112,⟨.fn,8,0⟩),(113,⟨.fn,8,0⟩),(114,⟨.fn,8,0⟩),(115,⟨.fn,8,0⟩),(117,⟨.fn,8,0⟩),(118,⟨.fn,8,0⟩),(119,⟨.fn,8,0⟩),(120,⟨.fn,8,0⟩),(121,⟨.fn,8,0⟩),(127,⟨.fn,8,0⟩),(128,⟨(.int .u32),4,0⟩),(131,⟨.fn,8,0⟩),(132,⟨.ptr,8,0⟩),(137,⟨.fn,8,0⟩)]
theorem aW{E:List (Nat×Ctr)}{Z:List (Nat×List Frz)}:ig Tryz.prog ⟨tau,E,Z⟩:=aAE (aAD (by kernel_rfl)) (by kernel_rfl)
theorem aFm:Go.Abs.Enters Tryz.prog 7:=⟨Tryz.f7,Tryz.func7,by kernel_rfl,by kernel_rfl⟩
theorem aFo:Go.Abs.Enters Tryz.prog 9:=⟨Tryz.f9,Tryz.func9,by kernel_rfl,by kernel_rfl⟩
theorem ay0:Go.Abs.Enters Tryz.prog 10:=⟨Tryz.f10,Tryz.func10,by kernel_rfl,by kernel_rfl⟩
theorem ay5:Go.Abs.Enters Tryz.prog 12:=⟨Tryz.f12,Tryz.func12,by kernel_rfl,by kernel_rfl⟩
theorem aEe:Go.Abs.Enters Tryz.prog 13:=⟨Tryz.f13,Tryz.func13,by kernel_rfl,by kernel_rfl⟩
theorem aEf:Go.Abs.Enters Tryz.prog 14:=⟨Tryz.f14,Tryz.func14,by kernel_rfl,by kernel_rfl⟩
theorem ay8:Go.Abs.Enters Tryz.prog 15:=⟨Tryz.f15,Tryz.func15,by kernel_rfl,by kernel_rfl⟩
theorem aEg:Go.Abs.Enters Tryz.prog 16:=⟨Tryz.f16,Tryz.func16,by kernel_rfl,by kernel_rfl⟩
theorem aEh:Go.Abs.Enters Tryz.prog 19:=⟨Tryz.f19,Tryz.func19,by kernel_rfl,by kernel_rfl⟩
theorem aEi:Go.Abs.Enters Tryz.prog 20:=⟨Tryz.f20,Tryz.func20,by kernel_rfl,by kernel_rfl⟩
theorem aEj:Go.Abs.Enters Tryz.prog 21:=⟨Tryz.f21,Tryz.func21,by kernel_rfl,by kernel_rfl⟩
theorem aEk:Go.Abs.Enters Tryz.prog 22:=⟨Tryz.f22,Tryz.func22,by kernel_rfl,by kernel_rfl⟩
theorem aEl:Go.Abs.Enters Tryz.prog 23:=⟨Tryz.f23,Tryz.func23,by kernel_rfl,by kernel_rfl⟩
theorem aEm:Go.Abs.Enters Tryz.prog 24:=⟨Tryz.f24,Tryz.func24,by kernel_rfl,by kernel_rfl⟩
theorem aCb:Go.Abs.Enters Tryz.prog 27:=⟨Tryz.f27,Tryz.func27,by kernel_rfl,by kernel_rfl⟩
theorem aEn:Go.Abs.Enters Tryz.prog 28:=⟨Tryz.f28,Tryz.func28,by kernel_rfl,by kernel_rfl⟩
theorem aEo:Go.Abs.Enters Tryz.prog 29:=⟨Tryz.f29,Tryz.func29,by kernel_rfl,by kernel_rfl⟩
theorem aEp:Go.Abs.Enters Tryz.prog 30:=⟨Tryz.f30,Tryz.func30,by kernel_rfl,by kernel_rfl⟩
theorem aEq:Go.Abs.Enters Tryz.prog 31:=⟨Tryz.f31,Tryz.func31,by kernel_rfl,by kernel_rfl⟩
theorem aEr:Go.Abs.Enters Tryz.prog 32:=⟨Tryz.f32,Tryz.func32,by kernel_rfl,by kernel_rfl⟩
theorem aEs:Go.Abs.Enters Tryz.prog 33:=⟨Tryz.f33,Tryz.func33,by kernel_rfl,by kernel_rfl⟩
theorem aEt:Go.Abs.Enters Tryz.prog 34:=⟨Tryz.f34,Tryz.func34,by kernel_rfl,by kernel_rfl⟩
theorem aEu:Go.Abs.Enters Tryz.prog 35:=⟨Tryz.f35,Tryz.func35,by kernel_rfl,by kernel_rfl⟩
theorem aEv:Go.Abs.Enters Tryz.prog 36:=⟨Tryz.f36,Tryz.func36,by kernel_rfl,by kernel_rfl⟩
theorem aEw:Go.Abs.Enters Tryz.prog 37:=⟨Tryz.f37,Tryz.func37,by kernel_rfl,by kernel_rfl⟩
theorem aCc:Go.Abs.Enters Tryz.prog 38:=⟨Tryz.f38,Tryz.func38,by kernel_rfl,by kernel_rfl⟩
theorem aEx:Go.Abs.Enters Tryz.prog 39:=⟨Tryz.f39,Tryz.func39,by kernel_rfl,by kernel_rfl⟩
theorem aEy:Go.Abs.Enters Tryz.prog 40:=⟨Tryz.f40,Tryz.func40,by kernel_rfl,by kernel_rfl⟩
theorem aEz:Go.Abs.Enters Tryz.prog 41:=⟨Tryz.f41,Tryz.func41,by kernel_rfl,by kernel_rfl⟩
theorem aCd:Go.Abs.Enters Tryz.prog 42:=⟨Tryz.f42,Tryz.func42,by kernel_rfl,by kernel_rfl⟩
theorem aCe:Go.Abs.Enters Tryz.prog 43:=⟨Tryz.f43,Tryz.func43,by kernel_rfl,by kernel_rfl⟩
theorem aEA:Go.Abs.Enters Tryz.prog 44:=⟨Tryz.f44,Tryz.func44,by kernel_rfl,by kernel_rfl⟩
theorem ajO:Go.Abs.Enters Tryz.prog 45:=⟨Tryz.f45,Tryz.func45,by kernel_rfl,by kernel_rfl⟩
theorem aCf:Go.Abs.Enters Tryz.prog 46:=⟨Tryz.f46,Tryz.func46,by kernel_rfl,by kernel_rfl⟩
theorem aCg:Go.Abs.Enters Tryz.prog 47:=⟨Tryz.f47,Tryz.func47,by kernel_rfl,by kernel_rfl⟩
theorem avG:Go.Abs.Enters Tryz.prog 48:=⟨Tryz.f48,Tryz.func48,by kernel_rfl,by kernel_rfl⟩
theorem aCh:Go.Abs.Enters Tryz.prog 53:=⟨Tryz.f53,Tryz.func53,by kernel_rfl,by kernel_rfl⟩
theorem aCi:Go.Abs.Enters Tryz.prog 54:=⟨Tryz.f54,Tryz.func54,by kernel_rfl,by kernel_rfl⟩
theorem aEB:Go.Abs.Enters Tryz.prog 55:=⟨Tryz.f55,Tryz.func55,by kernel_rfl,by kernel_rfl⟩
theorem arh:Go.Abs.Enters Tryz.prog 56:=⟨Tryz.f56,Tryz.func56,by kernel_rfl,by kernel_rfl⟩
theorem aEC:Go.Abs.Enters Tryz.prog 57:=⟨Tryz.f57,Tryz.func57,by kernel_rfl,by kernel_rfl⟩
theorem aED:Go.Abs.Enters Tryz.prog 58:=⟨Tryz.f58,Tryz.func58,by kernel_rfl,by kernel_rfl⟩
theorem aCj:Go.Abs.Enters Tryz.prog 59:=⟨Tryz.f59,Tryz.func59,by kernel_rfl,by kernel_rfl⟩
theorem aCk:Go.Abs.Enters Tryz.prog 60:=⟨Tryz.f60,Tryz.func60,by kernel_rfl,by kernel_rfl⟩
theorem aEE:Go.Abs.Enters Tryz.prog 61:=⟨Tryz.f61,Tryz.func61,by kernel_rfl,by kernel_rfl⟩
theorem ari:Go.Abs.Enters Tryz.prog 62:=⟨Tryz.f62,Tryz.func62,by kernel_rfl,by kernel_rfl⟩
theorem aEF:Go.Abs.Enters Tryz.prog 63:=⟨Tryz.f63,Tryz.func63,by kernel_rfl,by kernel_rfl⟩
theorem ay9:Go.Abs.Enters Tryz.prog 64:=⟨Tryz.f64,Tryz.func64,by kernel_rfl,by kernel_rfl⟩
theorem avH:Go.Abs.Enters Tryz.prog 65:=⟨Tryz.f65,Tryz.func65,by kernel_rfl,by kernel_rfl⟩
theorem aEG:Go.Abs.Enters Tryz.prog 66:=⟨Tryz.f66,Tryz.func66,by kernel_rfl,by kernel_rfl⟩
theorem aEH:Go.Abs.Enters Tryz.prog 67:=⟨Tryz.f67,Tryz.func67,by kernel_rfl,by kernel_rfl⟩
theorem agz:Go.Abs.Enters Tryz.prog 68:=⟨Tryz.f68,Tryz.func68,by kernel_rfl,by kernel_rfl⟩
theorem aCl:Go.Abs.Enters Tryz.prog 69:=⟨Tryz.f69,Tryz.func69,by kernel_rfl,by kernel_rfl⟩
theorem aCm:Go.Abs.Enters Tryz.prog 70:=⟨Tryz.f70,Tryz.func70,by kernel_rfl,by kernel_rfl⟩
theorem aEI:Go.Abs.Enters Tryz.prog 71:=⟨Tryz.f71,Tryz.func71,by kernel_rfl,by kernel_rfl⟩
theorem aEJ:Go.Abs.Enters Tryz.prog 72:=⟨Tryz.f72,Tryz.func72,by kernel_rfl,by kernel_rfl⟩
theorem aEK:Go.Abs.Enters Tryz.prog 73:=⟨Tryz.f73,Tryz.func73,by kernel_rfl,by kernel_rfl⟩
theorem aEL:Go.Abs.Enters Tryz.prog 74:=⟨Tryz.f74,Tryz.func74,by kernel_rfl,by kernel_rfl⟩
theorem anQ:Go.Abs.Enters Tryz.prog 75:=⟨Tryz.f75,Tryz.func75,by kernel_rfl,by kernel_rfl⟩
theorem aCn:Go.Abs.Enters Tryz.prog 76:=⟨Tryz.f76,Tryz.func76,by kernel_rfl,by kernel_rfl⟩
theorem aEM:Go.Abs.Enters Tryz.prog 77:=⟨Tryz.f77,Tryz.func77,by kernel_rfl,by kernel_rfl⟩
theorem aEN:Go.Abs.Enters Tryz.prog 78:=⟨Tryz.f78,Tryz.func78,by kernel_rfl,by kernel_rfl⟩
theorem aCo:Go.Abs.Enters Tryz.prog 80:=⟨Tryz.f80,Tryz.func80,by kernel_rfl,by kernel_rfl⟩
theorem aza:Go.Abs.Enters Tryz.prog 83:=⟨Tryz.f83,Tryz.func83,by kernel_rfl,by kernel_rfl⟩
theorem aEO:Go.Abs.Enters Tryz.prog 84:=⟨Tryz.f84,Tryz.func84,by kernel_rfl,by kernel_rfl⟩
theorem aCp:Go.Abs.Enters Tryz.prog 85:=⟨Tryz.f85,Tryz.func85,by kernel_rfl,by kernel_rfl⟩
theorem ajP:Go.Abs.Enters Tryz.prog 86:=⟨Tryz.f86,Tryz.func86,by kernel_rfl,by kernel_rfl⟩
theorem avI:Go.Abs.Enters Tryz.prog 87:=⟨Tryz.f87,Tryz.func87,by kernel_rfl,by kernel_rfl⟩
theorem aEP:Go.Abs.Enters Tryz.prog 88:=⟨Tryz.f88,Tryz.func88,by kernel_rfl,by kernel_rfl⟩
theorem aEQ:Go.Abs.Enters Tryz.prog 89:=⟨Tryz.f89,Tryz.func89,by kernel_rfl,by kernel_rfl⟩
theorem aER:Go.Abs.Enters Tryz.prog 90:=⟨Tryz.f90,Tryz.func90,by kernel_rfl,by kernel_rfl⟩
theorem aES:Go.Abs.Enters Tryz.prog 91:=⟨Tryz.f91,Tryz.func91,by kernel_rfl,by kernel_rfl⟩
theorem anR:Go.Abs.Enters Tryz.prog 92:=⟨Tryz.f92,Tryz.func92,by kernel_rfl,by kernel_rfl⟩
theorem aCq:Go.Abs.Enters Tryz.prog 93:=⟨Tryz.f93,Tryz.func93,by kernel_rfl,by kernel_rfl⟩
theorem aET:Go.Abs.Enters Tryz.prog 94:=⟨Tryz.f94,Tryz.func94,by kernel_rfl,by kernel_rfl⟩
theorem aCr:Go.Abs.Enters Tryz.prog 95:=⟨Tryz.f95,Tryz.func95,by kernel_rfl,by kernel_rfl⟩
theorem aCs:Go.Abs.Enters Tryz.prog 96:=⟨Tryz.f96,Tryz.func96,by kernel_rfl,by kernel_rfl⟩
theorem aEU:Go.Abs.Enters Tryz.prog 97:=⟨Tryz.f97,Tryz.func97,by kernel_rfl,by kernel_rfl⟩
theorem aEV:Go.Abs.Enters Tryz.prog 98:=⟨Tryz.f98,Tryz.func98,by kernel_rfl,by kernel_rfl⟩
theorem avJ:Go.Abs.Enters Tryz.prog 99:=⟨Tryz.f99,Tryz.func99,by kernel_rfl,by kernel_rfl⟩
theorem aCV:Go.Abs.Enters Tryz.prog 100:=⟨Tryz.f100,Tryz.func100,by kernel_rfl,by kernel_rfl⟩
theorem aCW:Go.Abs.Enters Tryz.prog 101:=⟨Tryz.f101,Tryz.func101,by kernel_rfl,by kernel_rfl⟩
theorem ay1:Go.Abs.Enters Tryz.prog 102:=⟨Tryz.f102,Tryz.func102,by kernel_rfl,by kernel_rfl⟩
theorem ay2:Go.Abs.Enters Tryz.prog 103:=⟨Tryz.f103,Tryz.func103,by kernel_rfl,by kernel_rfl⟩
theorem aCX:Go.Abs.Enters Tryz.prog 104:=⟨Tryz.f104,Tryz.func104,by kernel_rfl,by kernel_rfl⟩
theorem aCY:Go.Abs.Enters Tryz.prog 105:=⟨Tryz.f105,Tryz.func105,by kernel_rfl,by kernel_rfl⟩
theorem aCZ:Go.Abs.Enters Tryz.prog 106:=⟨Tryz.f106,Tryz.func106,by kernel_rfl,by kernel_rfl⟩
theorem aC0:Go.Abs.Enters Tryz.prog 107:=⟨Tryz.f107,Tryz.func107,by kernel_rfl,by kernel_rfl⟩
theorem aeD:Go.Abs.Enters Tryz.prog 108:=⟨Tryz.f108,Tryz.func108,by kernel_rfl,by kernel_rfl⟩
theorem aC1:Go.Abs.Enters Tryz.prog 109:=⟨Tryz.f109,Tryz.func109,by kernel_rfl,by kernel_rfl⟩
theorem aC2:Go.Abs.Enters Tryz.prog 110:=⟨Tryz.f110,Tryz.func110,by kernel_rfl,by kernel_rfl⟩
theorem ay3:Go.Abs.Enters Tryz.prog 111:=⟨Tryz.f111,Tryz.func111,by kernel_rfl,by kernel_rfl⟩
theorem aC3:Go.Abs.Enters Tryz.prog 112:=⟨Tryz.f112,Tryz.func112,by kernel_rfl,by kernel_rfl⟩
theorem aC4:Go.Abs.Enters Tryz.prog 113:=⟨Tryz.f113,Tryz.func113,by kernel_rfl,by kernel_rfl⟩
theorem aC5:Go.Abs.Enters Tryz.prog 114:=⟨Tryz.f114,Tryz.func114,by kernel_rfl,by kernel_rfl⟩
theorem aC6:Go.Abs.Enters Tryz.prog 115:=⟨Tryz.f115,Tryz.func115,by kernel_rfl,by kernel_rfl⟩
theorem aum:Go.Abs.Enters Tryz.prog 116:=⟨Tryz.f116,Tryz.func116,by kernel_rfl,by kernel_rfl⟩
theorem ay4:Go.Abs.Enters Tryz.prog 117:=⟨Tryz.f117,Tryz.func117,by kernel_rfl,by kernel_rfl⟩
theorem aC7:Go.Abs.Enters Tryz.prog 118:=⟨Tryz.f118,Tryz.func118,by kernel_rfl,by kernel_rfl⟩
theorem aC8:Go.Abs.Enters Tryz.prog 119:=⟨Tryz.f119,Tryz.func119,by kernel_rfl,by kernel_rfl⟩
theorem aC9:Go.Abs.Enters Tryz.prog 120:=⟨Tryz.f120,Tryz.func120,by kernel_rfl,by kernel_rfl⟩
theorem aDa:Go.Abs.Enters Tryz.prog 121:=⟨Tryz.f121,Tryz.func121,by kernel_rfl,by kernel_rfl⟩
theorem ay6:Go.Abs.Enters Tryz.prog 122:=⟨Tryz.f122,Tryz.func122,by kernel_rfl,by kernel_rfl⟩
theorem aDb:Go.Abs.Enters Tryz.prog 123:=⟨Tryz.f123,Tryz.func123,by kernel_rfl,by kernel_rfl⟩
theorem aDc:Go.Abs.Enters Tryz.prog 124:=⟨Tryz.f124,Tryz.func124,by kernel_rfl,by kernel_rfl⟩
theorem aDd:Go.Abs.Enters Tryz.prog 125:=⟨Tryz.f125,Tryz.func125,by kernel_rfl,by kernel_rfl⟩
theorem ay7:Go.Abs.Enters Tryz.prog 126:=⟨Tryz.f126,Tryz.func126,by kernel_rfl,by kernel_rfl⟩
theorem aDe:Go.Abs.Enters Tryz.prog 127:=⟨Tryz.f127,Tryz.func127,by kernel_rfl,by kernel_rfl⟩
theorem aDf:Go.Abs.Enters Tryz.prog 128:=⟨Tryz.f128,Tryz.func128,by kernel_rfl,by kernel_rfl⟩
theorem aDg:Go.Abs.Enters Tryz.prog 129:=⟨Tryz.f129,Tryz.func129,by kernel_rfl,by kernel_rfl⟩
theorem aDh:Go.Abs.Enters Tryz.prog 130:=⟨Tryz.f130,Tryz.func130,by kernel_rfl,by kernel_rfl⟩
theorem aDi:Go.Abs.Enters Tryz.prog 131:=⟨Tryz.f131,Tryz.func131,by kernel_rfl,by kernel_rfl⟩
theorem aDj:Go.Abs.Enters Tryz.prog 132:=⟨Tryz.f132,Tryz.func132,by kernel_rfl,by kernel_rfl⟩
theorem aun:Go.Abs.Enters Tryz.prog 133:=⟨Tryz.f133,Tryz.func133,by kernel_rfl,by kernel_rfl⟩
theorem aDk:Go.Abs.Enters Tryz.prog 134:=⟨Tryz.f134,Tryz.func134,by kernel_rfl,by kernel_rfl⟩
theorem aDl:Go.Abs.Enters Tryz.prog 135:=⟨Tryz.f135,Tryz.func135,by kernel_rfl,by kernel_rfl⟩
theorem aDm:Go.Abs.Enters Tryz.prog 136:=⟨Tryz.f136,Tryz.func136,by kernel_rfl,by kernel_rfl⟩
theorem aDn:Go.Abs.Enters Tryz.prog 137:=⟨Tryz.f137,Tryz.func137,by kernel_rfl,by kernel_rfl⟩
theorem aDo:Go.Abs.Enters Tryz.prog 138:=⟨Tryz.f138,Tryz.func138,by kernel_rfl,by kernel_rfl⟩
theorem aDp:Go.Abs.Enters Tryz.prog 139:=⟨Tryz.f139,Tryz.func139,by kernel_rfl,by kernel_rfl⟩
theorem aDq:Go.Abs.Enters Tryz.prog 140:=⟨Tryz.f140,Tryz.func140,by kernel_rfl,by kernel_rfl⟩
abbrev bB:=(Int×((List Int)×Unit))
abbrev aG:=((Int×(Int×Unit))×((List Int)×(Int×Unit)))
abbrev eU:=((Int×(Int×Unit))×(Int×((List (List Int))×Unit)))
def akN (p0:List Int) (p1:Int):Tre Int:=
 let v1:=aI .i64 (p1-(p0.length:Int))
 .cond (decide (v1<0))
  (.ret (-1))
  (.ret v1)
def apn (p0:List Int) (p1:Int):Option Int:=(akN p0 p1).run some
def fq(p0:List Int)(p1:Int):Int:=
 let v1:=aI .i64 (p1-(p0.length:Int))
 cond (decide (v1<0))
  (-1)
  (v1)
theorem aij(p0:List Int)(p1:Int):apn p0 p1=some (fq p0 p1):=(xE rfl rfl)
-- more
theorem akO{xs:List Int}(h:xs.length≤maxLen)(hn:¬fq xs 1048576<0):xs.length≤1048576:=by
 unfold maxLen at h
 unfold fq at hn
 dsimp only at hn
 rw [dP (by omega) (by omega)] at hn
 by_cases h2:(1048576:Int)-xs.length<0
 ·simp [h2] at hn
 ·omega
def acF:Env:=⟨tau,[],[]⟩
def apq:FnI:=fnI Tryz.f27 []
def VR (_:Bool) (_:List Int) (_:Int):Int→au:=fun r=>⟨(.i r),[],[]⟩
theorem amU:∀(zp0:Bool)(p0:List Int)(p1:Int),bJ acF apq ⟨[(.imm zp0 .il p0),(.i p1)],[]⟩=(akN p0 p1).run fun r=>some (VR zp0 p0 p1 r):=fun _ _ _=>by kernel_rfl
def apo (av:List AV) (rs:List Root):Tre au:=
 aC av fun a0_ av0=>
 aC av0 fun a1_ av1=>
 aM av1<|
 aM rs<|
 aZ .il a0_ fun z2 d1=>
 ay true .n a1_ fun d3=>
 .ret (VR z2 d1 d3 (fq d1 d3))
def QW:Ctr:=dD [] apo
theorem Y6:Contract Tryz.prog .none 27 QW:=aD (V:=acF) aW aH Tryz.func27 bI fun _ _ _=>aK fun _ _=>aK fun _ _=>bf<|bf<|bY fun _ _=>aJ fun _=>fun h=>by intros;subst_vars;exact tC (amU _ _ _) (aij _ _) h
def Y5 (p0:aG) (p1:Int):Tre Int:=
 .cond (decide ((fq p0.2.1 p1)<0))
  (.ret (-1))
  (.ret (fq p0.2.1 p1))
def aie (p0:aG) (p1:Int):Option Int:=(Y5 p0 p1).run some
def jA(p0:aG)(p1:Int):Int:=
 cond (decide ((fq p0.2.1 p1)<0))
  (-1)
  ((fq p0.2.1 p1))
theorem aaF(p0:aG)(p1:Int):aie p0 p1=some (jA p0 p1):=(xE rfl rfl)
def Sn:Env:=⟨tau,[(27,QW)],[]⟩
def aii:FnI:=fnI Tryz.f7 []
def Lx (_:Bool) (_:aG) (_:Int):Int→au:=fun r=>⟨(.i r),[],[]⟩
theorem aff:∀(zp0:Bool)(p0:aG)(p1:Int),bJ Sn aii ⟨[(.imm zp0 aX p0),(.i p1)],[]⟩=(Y5 p0 p1).run fun r=>some (Lx zp0 p0 p1 r):=fun _ _ _=>by kernel_rfl
def aif (av:List AV) (rs:List Root):Tre au:=
 aC av fun a0_ av0=>
 aC av0 fun a1_ av1=>
 aM av1<|
 aM rs<|
 aZ aX a0_ fun z2 d1=>
 ay true .n a1_ fun d3=>
 .ret (Lx z2 d1 d3 (jA d1 d3))
def Sq:Ctr:=dD [] aif
theorem afg:Contract Tryz.prog .none 7 Sq:=aD (V:=Sn) aW (ak Y6 aCb aH) Tryz.func7 bI fun _ _ _=>aK fun _ _=>aK fun _ _=>bf<|bf<|bY fun _ _=>aJ fun _=>fun h=>by intros;subst_vars;exact tC (aff _ _ _) (aaF _ _) h
def akP (p0:bB) (p1:Int):Tre Int:=
 .cond (decide ((fq p0.2.1 p1)<0))
  (.ret (-1))
  (.ret (fq p0.2.1 p1))
def apr (p0:bB) (p1:Int):Option Int:=(akP p0 p1).run some
def AU(p0:bB)(p1:Int):Int:=
 cond (decide ((fq p0.2.1 p1)<0))
  (-1)
  ((fq p0.2.1 p1))
theorem aik(p0:bB)(p1:Int):apr p0 p1=some (AU p0 p1):=(xE rfl rfl)
def acG:Env:=⟨tau,[(27,QW)],[]⟩
def apt:FnI:=fnI Tryz.f19 []
def VT (_:Bool) (_:bB) (_:Int):Int→au:=fun r=>⟨(.i r),[],[]⟩
theorem amV:∀(zp0:Bool)(p0:bB)(p1:Int),bJ acG apt ⟨[(.imm zp0 bZ p0),(.i p1)],[]⟩=(akP p0 p1).run fun r=>some (VT zp0 p0 p1 r):=fun _ _ _=>by kernel_rfl
def aps (av:List AV) (rs:List Root):Tre au:=
 aC av fun a0_ av0=>
 aC av0 fun a1_ av1=>
 aM av1<|
 aM rs<|
 aZ bZ a0_ fun z2 d1=>
 ay true .n a1_ fun d3=>
 .ret (VT z2 d1 d3 (AU d1 d3))
def acH:Ctr:=dD [] aps
theorem amW:Contract Tryz.prog .none 19 acH:=aD (V:=acG) aW (ak Y6 aCb aH) Tryz.func19 bI fun _ _ _=>aK fun _ _=>aK fun _ _=>bf<|bf<|bY fun _ _=>aJ fun _=>fun h=>by intros;subst_vars;exact tC (amV _ _ _) (aik _ _) h
def an7 (_:(Int×(Int×Unit))):Tre Unit:=
 .ret ()
def ar0 (p0:(Int×(Int×Unit))):Option Unit:=(an7 p0).run some
theorem akQ(p0:(Int×(Int×Unit))):ar0 p0=some ():=rfl
def agR:Env:=⟨tau,[],[]⟩
def ar2:FnI:=fnI Tryz.f30 []
def Y7 (p0:(Int×(Int×Unit))):Unit→au:=fun _=>⟨(.imm true aL p0),[],[]⟩
theorem apu:∀(p0:(Int×(Int×Unit))),bJ agR ar2 ⟨[(.imm true aL p0)],[]⟩=(an7 p0).run fun r=>some (Y7 p0 r):=fun _=>by kernel_rfl
def ar1 (av:List AV) (rs:List Root):Tre au:=
 aC av fun a0_ av0=>
 aM av0<|
 aM rs<|
 ay true aL a0_ fun d1=>
 .ret (Y7 d1 ())
def agS:Ctr:=dD [] ar1
theorem apv:Contract Tryz.prog .none 30 agS:=aD (V:=agR) aW aH Tryz.func30 bI fun _ _ _=>aK fun _ _=>bf<|bf<|aJ fun _=>fun h=>by intros;subst_vars;exact tC (apu _) (akQ _) h
def sF (aV:List Int):(Int×(List Int))→Tre ((Int×(List Int)) ⊕ (List Int)):=fun s3=>
 .cond (decide (s3.1<(aV.length:Int)))
  (.ite (0≤s3.1∧s3.1<(aV.length:Int))<|
  .mat (aV[s3.1.toNat]?) fun x1=>
  .ite (0≤s3.1∧s3.1<(s3.2.length:Int))<|
  .mat (s3.2[s3.1.toNat]?) fun _=>
  let v3:=s3.2.set s3.1.toNat x1
  .ret (.inl (aI .i64 (s3.1+1),v3)))
  (.ret (.inr s3.2))
def aaG (p0:List Int):Tre (List Int):=
 .ite ((.n:K)=.n∧0≤(p0.length:Int)∧(p0.length:Int)=(p0.length:Int)∧(p0.length:Int)*(8:Nat)≤140737488355328∧1≤8)<|
 .mat (aO (sF p0) (0,List.replicate (p0.length:Int).toNat (0:Int))) fun l4=>
 .ret l4
def acI (p0:List Int):Option (List Int):=(aaG p0).run some
theorem aip(p0 y:List Int)(h:fT p0=some y):acI p0=some y:=by
 obtain ⟨hl,rfl⟩:=acN h
 unfold acI aaG
 rw [Tre.run_ite,if_pos ⟨rfl,by omega,rfl,by omega,by omega⟩,Tre.kg]
 have:=kN (xs:=p0) (step:=sF p0) (fun i acc=>((i:Int),acc)) (fun i acc x=>.inl (acc.set i x)) id (fun i acc=>acc.length=p0.length) (by
  intro i acc x hx hI
  have hi:i<p0.length:=(List.getElem?_eq_some_iff.1 hx).1
  refine ⟨?_,fun a ha=>by cases ha;simpa using hI⟩
  unfold sF
  rw [dX hx]
  rw [show acc.length=p0.length from hI]
  rw [Tre.run_ite,if_pos ⟨by dsimp only;omega,by dsimp only;omega⟩,Tre.kg]
  dsimp only
  rw [Int.toNat_natCast,List.getElem?_eq_getElem (by omega:i<acc.length),Option.bind_some,Tre.aF,aR (by omega)])
  (by
  intro acc hI
  unfold sF
  exact dF)
  p0 0 (List.replicate p0.length 0) rfl (Nat.zero_le _) (by simp)
 rw [Int.toNat_natCast]
 rw [show ((0:Int),List.replicate p0.length (0:Int))=(((0:Nat):Int),List.replicate p0.length 0) from rfl,this,axk _ _ _ _ (by simp)]
 simp [Tre.aF]
def Hu:Env:=⟨tau,[],[]⟩
def acJ:Code:=(Tryz.f10.body).getD .skip
def OL (dZ:Bool) (aV:List Int):(Int×(List Int))→St:=fun x=>bP [(0,(.imm dZ .il aV)),(3,(.ref (5,0) [])),(4,(.i x.1))] [((5,0),some ⟨false,.il,.own,x.2⟩)]
def LB (_:Bool) (_:List Int):(List Int)→Ex×St:=fun x=>(.exit 0,bP [(3,(.ref (5,0) []))] [((5,0),some ⟨false,.il,.own,x⟩)])
def aio (s:St):Tre (Ex×St):=
 aZ .il (s.tmps 0) fun z3 d2=>
 dI (5,0) [] (s.tmps 3)<|
 ay true .n (s.tmps 4) fun d6=>
 bg false .il (s.roots (5,0)) fun m8 d9=>
 asM .own m8<|
 .mat (aO (sF d2) (d6,d9)) fun x=>.ret (LB z3 d2 x)
def xW:bq:=⟨([0,3,4],[(5,0)]),([3],[(5,0)]),aio⟩
def QX:List (Nat×bq):=[(3,xW)]
theorem aaH:∀(dZ:Bool)(aV:List Int)(x:(Int×(List Int)))(c:St→Option (Ex×St)),den Hu QX (aT acJ 0) (OL dZ aV x) (bR xW.kp xW.kx c)=(sF aV x).run (bS (OL dZ aV) (LB dZ aV) c):=fun _ _ _ _=>by
 kernel_rfl
theorem afj:bQ Hu QX (aT acJ 0) xW:=bX fun _ _ _=>bY fun _ _=>fI<|aJ fun _=>bV fun _ _=>tM<|fun h _ e7 e5 e4 e1=>bO (aaH _ _) h (by subst_vars;exact aP rfl rfl ⟨e1,e4,e5,trivial⟩ ⟨e7,trivial⟩)
def apx:FnI:=fnI Tryz.f10 QX
def VU (_:Bool) (_:List Int):(List Int)→au:=fun r=>⟨(.ref (1,0) []),[],[⟨false,.il,.own,r⟩]⟩
theorem amX:∀(zp0:Bool)(p0:List Int),bJ Hu apx ⟨[(.imm zp0 .il p0)],[]⟩=(aaG p0).run fun r=>some (VU zp0 p0 r):=fun _ _=>by kernel_rfl
def apw (av:List AV) (rs:List Root):Tre au:=
 aC av fun a0_ av0=>
 aM av0<|
 aM rs<|
 aZ .il a0_ fun z2 d1=>
 .mat (fT d1) fun r=>.ret (VU z2 d1 r)
def Hw:Ctr:=dD [] apw
theorem Nf:Contract Tryz.prog .none 10 Hw:=aD (V:=Hu) aW aH Tryz.func10 (bF (n:=1) fun k hk=>by
 match k,hk with
 |0,_=>exact bH (id:=3) afj) fun _ _ _=>aK fun _ _=>bf<|bf<|bY fun _ _=>fun h=>by intros;subst_vars;exact qE (amX _ _) (aip _) h
def Nc (p0:aG):Tre ((Int×(Int×Unit))×(Int×Unit)×(List Int)):=
 .mat (fT p0.2.1) fun r1=>
 .ret (p0.1,p0.2.2,r1)
def lH (p0:aG):Option ((Int×(Int×Unit))×(Int×Unit)×(List Int)):=(Nc p0).run some
def Sr:Env:=⟨tau,[(30,agS),(10,Hw)],[]⟩
def ain:FnI:=fnI Tryz.f9 []
def LA (_:Bool) (_:aG):((Int×(Int×Unit))×(Int×Unit)×(List Int))→au:=fun r=>⟨(.pair (.imm true aL r.1) (.pair (.ref (1,0) []) (.imm true (.pair .n .unit) r.2.1))),[],[⟨false,.il,.own,r.2.2⟩]⟩
theorem afh:∀(zp0:Bool)(p0:aG),bJ Sr ain ⟨[(.imm zp0 aX p0)],[]⟩=(Nc p0).run fun r=>some (LA zp0 p0 r):=fun _ _=>by kernel_rfl
def ail (av:List AV) (rs:List Root):Tre au:=
 aC av fun a0_ av0=>
 aM av0<|
 aM rs<|
 aZ aX a0_ fun z2 d1=>
 .mat (lH d1) fun r=>.ret (LA z2 d1 r)
def Sv:Ctr:=dD [] ail
theorem afi:Contract Tryz.prog .none 9 Sv:=aD (V:=Sr) aW (ak apv aEp (ak Nf ay0 aH)) Tryz.func9 bI fun _ _ _=>aK fun _ _=>bf<|bf<|bY fun _ _=>fun h=>by intros;subst_vars;exact bn (afh _ _) h
def aaI (p0:bB):Tre (Int×(List Int)):=
 .mat (fT p0.2.1) fun r1=>
 .ret (p0.1,r1)
def qQ (p0:bB):Option (Int×(List Int)):=(aaI p0).run some
def acK:Env:=⟨tau,[(10,Hw)],[]⟩
def apz:FnI:=fnI Tryz.f21 []
def VW (_:Bool) (_:bB):(Int×(List Int))→au:=fun r=>⟨(.pair (.i r.1) (.pair (.ref (1,0) []) (.imm true .unit ()))),[],[⟨false,.il,.own,r.2⟩]⟩
theorem amY:∀(zp0:Bool)(p0:bB),bJ acK apz ⟨[(.imm zp0 bZ p0)],[]⟩=(aaI p0).run fun r=>some (VW zp0 p0 r):=fun _ _=>by kernel_rfl
def apy (av:List AV) (rs:List Root):Tre au:=
 aC av fun a0_ av0=>
 aM av0<|
 aM rs<|
 aZ bZ a0_ fun z2 d1=>
 .mat (qQ d1) fun r=>.ret (VW z2 d1 r)
def acL:Ctr:=dD [] apy
theorem amZ:Contract Tryz.prog .none 21 acL:=aD (V:=acK) aW (ak Nf ay0 aH) Tryz.func21 bI fun _ _ _=>aK fun _ _=>bf<|bf<|bY fun _ _=>fun h=>by intros;subst_vars;exact bn (amY _ _) h
def apQ (p0:Int) (p1:Int) (p2:Int):Tre Bool:=
 .cond (decide (p0 ≥ p1))
  (.ret (decide (p0≤p2)))
  (.ret false)
def aom (p0:Int) (p1:Int) (p2:Int):Option Bool:=(apQ p0 p1 p2).run some
theorem apR(n a b:Int):aom n a b=some (inR n a b):=by
 unfold aom apQ inR
 by_cases h:a≤n
 ·simp [Tre.aA,Tre.aF,h]
 ·simp [Tre.aA,Tre.aF,h]
def aon:Env:=⟨tau,[],[]⟩
def ax1:FnI:=fnI Tryz.f86 []
def agY (_:Int) (_:Int) (_:Int):Bool→au:=fun r=>⟨(.imm true .bool r),[],[]⟩
theorem auZ:∀(p0 p1 p2:Int),bJ aon ax1 ⟨[(.i p0),(.i p1),(.i p2)],[]⟩=(apQ p0 p1 p2).run fun r=>some (agY p0 p1 p2 r):=fun _ _ _=>by kernel_rfl
def ax0 (av:List AV) (rs:List Root):Tre au:=
 aC av fun a0_ av0=>
 aC av0 fun a1_ av1=>
 aC av1 fun a2_ av2=>
 aM av2<|
 aM rs<|
 ay true .n a0_ fun d1=>
 ay true .n a1_ fun d2=>
 ay true .n a2_ fun d3=>
 .ret (agY d1 d2 d3 (inR d1 d2 d3))
def zB:Ctr:=dD [] ax0
theorem yO:Contract Tryz.prog .none 86 zB:=aD (V:=aon) aW aH Tryz.func86 bI fun _ _ _=>aK fun _ _=>aK fun _ _=>aK fun _ _=>bf<|bf<|aJ fun _=>aJ fun _=>aJ fun _=>fun h=>by intros;subst_vars;exact tC (auZ _ _ _) (apR _ _ _) h
def Jy:(Int×Int)→Tre ((Int×Int) ⊕ Int):=fun s2=>
 .cond (decide (s2.1>0))
  (let v1:=aI .i64 (Int.tdiv s2.1 2)
  .ret (.inl (v1,aI .i64 (s2.2+1))))
  (.ret (.inr s2.2))
def ag4 (p0:Int):Tre Int:=
 .mat (aO Jy (p0,-1)) fun l2=>
 .ret l2
def oG (p0:Int):Option Int:=(ag4 p0).run some
def DN:Env:=⟨tau,[],[]⟩
def Zi:Code:=(Tryz.f116.body).getD .skip
def LX:(Int×Int)→St:=fun x=>bP [(0,(.i x.1)),(3,(.i x.2))] []
def Jz:Int→Ex×St:=fun x=>(.exit 0,bP [(3,(.i x))] [])
def afK (s:St):Tre (Ex×St):=
 ay true .n (s.tmps 0) fun d2=>
 ay true .n (s.tmps 3) fun d4=>
 .mat (aO Jy (d2,d4)) fun x=>.ret (Jz x)
def vR:bq:=⟨([0,3],[]),([3],[]),afK⟩
def Nk:List (Nat×bq):=[(2,vR)]
theorem Yr:∀(x:(Int×Int))(c:St→Option (Ex×St)),den DN Nk (aT Zi 0) (LX x) (bR vR.kp vR.kx c)=(Jy x).run (bS (LX) (Jz) c):=fun _ _=>by
 kernel_rfl
theorem ado:bQ DN Nk (aT Zi 0) vR:=bX fun _ _ _=>aJ fun _=>aJ fun _=>fun h e3 e1=>bO Yr h (by subst_vars;exact aP rfl rfl ⟨e1,e3,trivial⟩ trivial)
def am8:FnI:=fnI Tryz.f116 Nk
def SC (_:Int):Int→au:=fun r=>⟨(.i r),[],[]⟩
theorem alr:∀(p0:Int),bJ DN am8 ⟨[(.i p0)],[]⟩=(ag4 p0).run fun r=>some (SC p0 r):=fun _=>by kernel_rfl
def am7 (av:List AV) (rs:List Root):Tre au:=
 aC av fun a0_ av0=>
 aM av0<|
 aM rs<|
 ay true .n a0_ fun d1=>
 .mat (oG d1) fun r=>.ret (SC d1 r)
def DR:Ctr:=dD [] am7
theorem JA:Contract Tryz.prog .none 116 DR:=aD (V:=DN) aW aH Tryz.func116 (bF (n:=1) fun k hk=>by
 match k,hk with
 |0,_=>exact bH (id:=2) ado) fun _ _ _=>aK fun _ _=>bf<|bf<|aJ fun _=>fun h=>by intros;subst_vars;exact bn (alr _) h
def Rm (bG:Int) (dA:Int):Int→Tre (Int ⊕ Int):=fun s2=>
 .mat (oG s2) fun r2=>
 .cond (decide (r2 ≥ dA))
  (.mat (oG s2) fun r3=>
  let v4:=aI .u64 (aI .i64 (r3-dA))
  .ite (0≤v4)<|
  let v5:=jw .i64 s2 (Ua .i64 bG v4)
  .ret (.inl v5))
  (.ret (.inr s2))
def aop (p0:Int) (p1:Int):Tre Int:=
 .mat (oG p1) fun r1=>
 .mat (aO (Rm p1 r1) p0) fun l6=>
 .ret l6
def WI (p0:Int) (p1:Int):Option Int:=(aop p0 p1).run some
def L8:Env:=⟨tau,[(116,DR)],[]⟩
def ag8:Code:=(Tryz.f103.body).getD .skip
def SG (bG:Int) (dA:Int):Int→St:=fun x=>bP [(0,(.i x)),(1,(.i bG)),(5,(.i dA))] []
def OZ (_:Int) (_:Int):Int→Ex×St:=fun x=>(.exit 0,bP [(0,(.i x))] [])
def alz (s:St):Tre (Ex×St):=
 ay true .n (s.tmps 0) fun d2=>
 ay true .n (s.tmps 1) fun d4=>
 ay true .n (s.tmps 5) fun d6=>
 .mat (aO (Rm d4 d6) d2) fun x=>.ret (OZ d4 d6 x)
def Bb:bq:=⟨([0,1,5],[]),([0],[]),alz⟩
def WH:List (Nat×bq):=[(2,Bb)]
theorem adv:∀(bG dA x:Int)(c:St→Option (Ex×St)),den L8 WH (aT ag8 0) (SG bG dA x) (bR Bb.kp Bb.kx c)=(Rm bG dA x).run (bS (SG bG dA) (OZ bG dA) c):=fun _ _ _ _=>by
 kernel_rfl
theorem aiD:bQ L8 WH (aT ag8 0) Bb:=bX fun _ _ _=>aJ fun _=>aJ fun _=>aJ fun _=>fun h e5 e3 e1=>bO (adv _ _) h (by subst_vars;exact aP rfl rfl ⟨e1,e3,e5,trivial⟩ trivial)
def asV:FnI:=fnI Tryz.f103 WH
def Zk (_:Int) (_:Int):Int→au:=fun r=>⟨(.i r),[],[]⟩
theorem ap0:∀(p0 p1:Int),bJ L8 asV ⟨[(.i p0),(.i p1)],[]⟩=(aop p0 p1).run fun r=>some (Zk p0 p1 r):=fun _ _=>by kernel_rfl
def asU (av:List AV) (rs:List Root):Tre au:=
 aC av fun a0_ av0=>
 aC av0 fun a1_ av1=>
 aM av1<|
 aM rs<|
 ay true .n a0_ fun d1=>
 ay true .n a1_ fun d2=>
 .mat (WI d1 d2) fun r=>.ret (Zk d1 d2 r)
def WJ:Ctr:=dD [] asU
theorem adw:Contract Tryz.prog .none 103 WJ:=aD (V:=L8) aW (ak JA aum aH) Tryz.func103 (bF (n:=1) fun k hk=>by
 match k,hk with
 |0,_=>exact bH (id:=2) aiD) fun _ _ _=>aK fun _ _=>aK fun _ _=>bf<|bf<|aJ fun _=>aJ fun _=>fun h=>by intros;subst_vars;exact bn (ap0 _ _) h
def pz (fG:Int) (jL:Int):Int→Tre (Int ⊕ (Bool ⊕ Unit)):=fun s5=>
 .mat (oG s5) fun r2=>
 .cond (decide (r2<jL))
  (.mat (WI fG s5) fun r3=>
  .cond (decide (r3=0))
   (.ret (.inr (.inl false)))
   (.ret (.inl (aI .i64 (s5+1)))))
  (.ret (.inr (.inr ())))
def OX (p0:Int):Tre Bool:=
 .mat (oG p0) fun r1=>
 .cond (decide (r1<1))
  (.ret false)
  (.cond (decide (r1>5))
   (.ret false)
   (.mat (aO (pz p0 r1) 2) fun l4=>
   .alt l4
    (fun a5=>
     .ret a5)
    (fun _=>
     .ret true)))
def JC (p0:Int):Option Bool:=(OX p0).run some
def qR:Env:=⟨tau,[(116,DR),(103,WJ)],[]⟩
def JD:Code:=(Tryz.f134.body).getD .skip
def qU (fG:Int) (jL:Int):Int→St:=fun x=>bP [(0,(.i fG)),(3,(.i jL)),(4,(.i x))] []
def kZ (_:Int) (_:Int):(Bool ⊕ Unit)→Ex×St
 |.inl x=>(.ret,bP [(2,(.imm true .bool x))] [])
 |.inr _=>(.exit 0,bP [(2,.dead)] [])
def Ci (s:St):Tre (Ex×St):=
 ay true .n (s.tmps 0) fun d2=>
 ay true .n (s.tmps 3) fun d4=>
 ay true .n (s.tmps 4) fun d6=>
 .mat (aO (pz d2 d4) d6) fun x=>.alt x (fun a0=>.ret (kZ d2 d4 (.inl a0))) (fun b0=>.ret (kZ d2 d4 (.inr b0)))
def jH:bq:=⟨([0,3,4],[]),([2],[]),Ci⟩
def yP:List (Nat×bq):=[(5,jH)]
theorem Nl:∀(fG jL x:Int)(c:St→Option (Ex×St)),den qR yP (aT JD 0) (qU fG jL x) (bR jH.kp jH.kx c)=(pz fG jL x).run (bS (qU fG jL) (kZ fG jL) c):=fun _ _ _ _=>by
 kernel_rfl
theorem Rj:bQ qR yP (aT JD 0) jH:=fK fun s e s' h=>by
 generalize hs:restrict jH.kp s=s1 at h
 have h:(Ci s1).run some=some (e,s'):=h
 obtain ⟨d2,e1,h_0⟩:=cu h
 obtain ⟨d4,e3,h_1⟩:=cu h_0
 obtain ⟨d6,e5,h_2⟩:=cu h_1
 obtain ⟨y,hy,hz⟩:=gN h_2
 refine ⟨_,_,qU d2 d4,kZ d2 d4,pz d2 d4,d6,y,?_,hy,?_,Nl d2 d4⟩
 ·subst hs;exact aP (T:=[(0,(.i d2)),(3,(.i d4)),(4,(.i d6))]) (U:=[]) rfl rfl ⟨e1,e3,e5,trivial⟩ trivial
 ·rcases y with x|x<;>exact Option.some.inj hz
def aaX:FnI:=fnI Tryz.f134 yP
def ER (_:Int):Bool→au:=fun r=>⟨(.imm true .bool r),[],[]⟩
theorem Yt:∀(p0:Int),bJ qR aaX ⟨[(.i p0)],[]⟩=(OX p0).run fun r=>some (ER p0 r):=fun _=>by kernel_rfl
def aaW (av:List AV) (rs:List Root):Tre au:=
 aC av fun a0_ av0=>
 aM av0<|
 aM rs<|
 ay true .n a0_ fun d1=>
 .mat (JC d1) fun r=>.ret (ER d1 r)
def JE:Ctr:=dD [] aaW
theorem Yu:Contract Tryz.prog .none 134 JE:=aD (V:=qR) aW (ak JA aum (ak adw ay2 aH)) Tryz.func134 (bF (n:=1) fun k hk=>by
 match k,hk with
 |0,_=>exact bH (id:=5) Rj) fun _ _ _=>aK fun _ _=>bf<|bf<|aJ fun _=>fun h=>by intros;subst_vars;exact bn (Yt _) h
def FN (p0:Int):Tre Bool:=
 .cond (decide (p0>0))
  (.cond (decide (p0<64))
   (.mat (JC p0) fun r1=>
   .ret r1)
   (.ret false))
  (.ret false)
def tZ (p0:Int):Option Bool:=(FN p0).run some
def LP:Env:=⟨tau,[(134,JE)],[]⟩
def adj:FnI:=fnI Tryz.f115 []
def Gw (_:Int):Bool→au:=fun r=>⟨(.imm true .bool r),[],[]⟩
theorem aaT:∀(p0:Int),bJ LP adj ⟨[(.i p0)],[]⟩=(FN p0).run fun r=>some (Gw p0 r):=fun _=>by kernel_rfl
def adi (av:List AV) (rs:List Root):Tre au:=
 aC av fun a0_ av0=>
 aM av0<|
 aM rs<|
 ay true .n a0_ fun d1=>
 .mat (tZ d1) fun r=>.ret (Gw d1 r)
def LQ:Ctr:=dD [] adi
theorem aaU:Contract Tryz.prog .none 115 LQ:=aD (V:=LP) aW (ak Yu aDk aH) Tryz.func115 bI fun _ _ _=>aK fun _ _=>bf<|bf<|aJ fun _=>fun h=>by intros;subst_vars;exact bn (aaT _) h
-- shared
def allI{α:Type}(p:Nat→α→Bool):Nat→List α→Bool
 |_,[]=>true
 |i,x::l=>p i x&&allI p (i+1) l
theorem atK{α:Type}{p:α→Bool}:∀(l:List α)(i:Nat),allI (fun _ x=>p x) i l=l.all p:=by
 intro l
 induction l with
 |nil=>intro i;rfl
 |cons x l ih=>intro i;simp only [allI,List.all_cons,ih]
theorem aup{α β:Type}{p:Nat→α→Bool}{b0 b1:β}:∀(l:List α)(i:Nat),qp (γ:=Unit) (fun i _ x=>cond (p i x) (.inl ()) (.inr b0)) (fun _=>b1) i () l=cond (allI p i l) b1 b0:=by
 intro l
 induction l with
 |nil=>intro i;rfl
 |cons x l ih=>
  intro i
  simp only [qp,allI]
  cases p i x with
  |true=>simp only [cond_true,Bool.true_and];exact ih _
  |false=>rfl
theorem ayz{α β:Type}{step:Int→Tre (Int ⊕ β)}{xs:List α}(p:Nat→α→Bool)(b0 b1:β)
  (hs:∀i x,xs[i]?=some x→(∀j y,j<i→xs[j]?=some y→p j y=true)→(step (i:Int)).run some=some (cond (p i x) (.inl ((i+1:Nat):Int)) (.inr b0)))
  (he:(step (xs.length:Int)).run some=some (.inr b1)):aO step 0=some (cond (allI p 0 xs) b1 b0):=by
 have:=kN (xs:=xs) (step:=step) (γ:=Unit) (fun i _=>(i:Int)) (fun i _ x=>cond (p i x) (.inl ()) (.inr b0)) (fun _=>b1) (fun i _=>∀j y,j<i→xs[j]?=some y→p j y=true)
  (by
   intro i acc x hx hI
   refine ⟨?_,?_⟩
   ·rw [hs i x hx hI]
    cases p i x<;>rfl
   ·intro a ha j y hj hy
    cases hp:p i x with
    |false=>rw [hp] at ha;cases ha
    |true=>
     by_cases hji:j=i
     ·subst hji;rw [hx] at hy;cases hy;exact hp
     ·exact hI j y (by omega) hy)
  (fun _ _=>he) xs 0 () rfl (Nat.zero_le _) (by intro j y h;omega)
 rw [←aup xs 0]
 exact this
theorem anC{α β:Type}{step:Int→Tre (Int ⊕ β)}{xs:List α}(p:α→Bool)(b0 b1:β)
  (hs:∀(i:Nat) x,xs[i]?=some x→(step (i:Int)).run some=some (cond (p x) (.inl ((i+1:Nat):Int)) (.inr b0)))
  (he:(step (xs.length:Int)).run some=some (.inr b1)):aO step 0=some (cond (xs.all p) b1 b0):=by
 rw [←atK xs 0]
 exact ayz (fun _ x=>p x) b0 b1 (fun i x hx _=>hs i x hx) he
theorem azu{α:Type}{p:α→Bool}(l:List α):(!decide (ny (fun x=>!p x) 0 l ≥ 0))=l.all p:=by
 rw [arP]
 induction l with
 |nil=>rfl
 |cons x l ih=>simp only [List.any_cons,List.all_cons,←ih,Bool.not_or,Bool.not_not]
def az2{α β:Type}(f:Nat→α→Option β):Nat→List α→List β
 |_,[]=>[]
 |i,x::l=>match f i x with
  |some y=>y::az2 f (i+1) l
  |none=>az2 f (i+1) l
theorem gQ{i:Nat}(h0:0<i)(h:i<4611686018427387904):aI .i64 ((i:Int)-1)=((i-1:Nat):Int):=by
 rw [dP (by omega) (by omega)];omega
theorem len2{e:List Int}(h:e.length=2):∃a b,e=[a,b]:=by
 match e,h with
 |[a,b],_=>exact ⟨a,b,rfl⟩
-- shared
abbrev TF3:=Int×Int×Unit
def ajS:List (Int×Int):=[(1,2),(1,3),(2,7),(3,11),(3,13),(4,19),(4,25),(4,31),(5,37),(5,41),(5,47),(5,55),(5,59),(5,61)]
def aN(f:TF3):Bool:=ajS.contains (f.1,f.2.1)
theorem UD{f:TF3}(h:aN f=true):(f.1,f.2.1)∈ajS:=by simpa [aN] using h
theorem nI{f:TF3}(h:aN f=true):1≤f.1∧f.1≤5:=by
 have h:=UD h
 have:∀x∈ajS,1≤x.1∧x.1≤5:=by decide
 exact this _ h
theorem aoT{f:TF3}(h:aN f=true):2≤f.2.1∧f.2.1≤61:=by
 have h:=UD h
 have:∀x∈ajS,2≤x.2∧x.2≤61:=by decide
 exact this _ h
theorem arj{F:TF3→Option Bool}(hd:∀f:TF3,inR f.1 1 5=false→F f=some false)
  (hb:∀f:TF3,(f.2.1<0∨64≤f.2.1)→F f=some false)
  (hk:((List.range' 1 5).all fun d=>(List.range 64).all fun p=>F ((d:Int),(p:Int),()) == some (aN ((d:Int),(p:Int),())))=true) (f:TF3):F f=some (aN f):=by
 have hno:∀g:TF3,(¬(1≤g.1∧g.1≤5)∨¬(0≤g.2.1∧g.2.1<64))→aN g=false:=by
  intro g hg
  cases h:aN g with
  |false=>rfl
  |true=>
   have h1:=nI h
   have h2:=aoT h
   omega
 obtain ⟨d,p,⟨⟩⟩:=f
 by_cases h1:1≤d∧d≤5
 ·by_cases h2:0≤p∧p<64
  ·obtain ⟨n,rfl⟩:=Int.eq_ofNat_of_zero_le (show 0≤d by omega)
   obtain ⟨m,rfl⟩:=Int.eq_ofNat_of_zero_le h2.1
   have h3:=List.all_eq_true.1 (List.all_eq_true.1 hk n (List.mem_range'_1.2 (by omega))) m (List.mem_range.2 (by omega))
   exact eq_of_beq h3
  ·rw [hb _ (by show p<0∨64≤p;omega),hno _ (.inr h2)]
 ·rw [hd _ (axB.2 (by show d<1∨5<d;omega)),hno _ (.inl h1)]
def ajg (p0:(Int×(Int×Unit))):Tre Bool:=
 .cond (inR p0.1 1 5)
  (.mat (tZ p0.2.1) fun r1=>
  .cond r1
   (.mat (oG p0.2.1) fun r2=>
   .ret (decide (r2=p0.1)))
   (.ret false))
  (.ret false)
def Dc (p0:(Int×(Int×Unit))):Option Bool:=(ajg p0).run some
-- more
theorem aaZ(f:Int×Int×Unit):Dc f=some (aN f):=by
 refine arj ?_ ?_ (by kernel_rfl) f
 ·intro f h
  unfold Dc ajg
  rw [Tre.aA,h];rfl
 ·intro f h
  unfold Dc ajg
  rw [Tre.aA]
  have:tZ f.2.1=some false:=by
   unfold tZ FN
   rw [Tre.aA]
   by_cases h1:f.2.1>0
   ·rw [decide_eq_true h1,cond_true,Tre.aA,decide_eq_false (by omega)];rfl
   ·rw [decide_eq_false h1];rfl
  rw [ah this]
  cases inR f.1 1 5<;>rfl
def aoo:Env:=⟨tau,[(86,zB),(115,LQ),(116,DR)],[]⟩
def ax3:FnI:=fnI Tryz.f83 []
def ag7 (_:(Int×(Int×Unit))):Bool→au:=fun r=>⟨(.imm true .bool r),[],[]⟩
theorem au4:∀(p0:(Int×(Int×Unit))),bJ aoo ax3 ⟨[(.imm true aL p0)],[]⟩=(ajg p0).run fun r=>some (ag7 p0 r):=fun _=>by kernel_rfl
def ax2 (av:List AV) (rs:List Root):Tre au:=
 aC av fun a0_ av0=>
 aM av0<|
 aM rs<|
 ay true aL a0_ fun d1=>
 .mat (Dc d1) fun r=>.ret (ag7 d1 r)
def XO:Ctr:=dD [] ax2
theorem aa0:Contract Tryz.prog .none 83 XO:=aD (V:=aoo) aW (ak yO ajP (ak aaU aC6 (ak JA aum aH))) Tryz.func83 bI fun _ _ _=>aK fun _ _=>bf<|bf<|aJ fun _=>fun h=>by intros;subst_vars;exact bn (au4 _) h
def afO (p0:(Int×(Int×Unit))):Tre Int:=
 .ite (0≤aI .u64 p0.1)<|
 let v1:=Ua .i64 1 (aI .u64 p0.1)
 .ret v1
def uX (p0:(Int×(Int×Unit))):Option Int:=(afO p0).run some
def ag9:Env:=⟨tau,[],[]⟩
def asX:FnI:=fnI Tryz.f87 []
def Zl (_:(Int×(Int×Unit))):Int→au:=fun r=>⟨(.i r),[],[]⟩
theorem ap1:∀(p0:(Int×(Int×Unit))),bJ ag9 asX ⟨[(.imm true aL p0)],[]⟩=(afO p0).run fun r=>some (Zl p0 r):=fun _=>by kernel_rfl
def asW (av:List AV) (rs:List Root):Tre au:=
 aC av fun a0_ av0=>
 aM av0<|
 aM rs<|
 ay true aL a0_ fun d1=>
 .mat (uX d1) fun r=>.ret (Zl d1 r)
def ES:Ctr:=dD [] asW
theorem HZ:Contract Tryz.prog .none 87 ES:=aD (V:=ag9) aW aH Tryz.func87 bI fun _ _ _=>aK fun _ _=>bf<|bf<|aJ fun _=>fun h=>by intros;subst_vars;exact bn (ap1 _) h
-- shared
abbrev TN6:=TF3×Int×Int×List (List Int)×List (List Int)×Unit
def e0(e:List Int):Int:=e.getD 0 0
def e1(e:List Int):Int:=e.getD 1 0
def edgeOk(N:Int)(es:List (List Int))(i:Nat)(e:List Int):Bool:=
 decide (e.length=2)&&((inR (e0 e) 0 (N-1)&&(inR (e1 e) 0 (N-1)&&decide (e0 e<e1 e)))&&(decide (i=0)||decide (e0 (es.getD (i-1) [])≤e0 e)))
theorem aul{N:Int}{es:List (List Int)}{i:Nat}{e:List Int}(h:edgeOk N es i e=true):e.length=2:=by
 unfold edgeOk at h
 rw [Bool.and_eq_true] at h
 exact of_decide_eq_true h.1
def aEX(es:List (List Int))(node:Int):List Int:=az2 (fun i e=>if e1 e=node then some (i:Int) else none) 0 es
def aFq(n:TN6)(node:Int):Int:=if node=0 then n.2.2.1 else ((aEX n.2.2.2.1 node).length:Int)
def Ut(f:TF3):Int:=2 ^ f.1.toNat-1
theorem ajk{f:TF3}(h:aN f=true):aI .i64 (Ua .i64 1 (aI .u64 f.1)-1)=Ut f:=by
 obtain ⟨h1,h2⟩:=nI h
 obtain ⟨n,hn⟩:=Int.eq_ofNat_of_zero_le (show 0≤f.1 by omega)
 unfold Ut
 rw [hn]
 have:∀n:Nat,n<6→aI .i64 (Ua .i64 1 (aI .u64 (n:Int))-1)=2 ^ (n:Int).toNat-1:=by decide
 exact this n (by omega)
theorem aAx{f:TF3}(h:aN f=true):aI .i64 (Ua .i64 1 f.1-1)=Ut f:=by
 obtain ⟨h1,h2⟩:=nI h
 have:=ajk h
 rw [afb (by omega) (by omega)] at this
 exact this
def oK(f:TF3)(c:List Int):Bool:=c.all fun x=>inR x 0 (Ut f)
def aCT(n:TN6)(i:Nat)(c:List Int):Bool:=decide ((c.length:Int)=aFq n (e0 (n.2.2.2.1.getD i [])))&&oK n.1 c
structure aEa(n:TN6):Prop where
 field:aN n.1=true
 nodes:2≤n.2.1∧n.2.1≤8
 mess:1≤n.2.2.1∧n.2.2.1≤3
 len:n.2.2.2.1.length≤14
 clen:n.2.2.2.2.1.length=n.2.2.2.1.length
 edges:∀i e,n.2.2.2.1[i]?=some e→edgeOk n.2.1 n.2.2.2.1 i e=true
 coefs:∀i c,n.2.2.2.2.1[i]?=some c→aCT n i c=true
theorem aEa.two{n:TN6}(h:aEa n){i:Nat}{e:List Int}(he:n.2.2.2.1[i]?=some e):∃a b,e=[a,b]∧0≤a∧a<b∧b≤n.2.1-1:=by
 have:=h.edges i e he
 obtain ⟨a,b,rfl⟩:=len2 (aul this)
 simp only [edgeOk,Bool.and_eq_true,gV,decide_eq_true_eq,e0,e1,List.getD_cons_zero,List.getD_cons_succ] at this
 exact ⟨a,b,rfl,by omega,by omega,by omega⟩
theorem tF{α:Type}{l:List α}{i:Nat}{x d:α}(h:l[i]?=some x):l.getD i d=x:=by
 rw [List.getD_eq_getElem?_getD,h];rfl
def mG (aU:List Int) (dA:(Int×(Int×Unit))):Int→Tre (Int ⊕ (Bool ⊕ Unit)):=fun s2=>
 .cond (decide (s2<(aU.length:Int)))
  (.ite (0≤s2∧s2<(aU.length:Int))<|
  .mat (aU[s2.toNat]?) fun x1=>
  .mat (uX dA) fun r2=>
  let v3:=inR x1 0 (aI .i64 (r2-1))
  .cond (!v3)
   (.ret (.inr (.inl false)))
   (.ret (.inl (aI .i64 (s2+1)))))
  (.ret (.inr (.inr ())))
def Ns (p0:(Int×(Int×Unit))) (p1:List Int):Tre Bool:=
 .mat (aO (mG p1 p0) 0) fun l4=>
 .alt l4
  (fun a5=>
   .ret a5)
  (fun _=>
   .ret true)
def rV (p0:(Int×(Int×Unit))) (p1:List Int):Option Bool:=(Ns p0 p1).run some
-- more
theorem Rn{f:TF3}(hf:aN f=true):uX f=some (Ua .i64 1 (aI .u64 f.1)):=by
 have:=nI hf
 unfold uX afO
 rw [Tre.run_ite,if_pos (Oz _)]
 rfl
theorem Pd{f:TF3}(hf:aN f=true)(c:List Int)(hc:c.length<4611686018427387904):rV f c=some (oK f c):=by
 unfold rV Ns oK
 rw [Tre.kg,anC (xs:=c) (fun x=>inR x 0 (Ut f)) (.inl false) (.inr ())]
 ·generalize List.all _ _=z
  cases z<;>rfl
 ·intro i x hx
  have hi:i<c.length:=(List.getElem?_eq_some_iff.1 hx).1
  unfold mG
  rw [dX hx,ah (Rn hf),ajk hf]
  dsimp only
  rw [Tre.aA]
  cases inR x 0 (Ut f)
  ·rfl
  ·simp only [Bool.not_true,cond_false,cond_true,Tre.aF,aR (show i<4611686018427387904 by omega)]
 ·unfold mG
  exact dF
def yj:Env:=⟨tau,[(87,ES),(86,zB)],[]⟩
def Ta:Code:=(Tryz.f54.body).getD .skip
def wR (eH:Bool) (aU:List Int) (dA:(Int×(Int×Unit))):Int→St:=fun x=>bP [(1,(.imm eH .il aU)),(2,(.ptr (4,0) [])),(5,(.i x))] [((4,0),some ⟨true,aL,.own,dA⟩)]
def oh (_:Bool) (_:List Int) (_:(Int×(Int×Unit))):(Bool ⊕ Unit)→Ex×St
 |.inl x=>(.ret,bP [(4,(.imm true .bool x))] [])
 |.inr _=>(.exit 0,bP [(4,.dead)] [])
def JX (s:St):Tre (Ex×St):=
 aZ .il (s.tmps 1) fun z3 d2=>
 eF (4,0) [] (s.tmps 2)<|
 ay true .n (s.tmps 5) fun d6=>
 bg true aL (s.roots (4,0)) fun m8 d9=>
 asM .own m8<|
 .mat (aO (mG d2 d9) d6) fun x=>.alt x (fun a0=>.ret (oh z3 d2 d9 (.inl a0))) (fun b0=>.ret (oh z3 d2 d9 (.inr b0)))
def mQ:bq:=⟨([1,2,5],[(4,0)]),([4],[]),JX⟩
def FV:List (Nat×bq):=[(2,mQ)]
theorem Uj:∀(eH:Bool)(aU:List Int)(dA:(Int×(Int×Unit)))(x:Int)(c:St→Option (Ex×St)),den yj FV (aT Ta 0) (wR eH aU dA x) (bR mQ.kp mQ.kx c)=(mG aU dA x).run (bS (wR eH aU dA) (oh eH aU dA) c):=fun _ _ _ _ _=>by
 kernel_rfl
theorem YE:bQ yj FV (aT Ta 0) mQ:=fK fun s e s' h=>by
 generalize hs:restrict mQ.kp s=s1 at h
 have h:(JX s1).run some=some (e,s'):=h
 obtain ⟨z3,d2,e1,h_0⟩:=fA h
 obtain ⟨e4,h_1⟩:=Im h_0
 obtain ⟨d6,e5,h_2⟩:=cu h_1
 obtain ⟨m8,d9,e7,h_3⟩:=fQ h_2
 obtain ⟨rfl,h_4⟩:=rO h_3
 obtain ⟨y,hy,hz⟩:=gN h_4
 refine ⟨_,_,wR z3 d2 d9,oh z3 d2 d9,mG d2 d9,d6,y,?_,hy,?_,Uj z3 d2 d9⟩
 ·subst hs;exact aP (T:=[(1,(.imm z3 .il d2)),(2,(.ptr (4,0) [])),(5,(.i d6))]) (U:=[((4,0),some ⟨true,aL,.own,d9⟩)]) rfl rfl ⟨e1,e4,e5,trivial⟩ ⟨e7,trivial⟩
 ·rcases y with x|x<;>exact Option.some.inj hz
def aiS:FnI:=fnI Tryz.f54 FV
def Mt (_:Bool) (_:(Int×(Int×Unit))) (_:List Int):Bool→au:=fun r=>⟨(.imm true .bool r),[],[]⟩
theorem af4:∀(zp0:Bool)(p0:(Int×(Int×Unit)))(p1:List Int),bJ yj aiS ⟨[(.imm true aL p0),(.imm zp0 .il p1)],[]⟩=(Ns p0 p1).run fun r=>some (Mt zp0 p0 p1 r):=fun _ _ _=>by kernel_rfl
def aiR (av:List AV) (rs:List Root):Tre au:=
 aC av fun a0_ av0=>
 aC av0 fun a1_ av1=>
 aM av1<|
 aM rs<|
 ay true aL a0_ fun d1=>
 aZ .il a1_ fun z3 d2=>
 .mat (rV d1 d2) fun r=>.ret (Mt z3 d1 d2 r)
def FW:Ctr:=dD [] aiR
theorem Pe:Contract Tryz.prog .none 54 FW:=aD (V:=yj) aW (ak HZ avI (ak yO ajP aH)) Tryz.func54 (bF (n:=1) fun k hk=>by
 match k,hk with
 |0,_=>exact bH (id:=2) YE) fun _ _ _=>aK fun _ _=>aK fun _ _=>bf<|bf<|aJ fun _=>bY fun _ _=>fun h=>by intros;subst_vars;exact bn (af4 _ _ _) h
def af5 (p0:(Int×(Int×Unit))) (p1:List Int):Tre Bool:=
 let v1:=inR (p1.length:Int) 1 5
 .cond v1
  (.mat (rV p0 p1) fun r2=>
  .ret r2)
  (.ret false)
def Mv (p0:(Int×(Int×Unit))) (p1:List Int):Option Bool:=(af5 p0 p1).run some
def aho:Env:=⟨tau,[(86,zB),(54,FW)],[]⟩
def atj:FnI:=fnI Tryz.f84 []
def Zv (_:Bool) (_:(Int×(Int×Unit))) (_:List Int):Bool→au:=fun r=>⟨(.imm true .bool r),[],[]⟩
theorem aqj:∀(zp0:Bool)(p0:(Int×(Int×Unit)))(p1:List Int),bJ aho atj ⟨[(.imm true aL p0),(.imm zp0 .il p1)],[]⟩=(af5 p0 p1).run fun r=>some (Zv zp0 p0 p1 r):=fun _ _ _=>by kernel_rfl
def ati (av:List AV) (rs:List Root):Tre au:=
 aC av fun a0_ av0=>
 aC av0 fun a1_ av1=>
 aM av1<|
 aM rs<|
 ay true aL a0_ fun d1=>
 aZ .il a1_ fun z3 d2=>
 .mat (Mv d1 d2) fun r=>.ret (Zv z3 d1 d2 r)
def ahp:Ctr:=dD [] ati
theorem aqk:Contract Tryz.prog .none 84 ahp:=aD (V:=aho) aW (ak yO ajP (ak Pe aCi aH)) Tryz.func84 bI fun _ _ _=>aK fun _ _=>aK fun _ _=>bf<|bf<|aJ fun _=>bY fun _ _=>fun h=>by intros;subst_vars;exact bn (aqj _ _ _) h
def aln (p0:List Int):Tre (List Int):=
 .ite ((0+p0.length)*8≤bM∧1≤8)<|
 .ret ([]++p0)
def alo (p0:List Int):Option (List Int):=(aln p0).run some
theorem am6(p0 y:List Int)(h:fT p0=some y):alo p0=some y:=by
 obtain ⟨hl,rfl⟩:=acN h
 have hb:(0+p0.length)*8≤bM∧1≤8:=by unfold bM;omega
 unfold alo aln
 rw [Tre.run_ite,if_pos hb]
 rfl
def alp:Env:=⟨tau,[],[]⟩
def au1:FnI:=fnI Tryz.f108 []
def adl (_:Bool) (_:List Int):(List Int)→au:=fun r=>⟨(.ref (1,0) []),[],[⟨false,.il,.own,r⟩]⟩
theorem asN:∀(zp0:Bool)(p0:List Int),bJ alp au1 ⟨[(.imm zp0 .il p0)],[]⟩=(aln p0).run fun r=>some (adl zp0 p0 r):=fun _ _=>by kernel_rfl
def au0 (av:List AV) (rs:List Root):Tre au:=
 aC av fun a0_ av0=>
 aM av0<|
 aM rs<|
 aZ .il a0_ fun z2 d1=>
 .mat (fT d1) fun r=>.ret (adl z2 d1 r)
def Db:Ctr:=dD [] au0
theorem EP:Contract Tryz.prog .none 108 Db:=aD (V:=alp) aW aH Tryz.func108 bI fun _ _ _=>aK fun _ _=>bf<|bf<|bY fun _ _=>fun h=>by intros;subst_vars;exact qE (asN _ _) (am6 _) h
def alB (p0:Int) (p1:Int):Tre Int:=
 .ite (0≤aI .u64 p1)<|
 let v1:=aaA .i64 p0 (aI .u64 p1)
 .ret (ah7 .i64 v1 1)
def alC (p0:Int) (p1:Int):Option Int:=(alB p0 p1).run some
def aqS(x j:Int):Option Int:=ajx (inR j 0 9223372036854775807) (ah7 .i64 (aaA .i64 x j) 1)
theorem ang(p0 p1 y:Int)(h:aqS p0 p1=some y):alC p0 p1=some y:=by
 obtain ⟨hl,rfl⟩:=rY h
 rw [gV] at hl
 unfold alC alB
 rw [afb hl.1 (by omega),Tre.run_ite,if_pos hl.1]
 rfl
theorem aqT{x:Int}{j:Nat}(h:j≤1048576):aqS x (j:Int)=some (ah7 .i64 (aaA .i64 x j) 1):=jJ (by rw [gV];omega)
def alD:Env:=⟨tau,[],[]⟩
def au6:FnI:=fnI Tryz.f114 []
def ady (_:Int) (_:Int):Int→au:=fun r=>⟨(.i r),[],[]⟩
theorem asY:∀(p0 p1:Int),bJ alD au6 ⟨[(.i p0),(.i p1)],[]⟩=(alB p0 p1).run fun r=>some (ady p0 p1 r):=fun _ _=>by kernel_rfl
def au5 (av:List AV) (rs:List Root):Tre au:=
 aC av fun a0_ av0=>
 aC av0 fun a1_ av1=>
 aM av1<|
 aM rs<|
 ay true .n a0_ fun d1=>
 ay true .n a1_ fun d2=>
 .mat (aqS d1 d2) fun r=>.ret (ady d1 d2 r)
def alE:Ctr:=dD [] au5
theorem asZ:Contract Tryz.prog .none 114 alE:=aD (V:=alD) aW aH Tryz.func114 bI fun _ _ _=>aK fun _ _=>aK fun _ _=>bf<|bf<|aJ fun _=>aJ fun _=>fun h=>by intros;subst_vars;exact qE (asY _ _) (ang _ _) h
def lI (dS:Int) (fE:List Int):(Int×Int)→Tre ((Int×Int) ⊕ Int):=fun s8=>
 .cond (decide (s8.2<(fE.length:Int)))
  (.cond (decide (s8.1<0))
   (.ite (0≤s8.2∧s8.2<(fE.length:Int))<|
   .mat (fE[s8.2.toNat]?) fun x2=>
   .mat (aqS x2 dS) fun r3=>
   .cond (decide (r3=1))
    (.ret (.inl (s8.2,aI .i64 (s8.2+1))))
    (.ret (.inl (s8.1,aI .i64 (s8.2+1)))))
   (.ret (.inr s8.1)))
  (.ret (.inr s8.1))
def iM (Dp:Int) (Dq:Int):(Int×(List Int))→Tre ((Int×(List Int)) ⊕ (List Int)):=fun s16=>
 .cond (decide (s16.1<(s16.2.length:Int)))
  (.ite (0≤s16.1∧s16.1<(s16.2.length:Int))<|
  .mat (s16.2[s16.1.toNat]?) fun x7=>
  .mat (aqS x7 Dp) fun r8=>
  .cond (decide (r8=1))
   (.ite (0≤s16.1∧s16.1<(s16.2.length:Int))<|
   .mat (s16.2[s16.1.toNat]?) fun x9=>
   .ite (0≤s16.1∧s16.1<(s16.2.length:Int))<|
   .mat (s16.2[s16.1.toNat]?) fun _=>
   let v11:=s16.2.set s16.1.toNat (jw .i64 x9 Dq)
   .ret (.inl (aI .i64 (s16.1+1),v11)))
   (.ret (.inl (aI .i64 (s16.1+1),s16.2))))
  (.ret (.inr s16.2))
def qg (Dy:Int) (Dz:Int):(Int×(List Int))→Tre ((Int×(List Int)) ⊕ (List Int)):=fun s21=>
 .cond (decide (s21.1<(s21.2.length:Int)))
  (.ite (0≤s21.1∧s21.1<(s21.2.length:Int))<|
  .mat (s21.2[s21.1.toNat]?) fun x13=>
  .mat (aqS x13 Dy) fun r14=>
  .cond (decide (r14=1))
   (.ite (0≤s21.1∧s21.1<(s21.2.length:Int))<|
   .mat (s21.2[s21.1.toNat]?) fun x15=>
   .ite (0≤s21.1∧s21.1<(s21.2.length:Int))<|
   .mat (s21.2[s21.1.toNat]?) fun _=>
   let v17:=s21.2.set s21.1.toNat (jw .i64 x15 Dz)
   .ret (.inl (aI .i64 (s21.1+1),v17)))
   (.ret (.inl (aI .i64 (s21.1+1),s21.2))))
  (.ret (.inr s21.2))
def gD (bL:Int):(Int×(List Int)×(List Int))→Tre ((Int×(List Int)×(List Int)) ⊕ (List Int)):=fun s4=>
 .cond (decide (s4.1<bL))
  (.mat (aO (lI s4.1 s4.2.1) (-1,0)) fun l4=>
  .cond (decide (l4<0))
   (.ret (.inl (aI .i64 (s4.1+1),s4.2.1,s4.2.2)))
   (.ite (0≤l4∧l4<(s4.2.1.length:Int))<|
   .mat (s4.2.1[l4.toNat]?) fun x5=>
   .ite (0≤l4∧l4<(s4.2.1.length:Int))<|
   .mat (s4.2.1[l4.toNat]?) fun _=>
   .mat (aO (iM s4.1 x5) (0,s4.2.1.set l4.toNat 0)) fun l12=>
   .mat (aO (qg s4.1 x5) (0,s4.2.2)) fun l18=>
   .ite ((l18.length+1)*8≤bM∧1≤8)<|
   .ret (.inl (aI .i64 (s4.1+1),l12,l18++([x5])))))
  (.ret (.inr s4.2.2))
def Ro (p0:Int) (p1:List Int):Tre (List Int):=
 .mat (fT p1) fun r1=>
 .mat (aO (gD p0) (0,r1,[])) fun l19=>
 .ret l19
def WL (p0:Int) (p1:List Int):Option (List Int):=(Ro p0 p1).run some
def axe (m:Int) (xs:List Int):Option (List Int):=ajx (inR m 0 62&&FJ m.toNat xs) (Tm xs)
theorem adz(c:Nat)(hc:c≤62)(xs:List Int)(hl:xs.length≤1048576):aO (lI (c:Int) xs) (-1,0)=some (ny (fun x=>BH x (c:Int)) 0 xs):=by
 have:=kN (xs:=xs) (step:=lI (c:Int) xs) (fun i acc=>(acc,(i:Int))) (fun i acc x=>cond (decide (acc<0)) (.inl (cond (BH x (c:Int)) (i:Int) acc)) (.inr acc)) id (fun _ _=>True) (by
  intro i acc x hx _
  refine ⟨?_,fun _ _=>trivial⟩
  have hi:i<xs.length:=(List.getElem?_eq_some_iff.1 hx).1
  unfold lI
  rw [Tre.aA,show decide (((acc,(i:Int)):Int×Int).2<(xs.length:Int))=true from by simpa using hi,cond_true,Tre.aA]
  by_cases h0:acc<0
  ·rw [show decide (acc<0)=true from by simpa using h0]
   rw [cond_true,dN hx,ah (aqT (by omega):aqS x (c:Int)=_),Tre.aA]
   show cond (BH x (c:Int)) _ _=_
   cases BH x (c:Int)
   ·rw [cond_false,Tre.aF,aR (by omega)];rfl
   ·rw [cond_true,Tre.aF,aR (by omega)];rfl
  ·rw [show decide (acc<0)=false from by simpa using h0]
   rfl)
  (by
  intro acc _
  unfold lI
  exact dF) xs 0 (-1) rfl (Nat.zero_le _) trivial
 rw [show (((-1:Int),(0:Int)):Int×Int)=(-1,((0:Nat):Int)) from rfl,this]
 have key:∀(l:List Int)(i:Nat),qp (β:=Int) (fun (i:Nat) (acc:Int) x=>cond (decide (acc<0)) (.inl (cond (BH x (c:Int)) (i:Int) acc)) (.inr acc)) id i (-1) l=ny (fun x=>BH x (c:Int)) i l:=by
  intro l
  induction l with
  |nil=>intro i;rfl
  |cons x l ih=>
   intro i
   simp only [qp,ny,show decide ((-1:Int)<0)=true from rfl,cond_true]
   cases BH x (c:Int)
   ·exact ih (i+1)
   ·have hn:decide ((i:Int)<0)=false:=by simp
    cases l with
    |nil=>rfl
    |cons y l=>simp only [qp,cond_true,hn,cond_false]
 rw [key]
theorem Ma(c r:Nat)(hc:c≤62)(hr:r<2 ^ 62)(l:List Nat)(hb:∀n∈l,n<2 ^ 62)(hl:l.length≤1048576):aO (iM (c:Int) (r:Int)) (0,up l)=some (up (l.map (iD c r))):=by
 have:=aoh (step:=iM (c:Int) (r:Int)) (fun _ x=>iD c r x) l id (by
  intro i x hx
  have hi:i<l.length:=(List.getElem?_eq_some_iff.1 hx).1
  have hx2:=atE (ajd (g:=fun _ x=>iD c r x) (i:=i) hx)
  rw [if_neg (Nat.lt_irrefl i)] at hx2
  have hlen:(up (zx (fun _ x=>iD c r x) i l)).length=l.length:=by rw [wS,acY]
  have hxb:=hb x (List.mem_of_getElem? hx)
  rw [←asz hx]
  unfold iM
  rw [dX hx2,ah (aqT (by omega):aqS (x:Int) (c:Int)=_),Tre.aA]
  show cond (BH (x:Int) (c:Int)) _ _=_
  rw [Ib (by omega) (by omega)]
  have he:iD c r x=cond (x.testBit c) (x^^^r) x:=rfl
  rw [he]
  cases x.testBit c
  ·rw [cond_false,Tre.aF,aR (by omega)]
   refine congrArg (fun z=>some (Sum.inl (((i+1:Nat):Int),z))) ?_
   rw [cond_false,←Xp]
   exact (List.ext_getElem? fun j=>by
    rw [List.getElem?_set]
    by_cases hj:i=j
    ·subst hj;rw [if_pos rfl,hx2,if_pos (List.getElem?_eq_some_iff.1 hx2).1]
    ·rw [if_neg hj]).symm
  ·rw [cond_true,dN hx2,dN hx2,Tre.aF,aR (by omega),nT (by omega) (by omega),Int.toNat_natCast,cond_true,←Xp])
  (by
  unfold iM
  have:((zx (fun _ x=>iD c r x) l.length l).length:Int)=(l.length:Int):=by rw [acY]
  show (Tre.cond (decide ((l.length:Int)<((up (zx (fun _ x=>iD c r x) l.length l)).length:Int))) _ _).run some=_
  rw [wS,acY]
  exact dF)
 rw [this,apC]
 rfl
theorem Yx:qg=iM:=rfl
theorem Mc(m:Nat)(hm:m≤62)(orig:List Nat):∀(n c:Nat)(E:List (Nat×Nat))(R:List Nat),c+n=m→Inv orig c E R→E.length≤c→R.length≤1048576→(∀x∈R,x<2 ^ m)→(∀a∈E,a.2<2 ^ m) →
  ∃E':List Nat,aO (gD (m:Int)) ((c:Int),up R,up (E.map (·.2)))=some (up E')∧rM orig E':=by
 intro n
 have hp:=auT hm
 induction n with
 |zero=>
  intro c E R hc hI _ _ hR _
  have:c=m:=hc
  subst this
  refine ⟨E.map (·.2),fO ?_,hI.done fun x hx=>aeh (hR x hx) (hI.low x hx)⟩
  unfold gD
  exact dF
 |succ n ih=>
  intro c E R hc hI hE hl hR hEb
  have hcm:c<m:=by omega
  have hstep:∀E2 R2,Inv orig (c+1) E2 R2→E2.length≤c+1→R2.length≤1048576→(∀x∈R2,x<2 ^ m)→(∀a∈E2,a.2<2 ^ m)→(gD (m:Int) ((c:Int),up R,up (E.map (·.2)))).run some=some (.inl (((c+1:Nat):Int),up R2,up (E2.map (·.2)))) →
    ∃E':List Nat,aO (gD (m:Int)) ((c:Int),up R,up (E.map (·.2)))=some (up E')∧rM orig E':=by
   intro E2 R2 h1 h2 h3 h4 h5 h6
   rw [mM h6]
   exact ih (c+1) E2 R2 (by omega) h1 h2 h3 h4 h5
  have hfind:=adz c (by omega) (up R) (by rw [wS];exact hl)
  have hw:aI .i64 ((c:Int)+1)=((c+1:Nat):Int):=aR (by omega)
  have hdec:decide ((c:Int)<(m:Int))=true:=by simpa using hcm
  rcases yK (fun x=>BH x (c:Int)) (up R) 0 with ⟨h1,h2⟩|⟨k,x,h1,h2,h3⟩
  ·refine hstep E R (hI.skip fun x hx=>?_) (by omega) hl hR hEb ?_
   ·have:=h2 (x:Int) (List.mem_map.2 ⟨x,hx,rfl⟩)
    have hxb:=hR x hx
    rwa [Ib (by omega) (by omega)] at this
   ·unfold gD
    rw [Tre.aA]
    show cond (decide ((c:Int)<(m:Int))) _ _=_
    rw [hdec,cond_true,ah (hfind.trans (by rw [h1])),Tre.aA]
    simp only [show decide ((-1:Int)<0)=true from rfl,cond_true,Tre.aF,hw]
  ·obtain ⟨r,hr1,rfl⟩:∃r:Nat,R[k]?=some r∧(r:Int)=x:=by
    simp only [up,List.getElem?_map,Option.map_eq_some_iff] at h1
    exact h1
   have hrm:r∈R:=List.mem_of_getElem? hr1
   have hrb:=hR r hrm
   rw [Ib (by omega) (by omega)] at h2
   rw [Nat.zero_add] at h3
   have hk:k<R.length:=(List.getElem?_eq_some_iff.1 hr1).1
   have hE2:((E.map fun a=>(a.1,iD c r a.2))++[(c,r)]).map (·.2)=(E.map (·.2)).map (iD c r)++[r]:=by simp [List.map_map,Function.comp_def]
   refine hstep (E.map (fun a=>(a.1,iD c r a.2))++[(c,r)]) ((R.set k 0).map (iD c r)) (hI.step hrm h2 ?_ ?_) (by simp;omega) (by simpa using hl) ?_ ?_ ?_
   ·intro y hy
    obtain ⟨x,hx,rfl⟩:=List.mem_map.1 hy
    rcases List.mem_or_eq_of_mem_set hx with hx|rfl
    ·exact .inr ⟨x,hx,rfl⟩
    ·exact .inl (by unfold iD;simp)
   ·intro x hx
    obtain ⟨j,hj⟩:=List.getElem?_of_mem hx
    by_cases hjk:k=j
    ·subst hjk;rw [hr1] at hj;exact .inl (Option.some.inj hj).symm
    ·refine .inr (List.mem_map.2 ⟨x,List.mem_of_getElem? (i:=j) ?_,rfl⟩)
     rw [List.getElem?_set,if_neg hjk,hj]
   ·intro y hy
    obtain ⟨x,hx,rfl⟩:=List.mem_map.1 hy
    refine abK hrb ?_
    rcases List.mem_or_eq_of_mem_set hx with hx|rfl
    ·exact hR x hx
    ·exact Nat.two_pow_pos m
   ·intro a ha
    rcases List.mem_append.1 ha with ha|ha
    ·obtain ⟨b,hb,rfl⟩:=List.mem_map.1 ha
     exact abK hrb (hEb b hb)
    ·simp only [List.mem_singleton] at ha;subst ha;exact hrb
   ·have e1:=Ma c r (by omega) (by omega) (R.set k 0) (fun x hx=>by
     rcases List.mem_or_eq_of_mem_set hx with hx|rfl
     ·have:=hR x hx;omega
     ·decide) (by simpa using hl)
    have e2:aO (qg (c:Int) (r:Int)) (0,up (E.map (·.2)))=some (up ((E.map (·.2)).map (iD c r))):=by
     rw [Yx]
     exact Ma c r (by omega) (by omega) (E.map (·.2)) (fun x hx=>by
     obtain ⟨a,ha,rfl⟩:=List.mem_map.1 hx
     have:=hEb a ha
     omega) (by simp;omega)
    unfold gD
    rw [Tre.aA]
    show cond (decide ((c:Int)<(m:Int))) _ _=_
    rw [hdec,cond_true,ah (hfind.trans (by rw [h3])),Tre.aA]
    rw [show decide ((k:Int)<0)=false from by simp,cond_false,dN h1,dN h1,Int.toNat_natCast]
    rw [show (up R).set k 0=up (R.set k 0) from Xp R k 0,ah e1,ah e2]
    rw [Tre.run_ite,if_pos (by unfold bM;rw [wS];simp;omega),Tre.aF,hw,hE2]
    simp [up]
theorem adC(p0:Int)(p1 y:List Int)(h:axe p0 p1=some y):WL p0 p1=some y:=by
 obtain ⟨hl,rfl⟩:=rY h
 rw [Bool.and_eq_true,gV] at hl
 obtain ⟨m,rfl⟩:∃m:Nat,p0=(m:Int):=⟨p0.toNat,by omega⟩
 obtain ⟨ns,rfl,hlen,hb,hn⟩:=afA hl.2
 rw [Int.toNat_natCast] at hb
 obtain ⟨E,h1,h2⟩:=Mc m (by omega) ns m 0 [] ns (by omega) (Inv.start ns) (Nat.zero_le _) hlen hb (fun a ha=>by cases ha)
 unfold WL Ro
 have e1:fT (up ns)=some (up ns):=FH (by rw [wS];exact hlen)
 have h1:aO (gD (m:Int)) (0,up ns,[])=some (up E):=h1
 rw [ah e1,ah h1]
 unfold Tm
 rw [hn,auk h2]
 rfl
def iA:Env:=⟨tau,[(108,Db),(114,alE)],[]⟩
def kH:Code:=(Tryz.f80.body).getD .skip
def JI (dH:Int) (dS:Int) (fE:List Int) (mI:List Int):(Int×Int)→St:=fun x=>bP [(0,(.i dH)),(5,(.ref (7,0) [])),(6,(.ref (8,0) [])),(7,(.i dS)),(8,(.i x.1)),(9,(.i x.2))] [((7,0),some ⟨false,.il,.own,fE⟩),((8,0),some ⟨false,.il,.own,mI⟩)]
def GA (dH:Int) (dS:Int) (fE:List Int) (mI:List Int):Int→Ex×St:=fun x=>(.exit 2,bP [(0,(.i dH)),(5,(.ref (7,0) [])),(6,(.ref (8,0) [])),(7,(.i dS)),(8,(.i x))] [((7,0),some ⟨false,.il,.own,fE⟩),((8,0),some ⟨false,.il,.own,mI⟩)])
def adB (s:St):Tre (Ex×St):=
 ay true .n (s.tmps 0) fun d2=>
 dI (7,0) [] (s.tmps 5)<|
 dI (8,0) [] (s.tmps 6)<|
 ay true .n (s.tmps 7) fun d6=>
 ay true .n (s.tmps 8) fun d8=>
 ay true .n (s.tmps 9) fun d10=>
 bg false .il (s.roots (7,0)) fun m12 d13=>
 asM .own m12<|
 bg false .il (s.roots (8,0)) fun m15 d16=>
 asM .own m15<|
 .mat (aO (lI d6 d13) (d8,d10)) fun x=>.ret (GA d2 d6 d13 d16 x)
def ug:bq:=⟨([0,5,6,7,8,9],[(7,0),(8,0)]),([0,5,6,7,8],[(7,0),(8,0)]),adB⟩
def Gx (Qd:Int) (Dp:Int) (Dq:Int) (Qe:List Int):(Int×(List Int))→St:=fun x=>bP [(0,(.i Qd)),(5,(.ref (7,0) [])),(6,(.ref (8,0) [])),(7,(.i Dp)),(10,(.i Dq)),(11,(.i x.1))] [((7,0),some ⟨false,.il,.own,x.2⟩),((8,0),some ⟨false,.il,.own,Qe⟩)]
def ET (Qd:Int) (Dp:Int) (Dq:Int) (Qe:List Int):(List Int)→Ex×St:=fun x=>(.exit 4,bP [(0,(.i Qd)),(5,(.ref (7,0) [])),(6,(.ref (8,0) [])),(7,(.i Dp)),(10,(.i Dq))] [((7,0),some ⟨false,.il,.own,x⟩),((8,0),some ⟨false,.il,.own,Qe⟩)])
def aa2 (s:St):Tre (Ex×St):=
 ay true .n (s.tmps 0) fun d2=>
 dI (7,0) [] (s.tmps 5)<|
 dI (8,0) [] (s.tmps 6)<|
 ay true .n (s.tmps 7) fun d6=>
 ay true .n (s.tmps 10) fun d8=>
 ay true .n (s.tmps 11) fun d10=>
 bg false .il (s.roots (7,0)) fun m12 d13=>
 asM .own m12<|
 bg false .il (s.roots (8,0)) fun m15 d16=>
 asM .own m15<|
 .mat (aO (iM d6 d8) (d10,d13)) fun x=>.ret (ET d2 d6 d8 d16 x)
def qX:bq:=⟨([0,5,6,7,10,11],[(7,0),(8,0)]),([0,5,6,7,10],[(7,0),(8,0)]),aa2⟩
def Gy (Qi:Int) (Dy:Int) (Dz:Int) (Qj:List Int):(Int×(List Int))→St:=fun x=>bP [(0,(.i Qi)),(5,(.ref (7,0) [])),(6,(.ref (8,0) [])),(7,(.i Dy)),(10,(.i Dz)),(12,(.i x.1))] [((7,0),some ⟨false,.il,.own,Qj⟩),((8,0),some ⟨false,.il,.own,x.2⟩)]
def EU (Qi:Int) (Dy:Int) (Dz:Int) (Qj:List Int):(List Int)→Ex×St:=fun x=>(.exit 6,bP [(0,(.i Qi)),(5,(.ref (7,0) [])),(6,(.ref (8,0) [])),(7,(.i Dy)),(10,(.i Dz))] [((7,0),some ⟨false,.il,.own,Qj⟩),((8,0),some ⟨false,.il,.own,x⟩)])
def aa3 (s:St):Tre (Ex×St):=
 ay true .n (s.tmps 0) fun d2=>
 dI (7,0) [] (s.tmps 5)<|
 dI (8,0) [] (s.tmps 6)<|
 ay true .n (s.tmps 7) fun d6=>
 ay true .n (s.tmps 10) fun d8=>
 ay true .n (s.tmps 12) fun d10=>
 bg false .il (s.roots (7,0)) fun m12 d13=>
 asM .own m12<|
 bg false .il (s.roots (8,0)) fun m15 d16=>
 asM .own m15<|
 .mat (aO (qg d6 d8) (d10,d16)) fun x=>.ret (EU d2 d6 d8 d13 x)
def qY:bq:=⟨([0,5,6,7,10,12],[(7,0),(8,0)]),([0,5,6,7,10],[(7,0),(8,0)]),aa3⟩
def JH (bL:Int):(Int×(List Int)×(List Int))→St:=fun x=>bP [(0,(.i bL)),(5,(.ref (7,0) [])),(6,(.ref (8,0) [])),(7,(.i x.1))] [((7,0),some ⟨false,.il,.own,x.2.1⟩),((8,0),some ⟨false,.il,.own,x.2.2⟩)]
def Gz (_:Int):(List Int)→Ex×St:=fun x=>(.exit 0,bP [(6,(.ref (8,0) []))] [((8,0),some ⟨false,.il,.own,x⟩)])
def adA (s:St):Tre (Ex×St):=
 ay true .n (s.tmps 0) fun d2=>
 dI (7,0) [] (s.tmps 5)<|
 dI (8,0) [] (s.tmps 6)<|
 ay true .n (s.tmps 7) fun d6=>
 bg false .il (s.roots (7,0)) fun m8 d9=>
 asM .own m8<|
 bg false .il (s.roots (8,0)) fun m11 d12=>
 asM .own m11<|
 .mat (aO (gD d2) (d6,d9,d12)) fun x=>.ret (Gz d2 x)
def uf:bq:=⟨([0,5,6,7],[(7,0),(8,0)]),([6],[(8,0)]),adA⟩
def jh:List (Nat×bq):=[(8,ug),(16,qX),(21,qY),(4,uf)]
theorem WO:∀(dH dS:Int)(fE mI:List Int)(x:(Int×Int))(c:St→Option (Ex×St)),den iA jh (aT kH 1) (JI dH dS fE mI x) (bR ug.kp ug.kx c)=(lI dS fE x).run (bS (JI dH dS fE mI) (GA dH dS fE mI) c):=fun _ _ _ _ _ _=>by
 kernel_rfl
theorem aa5:bQ iA jh (aT kH 1) ug:=bX fun _ _ _=>aJ fun _=>fI<|fI<|aJ fun _=>aJ fun _=>aJ fun _=>bV fun _ _=>tM<|bV fun _ _=>tM<|fun h _ e14 _ e11 e9 e7 e5 e4 e3 e1=>bO (WO _ _ _ _) h (by subst_vars;exact aP rfl rfl ⟨e1,e3,e4,e5,e7,e9,trivial⟩ ⟨e11,e14,trivial⟩)
theorem Ud:∀(Qd Dp Dq:Int)(Qe:List Int)(x:(Int×(List Int)))(c:St→Option (Ex×St)),den iA jh (aT kH 2) (Gx Qd Dp Dq Qe x) (bR qX.kp qX.kx c)=(iM Dp Dq x).run (bS (Gx Qd Dp Dq Qe) (ET Qd Dp Dq Qe) c):=fun _ _ _ _ _ _=>by
 kernel_rfl
theorem Yw:bQ iA jh (aT kH 2) qX:=bX fun _ _ _=>aJ fun _=>fI<|fI<|aJ fun _=>aJ fun _=>aJ fun _=>bV fun _ _=>tM<|bV fun _ _=>tM<|fun h _ e14 _ e11 e9 e7 e5 e4 e3 e1=>bO (Ud _ _ _ _) h (by subst_vars;exact aP rfl rfl ⟨e1,e3,e4,e5,e7,e9,trivial⟩ ⟨e11,e14,trivial⟩)
theorem Ue:∀(Qi Dy Dz:Int)(Qj:List Int)(x:(Int×(List Int)))(c:St→Option (Ex×St)),den iA jh (aT kH 3) (Gy Qi Dy Dz Qj x) (bR qY.kp qY.kx c)=(qg Dy Dz x).run (bS (Gy Qi Dy Dz Qj) (EU Qi Dy Dz Qj) c):=fun _ _ _ _ _ _=>by
 kernel_rfl
theorem Yy:bQ iA jh (aT kH 3) qY:=bX fun _ _ _=>aJ fun _=>fI<|fI<|aJ fun _=>aJ fun _=>aJ fun _=>bV fun _ _=>tM<|bV fun _ _=>tM<|fun h _ e14 _ e11 e9 e7 e5 e4 e3 e1=>bO (Ue _ _ _ _) h (by subst_vars;exact aP rfl rfl ⟨e1,e3,e4,e5,e7,e9,trivial⟩ ⟨e11,e14,trivial⟩)
theorem WM:∀(bL:Int)(x:(Int×(List Int)×(List Int)))(c:St→Option (Ex×St)),den iA jh (aT kH 0) (JH bL x) (bR uf.kp uf.kx c)=(gD bL x).run (bS (JH bL) (Gz bL) c):=fun _ _ _=>by
 kernel_rfl
theorem aa4:bQ iA jh (aT kH 0) uf:=bX fun _ _ _=>aJ fun _=>fI<|fI<|aJ fun _=>bV fun _ _=>tM<|bV fun _ _=>tM<|fun h _ e10 _ e7 e5 e4 e3 e1=>bO (WM _) h (by subst_vars;exact aP rfl rfl ⟨e1,e3,e4,e5,trivial⟩ ⟨e7,e10,trivial⟩)
def alG:FnI:=fnI Tryz.f80 jh
def O1 (_:Bool) (_:Int) (_:List Int):(List Int)→au:=fun r=>⟨(.ref (1,0) []),[],[⟨false,.il,.own,r⟩]⟩
theorem aiE:∀(zp0:Bool)(p0:Int)(p1:List Int),bJ iA alG ⟨[(.i p0),(.imm zp0 .il p1)],[]⟩=(Ro p0 p1).run fun r=>some (O1 zp0 p0 p1 r):=fun _ _ _=>by kernel_rfl
def alF (av:List AV) (rs:List Root):Tre au:=
 aC av fun a0_ av0=>
 aC av0 fun a1_ av1=>
 aM av1<|
 aM rs<|
 ay true .n a0_ fun d1=>
 aZ .il a1_ fun z3 d2=>
 .mat (axe d1 d2) fun r=>.ret (O1 z3 d1 d2 r)
def JG:Ctr:=dD [] alF
theorem SI:Contract Tryz.prog .none 80 JG:=aD (V:=iA) aW (ak EP aeD (ak asZ aC5 aH)) Tryz.func80 (bF (n:=4) fun k hk=>by
 match k,hk with
 |0,_=>exact bH (id:=4) aa4
 |1,_=>exact bH (id:=8) aa5
 |2,_=>exact bH (id:=16) Yw
 |3,_=>exact bH (id:=21) Yy) fun _ _ _=>aK fun _ _=>aK fun _ _=>bf<|bf<|aJ fun _=>bY fun _ _=>fun h=>by intros;subst_vars;exact qE (aiE _ _ _) (adC _ _) h
def afQ (p0:Int) (p1:List Int):Tre Int:=
 .mat (axe p0 p1) fun r1=>
 .ret (r1.length:Int)
def aha (p0:Int) (p1:List Int):Option Int:=(afQ p0 p1).run some
def aok (m:Int) (xs:List Int):Option Int:=ajx (inR m 0 62&&FJ m.toNat xs) ((Tm xs).length:Int)
theorem alJ(p0:Int)(p1:List Int)(y:Int)(h:aok p0 p1=some y):aha p0 p1=some y:=by
 obtain ⟨hl,rfl⟩:=rY h
 unfold aha afQ
 rw [ah (show axe p0 p1=some _ from jJ hl)]
 rfl
def ahb:Env:=⟨tau,[(80,JG)],[]⟩
def as1:FnI:=fnI Tryz.f85 []
def Zn (_:Bool) (_:Int) (_:List Int):Int→au:=fun r=>⟨(.i r),[],[]⟩
theorem ap2:∀(zp0:Bool)(p0:Int)(p1:List Int),bJ ahb as1 ⟨[(.i p0),(.imm zp0 .il p1)],[]⟩=(afQ p0 p1).run fun r=>some (Zn zp0 p0 p1 r):=fun _ _ _=>by kernel_rfl
def as0 (av:List AV) (rs:List Root):Tre au:=
 aC av fun a0_ av0=>
 aC av0 fun a1_ av1=>
 aM av1<|
 aM rs<|
 ay true .n a0_ fun d1=>
 aZ .il a1_ fun z3 d2=>
 .mat (aok d1 d2) fun r=>.ret (Zn z3 d1 d2 r)
def WT:Ctr:=dD [] as0
theorem adD:Contract Tryz.prog .none 85 WT:=aD (V:=ahb) aW (ak SI aCo aH) Tryz.func85 bI fun _ _ _=>aK fun _ _=>aK fun _ _=>bf<|bf<|aJ fun _=>bY fun _ _=>fun h=>by intros;subst_vars;exact qE (ap2 _ _ _) (alJ _ _) h
def RB (p0:aG):Tre Bool:=
 .mat (Dc p0.1) fun r1=>
 .cond r1
  (.mat (Mv p0.1 p0.2.1) fun r2=>
  .cond r2
   (.mat (aok p0.1.1 p0.2.1) fun r3=>
   .cond (decide (r3=(p0.2.1.length:Int)))
    (let v4:=inR p0.2.2.1 1 (p0.2.1.length:Int)
    .ret v4)
    (.ret false))
   (.ret false))
  (.ret false)
def u7 (p0:aG):Option Bool:=(RB p0).run some
def Xh:Env:=⟨tau,[(83,XO),(84,ahp),(85,WT),(86,zB)],[]⟩
def al2:FnI:=fnI Tryz.f53 []
def Pt (zp0:Bool) (p0:aG):Bool→au:=fun r=>⟨(.imm true .bool r),[⟨true,aX,(.imm zp0),p0⟩],[]⟩
theorem aiY:∀(zp0:Bool)(p0:aG),bJ Xh al2 ⟨[(.ptr (0,0) [])],[⟨true,aX,(.imm zp0),p0⟩]⟩=(RB p0).run fun r=>some (Pt zp0 p0 r):=fun _ _=>by kernel_rfl
def al1 (av:List AV) (rs:List Root):Tre au:=
 aC av fun a0_ av0=>
 aM av0<|
 aC rs fun r0_ rs0=>
 aM rs0<|
 eF (0,0) [] a0_<|
 wV true aX r0_ fun m1 d2=>
 lu m1 fun z3=>
 .mat (u7 d2) fun r=>.ret (Pt z3 d2 r)
def J5:Ctr:=dD [] al1
theorem Tg:Contract Tryz.prog .none 53 J5:=aD (V:=Xh) aW (ak aa0 aza (ak aqk aEO (ak adD aCp (ak yO ajP aH)))) Tryz.func53 bI fun _ _ _=>aK fun _ _=>bf<|aK fun _ _=>bf<|jD<|tRt fun _ _=>BA fun _=>fun h=>by intros;subst_vars;exact bn (aiY _ _) h
def nC (cZ:bB):Int→Tre (Int ⊕ (Bool ⊕ Unit)):=fun s4=>
 .cond (decide (s4<(cZ.2.1.length:Int)))
  (.ite (0≤s4∧s4<(cZ.2.1.length:Int))<|
  .mat (cZ.2.1[s4.toNat]?) fun x1=>
  .ite (0≤aI .u64 cZ.1)<|
  let v2:=Ua .i64 1 (aI .u64 cZ.1)
  let v3:=inR x1 0 (aI .i64 (v2-1))
  .cond (!v3)
   (.ret (.inr (.inl false)))
   (.ret (.inl (aI .i64 (s4+1)))))
  (.ret (.inr (.inr ())))
def Rp (p0:bB):Tre Bool:=
 .cond (!(inR p0.1 1 10))
  (.ret false)
  (.cond (decide ((p0.2.1.length:Int)>10))
   (.ret false)
   (.mat (aO (nC p0) 0) fun l4=>
   .alt l4
    (fun a5=>
     .ret a5)
    (fun _=>
     .ret true)))
def Bc (p0:bB):Option Bool:=(Rp p0).run some
def Bd:Env:=⟨tau,[(86,zB)],[]⟩
def WQ:Code:=(Tryz.f104.body).getD .skip
def yQ (kK:Bool) (cZ:bB):Int→St:=fun x=>bP [(0,(.ptr (0,0) [])),(3,(.i x))] [((0,0),some ⟨true,bZ,(.imm kK),cZ⟩)]
def pE (kK:Bool) (cZ:bB):(Bool ⊕ Unit)→Ex×St
 |.inl x=>(.ret,bP [(2,(.imm true .bool x))] [((0,0),some ⟨true,bZ,(.imm kK),cZ⟩)])
 |.inr _=>(.exit 0,bP [(2,.dead)] [((0,0),some ⟨true,bZ,(.imm kK),cZ⟩)])
def Md (s:St):Tre (Ex×St):=
 eF (0,0) [] (s.tmps 0)<|
 ay true .n (s.tmps 3) fun d3=>
 bg true bZ (s.roots (0,0)) fun m5 d6=>
 lu m5 fun z7=>
 .mat (aO (nC d6) d3) fun x=>.alt x (fun a0=>.ret (pE z7 d6 (.inl a0))) (fun b0=>.ret (pE z7 d6 (.inr b0)))
def nZ:bq:=⟨([0,3],[(0,0)]),([2],[(0,0)]),Md⟩
def JJ:List (Nat×bq):=[(4,nZ)]
theorem WS:∀(kK:Bool)(cZ:bB)(x:Int)(c:St→Option (Ex×St)),den Bd JJ (aT WQ 0) (yQ kK cZ x) (bR nZ.kp nZ.kx c)=(nC cZ x).run (bS (yQ kK cZ) (pE kK cZ) c):=fun _ _ _ _=>by
 kernel_rfl
theorem aa6:bQ Bd JJ (aT WQ 0) nZ:=fK fun s e s' h=>by
 generalize hs:restrict nZ.kp s=s1 at h
 have h:(Md s1).run some=some (e,s'):=h
 obtain ⟨e1,h_0⟩:=Im h
 obtain ⟨d3,e2,h_1⟩:=cu h_0
 obtain ⟨m5,d6,e4,h_2⟩:=fQ h_1
 obtain ⟨z7,rfl,h_3⟩:=KM h_2
 obtain ⟨y,hy,hz⟩:=gN h_3
 refine ⟨_,_,yQ z7 d6,pE z7 d6,nC d6,d3,y,?_,hy,?_,WS z7 d6⟩
 ·subst hs;exact aP (T:=[(0,(.ptr (0,0) [])),(3,(.i d3))]) (U:=[((0,0),some ⟨true,bZ,(.imm z7),d6⟩)]) rfl rfl ⟨e1,e2,trivial⟩ ⟨e4,trivial⟩
 ·rcases y with x|x<;>exact Option.some.inj hz
def alI:FnI:=fnI Tryz.f104 JJ
def O4 (zp0:Bool) (p0:bB):Bool→au:=fun r=>⟨(.imm true .bool r),[⟨true,bZ,(.imm zp0),p0⟩],[]⟩
theorem aiF:∀(zp0:Bool)(p0:bB),bJ Bd alI ⟨[(.ptr (0,0) [])],[⟨true,bZ,(.imm zp0),p0⟩]⟩=(Rp p0).run fun r=>some (O4 zp0 p0 r):=fun _ _=>by kernel_rfl
def alH (av:List AV) (rs:List Root):Tre au:=
 aC av fun a0_ av0=>
 aM av0<|
 aC rs fun r0_ rs0=>
 aM rs0<|
 eF (0,0) [] a0_<|
 wV true bZ r0_ fun m1 d2=>
 lu m1 fun z3=>
 .mat (Bc d2) fun r=>.ret (O4 z3 d2 r)
def WR:Ctr:=dD [] alH
theorem aiH:Contract Tryz.prog .none 104 WR:=aD (V:=Bd) aW (ak yO ajP aH) Tryz.func104 (bF (n:=1) fun k hk=>by
 match k,hk with
 |0,_=>exact bH (id:=4) aa6) fun _ _ _=>aK fun _ _=>bf<|aK fun _ _=>bf<|jD<|tRt fun _ _=>BA fun _=>fun h=>by intros;subst_vars;exact bn (aiF _ _) h
def vP (bL:List Int) (cZ:List Int):Int→Tre (Int ⊕ (Bool ⊕ Unit)):=fun s4=>
 .cond (decide (s4<(bL.length:Int)))
  (.ite (0≤s4∧s4<(bL.length:Int))<|
  .mat (bL[s4.toNat]?) fun x1=>
  .ite (0≤s4∧s4<(cZ.length:Int))<|
  .mat (cZ[s4.toNat]?) fun x2=>
  .cond (!decide (x1=x2))
   (.ret (.inr (.inl false)))
   (.ret (.inl (aI .i64 (s4+1)))))
  (.ret (.inr (.inr ())))
def afJ (p0:List Int) (p1:List Int):Tre Bool:=
 .cond (!decide ((p0.length:Int)=(p1.length:Int)))
  (.ret false)
  (.mat (aO (vP p0 p1) 0) fun l3=>
  .alt l3
   (fun a4=>
    .ret a4)
   (fun _=>
    .ret true))
def ag1 (p0:List Int) (p1:List Int):Option Bool:=(afJ p0 p1).run some
def ahu(a b:List Int):Option Bool:=ajx (decide (a.length≤1048576)&&decide (b.length≤1048576)) (decide (a=b))
def sameAt(b:List Int)(i:Nat)(x:Int):Option (Bool ⊕ Unit):=match b[i]? with
 |some y=>cond (decide (x=y)) none (some (.inl false))
 |none=>none
theorem ajU(b:List Int):∀(l:List Int)(i:Nat),l.length=(b.drop i).length→Ga (β:=Bool ⊕ Unit) (sameAt b) (.inr ()) i l=cond (decide (l=b.drop i)) (.inr ()) (.inl false):=by
 intro l
 induction l with
 |nil=>
  intro i h
  have:b.drop i=[]:=List.eq_nil_of_length_eq_zero h.symm
  rw [this];rfl
 |cons x l ih=>
  intro i h
  have hi:i<b.length:=by rw [List.length_drop,List.length_cons] at h;omega
  have hd:b.drop i=b[i]::b.drop (i+1):=List.drop_eq_getElem_cons hi
  have hlen:l.length=(b.drop (i+1)).length:=by rw [hd,List.length_cons,List.length_cons] at h;omega
  have hih:=ih (i+1) hlen
  simp only [Ga,sameAt]
  rw [List.getElem?_eq_getElem hi]
  simp only
  by_cases hx:x=b[i]
  ·rw [decide_eq_true hx,cond_true,hih]
   by_cases hl:l=b.drop (i+1)
   ·rw [decide_eq_true hl,decide_eq_true (show x::l=b.drop i by rw [hd,hx,hl])]
   ·rw [decide_eq_false hl,decide_eq_false (fun h2=>hl (by rw [hd] at h2;exact (List.cons.inj h2).2))]
  ·rw [decide_eq_false hx,cond_false,decide_eq_false (fun h2=>hx (by rw [hd] at h2;exact (List.cons.inj h2).1))]
   rfl
theorem alq(p0 p1:List Int)(y:Bool)(h:ahu p0 p1=some y):ag1 p0 p1=some y:=by
 obtain ⟨hok,rfl⟩:=rY h
 simp only [Bool.and_eq_true,decide_eq_true_eq] at hok
 unfold ag1 afJ
 rw [Tre.aA]
 by_cases hl:p0.length=p1.length
 ·rw [decide_eq_true (show (p0.length:Int)=(p1.length:Int) by omega),Bool.not_true,cond_false,Tre.kg,vC (xs:=p0) (sameAt p1) (.inr ()),ajU p1 p0 0 (by simpa using hl)]
  ·rw [List.drop_zero]
   cases decide (p0=p1)<;>rfl
  ·intro i x hx
   have hi:i<p0.length:=(List.getElem?_eq_some_iff.1 hx).1
   have hy:p1[i]?=some p1[i]:=List.getElem?_eq_getElem (by omega)
   unfold vP
   unfold sameAt
   rw [dX hx,dN hy,Tre.aA,hy]
   dsimp only
   cases decide (x=p1[i])
   ·rfl
   ·simp only [Bool.not_true,cond_true,cond_false,Tre.aF,aR (show i<4611686018427387904 by omega)]
  ·unfold vP
   exact dF
 ·rw [decide_eq_false (show ¬(p0.length:Int)=(p1.length:Int) by omega),Bool.not_false,cond_true,Tre.aF,decide_eq_false (fun h=>hl (by rw [h]))]
def LW:Env:=⟨tau,[],[]⟩
def ag2:Code:=(Tryz.f105.body).getD .skip
def FP (kK:Bool) (F9:Bool) (bL:List Int) (cZ:List Int):Int→St:=fun x=>bP [(0,(.imm kK .il bL)),(1,(.imm F9 .il cZ)),(5,(.i x))] []
def vQ (_:Bool) (_:Bool) (_:List Int) (_:List Int):(Bool ⊕ Unit)→Ex×St
 |.inl x=>(.ret,bP [(4,(.imm true .bool x))] [])
 |.inr _=>(.exit 0,bP [(4,.dead)] [])
def Wy (s:St):Tre (Ex×St):=
 aZ .il (s.tmps 0) fun z3 d2=>
 aZ .il (s.tmps 1) fun z6 d5=>
 ay true .n (s.tmps 5) fun d8=>
 .mat (aO (vP d2 d5) d8) fun x=>.alt x (fun a0=>.ret (vQ z3 z6 d2 d5 (.inl a0))) (fun b0=>.ret (vQ z3 z6 d2 d5 (.inr b0)))
def uV:bq:=⟨([0,1,5],[]),([4],[]),Wy⟩
def Wx:List (Nat×bq):=[(4,uV)]
theorem adn:∀(kK F9:Bool)(bL cZ:List Int)(x:Int)(c:St→Option (Ex×St)),den LW Wx (aT ag2 0) (FP kK F9 bL cZ x) (bR uV.kp uV.kx c)=(vP bL cZ x).run (bS (FP kK F9 bL cZ) (vQ kK F9 bL cZ) c):=fun _ _ _ _ _ _=>by
 kernel_rfl
theorem aiz:bQ LW Wx (aT ag2 0) uV:=fK fun s e s' h=>by
 generalize hs:restrict uV.kp s=s1 at h
 have h:(Wy s1).run some=some (e,s'):=h
 obtain ⟨z3,d2,e1,h_0⟩:=fA h
 obtain ⟨z6,d5,e4,h_1⟩:=fA h_0
 obtain ⟨d8,e7,h_2⟩:=cu h_1
 obtain ⟨y,hy,hz⟩:=gN h_2
 refine ⟨_,_,FP z3 z6 d2 d5,vQ z3 z6 d2 d5,vP d2 d5,d8,y,?_,hy,?_,adn z3 z6 d2 d5⟩
 ·subst hs;exact aP (T:=[(0,(.imm z3 .il d2)),(1,(.imm z6 .il d5)),(5,(.i d8))]) (U:=[]) rfl rfl ⟨e1,e4,e7,trivial⟩ trivial
 ·rcases y with x|x<;>exact Option.some.inj hz
def asP:FnI:=fnI Tryz.f105 Wx
def Zh (_:Bool) (_:Bool) (_:List Int) (_:List Int):Bool→au:=fun r=>⟨(.imm true .bool r),[],[]⟩
theorem apU:∀(zp0 zp1:Bool)(p0 p1:List Int),bJ LW asP ⟨[(.imm zp0 .il p0),(.imm zp1 .il p1)],[]⟩=(afJ p0 p1).run fun r=>some (Zh zp0 zp1 p0 p1 r):=fun _ _ _ _=>by kernel_rfl
def asO (av:List AV) (rs:List Root):Tre au:=
 aC av fun a0_ av0=>
 aC av0 fun a1_ av1=>
 aM av1<|
 aM rs<|
 aZ .il a0_ fun z2 d1=>
 aZ .il a1_ fun z4 d3=>
 .mat (ahu d1 d3) fun r=>.ret (Zh z2 z4 d1 d3 r)
def ag3:Ctr:=dD [] asO
theorem apV:Contract Tryz.prog .none 105 ag3:=aD (V:=LW) aW aH Tryz.func105 (bF (n:=1) fun k hk=>by
 match k,hk with
 |0,_=>exact bH (id:=4) aiz) fun _ _ _=>aK fun _ _=>aK fun _ _=>bf<|bf<|bY fun _ _=>bY fun _ _=>fun h=>by intros;subst_vars;exact qE (apU _ _ _ _) (alq _ _) h
def aky (p0:Int) (p1:Int) (p2:Int):Tre Bool:=
 .cond (decide (p0 ≥ p1))
  (.ret (decide (p0≤p2)))
  (.ret false)
def akz (p0:Int) (p1:Int) (p2:Int):Option Bool:=(aky p0 p1 p2).run some
theorem amN(n a b:Int):akz n a b=some (inR n a b):=by
 unfold akz aky inR
 by_cases h:a≤n
 ·simp [Tre.aA,Tre.aF,h]
 ·simp [Tre.aA,Tre.aF,h]
def akA:Env:=⟨tau,[],[]⟩
def auF:FnI:=fnI Tryz.f92 []
def acr (_:Int) (_:Int) (_:Int):Bool→au:=fun r=>⟨(.imm true .bool r),[],[]⟩
theorem arN:∀(p0 p1 p2:Int),bJ akA auF ⟨[(.i p0),(.i p1),(.i p2)],[]⟩=(aky p0 p1 p2).run fun r=>some (acr p0 p1 p2 r):=fun _ _ _=>by kernel_rfl
def auE (av:List AV) (rs:List Root):Tre au:=
 aC av fun a0_ av0=>
 aC av0 fun a1_ av1=>
 aC av1 fun a2_ av2=>
 aM av2<|
 aM rs<|
 ay true .n a0_ fun d1=>
 ay true .n a1_ fun d2=>
 ay true .n a2_ fun d3=>
 .ret (acr d1 d2 d3 (inR d1 d2 d3))
def yJ:Ctr:=dD [] auE
theorem zk:Contract Tryz.prog .none 92 yJ:=aD (V:=akA) aW aH Tryz.func92 bI fun _ _ _=>aK fun _ _=>aK fun _ _=>aK fun _ _=>bf<|bf<|aJ fun _=>aJ fun _=>aJ fun _=>fun h=>by intros;subst_vars;exact tC (arN _ _ _) (amN _ _ _) h
def Qz (p0:bB) (p1:Int):Tre Bool:=
 .ite (0≤p0.1)<|
 let v1:=aI .i64 ((Ua .i64 1 p0.1)-1)
 .ret (inR p1 0 v1)
def Am (p0:bB) (p1:Int):Option Bool:=(Qz p0 p1).run some
def Vk:Env:=⟨tau,[(92,yJ)],[]⟩
def aj9:FnI:=fnI Tryz.f132 []
def Oi (_:Bool) (_:bB) (_:Int):Bool→au:=fun r=>⟨(.imm true .bool r),[],[]⟩
theorem ahR:∀(zp0:Bool)(p0:bB)(p1:Int),bJ Vk aj9 ⟨[(.imm zp0 bZ p0),(.i p1)],[]⟩=(Qz p0 p1).run fun r=>some (Oi zp0 p0 p1 r):=fun _ _ _=>by kernel_rfl
def aj8 (av:List AV) (rs:List Root):Tre au:=
 aC av fun a0_ av0=>
 aC av0 fun a1_ av1=>
 aM av1<|
 aM rs<|
 aZ bZ a0_ fun z2 d1=>
 ay true .n a1_ fun d3=>
 .mat (Am d1 d3) fun r=>.ret (Oi z2 d1 d3 r)
def Vl:Ctr:=dD [] aj8
theorem ahT:Contract Tryz.prog .none 132 Vl:=aD (V:=Vk) aW (ak zk anR aH) Tryz.func132 bI fun _ _ _=>aK fun _ _=>aK fun _ _=>bf<|bf<|bY fun _ _=>aJ fun _=>fun h=>by intros;subst_vars;exact bn (ahR _ _ _) h
def uN (p0:Int) (p1:bB):Tre Bool:=
 .mat (Am p1 p0) fun r1=>
 .ret (!r1)
def lT (p0:Int) (p1:bB):Option Bool:=(uN p0 p1).run some
def Au:Env:=⟨tau,[(132,Vl)],[]⟩
def QE:FnI:=fnI Tryz.f131 []
def xq (zp0:Bool) (_:Int) (p1:bB):Bool→au:=fun r=>⟨(.imm true .bool r),[⟨true,bZ,(.imm zp0),p1⟩],[]⟩
theorem Om:∀(zp0:Bool)(p0:Int)(p1:bB),bJ Au QE ⟨[(.i p0),(.ptr (0,0) [])],[⟨true,bZ,(.imm zp0),p1⟩]⟩=(uN p0 p1).run fun r=>some (xq zp0 p0 p1 r):=fun _ _ _=>by kernel_rfl
def QD (av:List AV) (rs:List Root):Tre au:=
 aC av fun a0_ av0=>
 aC av0 fun a1_ av1=>
 aM av1<|
 aC rs fun r0_ rs0=>
 aM rs0<|
 ay true .n a0_ fun d1=>
 eF (0,0) [] a1_<|
 wV true bZ r0_ fun m2 d3=>
 lu m2 fun z4=>
 .mat (lT d1 d3) fun r=>.ret (xq z4 d1 d3 r)
def Av:Ctr:=dD [] QD
theorem Oq:Contract Tryz.prog .none 131 Av:=aD (V:=Au) aW (ak ahT aDj aH) Tryz.func131 bI fun _ _ _=>aK fun _ _=>aK fun _ _=>bf<|aK fun _ _=>bf<|aJ fun _=>jD<|tRt fun _ _=>BA fun _=>fun h=>by intros;subst_vars;exact bn (Om _ _ _) h
end Go.Proofs.YtihiobjhogpmdaaGreat
