/- Part 3 of the proof of FnErased. -/
import Derived.WalkKit
import Derived.ProofKit
import Derived.OpenShut
import Derived.ShutString
import Derived.ChangeOld
import Derived.Below
import Derived.SizedLaws
import Derived.Carry
import Derived.IntWalk
import Derived.Deep.RegionLaw
import Derived.KernelRfl
import Derived.Sort.OwnSortedInts
import Derived.Lib.SlicesCompact
import Derived.Test.YtmilokkchghpjaaProg
import Derived.Test.YtmilokkchghpjaaEr2
set_option maxRecDepth 100000
noncomputable section
namespace Go.Abs
def cmb(rs:RF)(fs:List Root):RF:=fun q=>if q.1=1 then fs[q.2]? else rs q
structure Moved(w:World)(C0:Ctx)(rs0:RF)(C:Ctx)(rs:RF)(fs:List Root)(ks:List Kill):Prop where
 Z:C.Z=C0.Z
 S:C.S=C0.S
 pars:∀i,C.θ (par i)=C0.θ (par i)∧C.ρ (par i)=C0.ρ (par i)
 mem:Mem w C (cmb rs fs)
 leaf:∀b vs,b.eD=true→hit ks b=false→(∀q∈b.names,q.1≠1)→AVC w C0 rs0 b vs→AVC w C (cmb rs fs) b vs
 foot:∀q y b,cmb rs fs q=some y→C.F q b→∃q0 y0,rs0 q0=some y0∧C0.F q0 b
 ptr1:∀q y,cmb rs fs q=some y→∀p∈aT y.k y.d,p.1≠1
 rs1:∀i,rs (par i)=rs0 (par i)
structure Qx(w:World)(C:Ctx)(rs:RF)(fs:List Root)(ks:List Kill)(C':Ctx)(rs':RF)(fs':List Root)(ks':List Kill):Prop where
 leaf:∀b vs,b.eD=true→hit ks' b=false→(∀q∈b.names,q.1=1→q.2<fs.length)→AVC w C (cmb rs fs) b vs→AVC w C' (cmb rs' fs') b vs
 grow:fs.length≤fs'.length
 ks:∀b,hit ks' b=false→hit ks b=false
section
variable {P : Program} {V : Env} {w : World} {C0 C : Ctx} {rs0 rs : RF} {fs : List Root} {ks : List Kill}
variable {R' : Type} {r : R'}
theorem Qx.refl:Qx w C rs fs ks C rs fs ks:=⟨fun _ _ _ _ _ h=>h,Nat.le_refl _,fun _ h=>h⟩
theorem Qx.trans{C1 C2:Ctx}{rs1 rs2:RF}{fs1 fs2:List Root}{k1 k2:List Kill}(h:Qx w C rs fs ks C1 rs1 fs1 k1)(k:Qx w C1 rs1 fs1 k1 C2 rs2 fs2 k2):Qx w C rs fs ks C2 rs2 fs2 k2:=
 ⟨fun b vs hl hh hn hb=>k.leaf b vs hl hh (fun q hq h1=>Nat.lt_of_lt_of_le (hn q hq h1) h.grow) (h.leaf b vs hl (k.ks b hh) hn hb),Nat.le_trans h.grow k.grow,fun b hb=>h.ks b (k.ks b hb)⟩
theorem alI(xs:List Kill):∀(a:AV),∀q∈(AV.kills xs a).names,q∈a.names:=by
 intro a
 induction a with
 |pair a b iha ihb=>
  intro q hq
  rw [lD] at hq
  simp only [AV.names,List.mem_append] at hq ⊢
  exact hq.imp (iha q) (ihb q)
 |tcons a b iha ihb=>
  intro q hq
  rw [lV] at hq
  simp only [AV.names,List.mem_append] at hq ⊢
  exact hq.imp (iha q) (ihb q)
 |_=>
  intro q hq
  rw [gu _ _ rfl] at hq
  cases hh:hit xs _ with
  |true=>rw [hh] at hq;cases hq
  |false=>rw [hh] at hq;exact hq
theorem AVC.ap8{w':World}{C C':Ctx}{rs rs':RF}{xs:List Kill}{N:au→Prop}
  (h:∀a vs,a.eD=true→hit xs a=false→(∀q∈a.names,N q)→AVC w C rs a vs→AVC w' C' rs' a vs):∀(a:AV)(vs:List Value),(∀q∈a.names,N q)→AVC w C rs a vs→AVC w' C' rs' (AV.kills xs a) vs:=by
 intro a
 induction a with
 |pair a b iha ihb=>
  intro vs hn hv
  obtain ⟨v1,v2,rfl,h1,h2⟩:=hv
  rw [lD]
  exact ⟨v1,v2,rfl,iha _ (fun q hq=>hn q (by simp [AV.names,hq])) h1,ihb _ (fun q hq=>hn q (by simp [AV.names,hq])) h2⟩
 |tcons a b=>intro vs _ hv;exact hv.elim
 |_=>
  intro vs hn hv
  rw [gu _ _ rfl]
  cases hx:hit xs _ with
  |true=>trivial
  |false=>exact h _ _ rfl hx hn hv
theorem Iy.ap8{w':World}{C C':Ctx}{rs rs':RF}{xs:List Kill}{N:au→Prop}
  (h:∀a vs,a.eD=true→hit xs a=false→(∀q∈a.names,N q)→AVC w C rs a vs→AVC w' C' rs' a vs) {v:Value} {a:AV} (hn:∀q∈a.names,N q) (hv:Iy w C rs v a):Iy w' C' rs' v (AV.kills xs a):=by
 rcases hv with rfl|⟨ha,vs,rfl,hv⟩|⟨ha,hv,hc⟩
 ·left;exact sM xs
 ·right;left
  refine ⟨?_,vs,rfl,AVC.ap8 h _ _ hn hv⟩
  cases a with
  |pair a b=>rw [lD];rfl
  |imm z k d=>
   rw [gu _ _ rfl]
   have:hit xs (.imm z k d)=false:=by simp only [hit,List.any_eq_false];intro x _;cases x<;>simp [Kill.hits]
   rw [this];exact ha
  |_=>simp [AV.agg] at ha
 ·have hl:a.eD=true:=by cases a<;>first|rfl|exact hv.elim|(simp [AV.agg] at ha;done)
  rw [gu _ _ hl]
  cases hx:hit xs a with
  |true=>left;rfl
  |false=>right;right;exact ⟨ha,h _ _ hl hx hn hv,hc⟩
theorem ahx{rs rs':RF}{k:K}{av:AV}(h:∀q∈av.names,rs' q=rs q)(c:List k.den→Mask→U→List Kill→List au→Option R'):gK rs' k [] av c=gK rs k [] av c:=by
 cases av with
 |ref q p=>
  have:look rs' [] q=look rs [] q:=h q (by simp [AV.names])
  simp only [gK,this]
 |slc q p lo n=>
  have hq:look rs' [] q=look rs [] q:=h q (by simp [AV.names])
  cases p with
  |nil=>simp only [gK,hq]
  |cons=>rfl
 |_=>rfl
theorem atZ(M:Moved w C0 rs0 C rs fs ks){k:K}{av:AV}{v:Value}(hl:av.eD=true)(hloc:av.isLocal=true)(hh:hit ks av=false)(hn:∀q∈av.names,q.1≠1)(hv:AVC w C0 rs0 av [v])
  {c:List k.den→Mask→U→List Kill→List au→Option R'} (h:gK rs k [] av c=some r) :
  ∃xs m u' k1 g1 C',c xs m u' k1 g1=some r∧Moved w C0 rs0 C' (look rs u') (fs++[⟨false,.sl k,m,xs⟩]) (ks++k1)∧Qx w C rs fs ks C' (look rs u') (fs++[⟨false,.sl k,m,xs⟩]) (ks++k1) ∧
   AVC w C' (cmb (look rs u') (fs++[⟨false,.sl k,m,xs⟩])) (.ref (fr fs.length) []) [v]:=by
 have hcur:=M.leaf av [v] hl hh hn hv
 have hcmb:∀q,q.1≠1→cmb rs fs q=rs q:=fun q hq=>if_neg hq
 rw [←ahx (rs':=cmb rs fs) (fun q hq=>hcmb q (hn q hq)) c] at h
 have hlook0:look (cmb rs fs) []=cmb rs fs:=rfl
 obtain ⟨xs,m,u',k1,g1,C2,G,g,hown,Fd,henc,hkeys,hptr⟩:=Ci (rs:=cmb rs fs) (u:=[]) M.mem hcur h
 rw [hlook0] at Fd hptr
 have hnames:∀q∈av.names,2≤q.1:=by
  intro q hq
  cases av with
  |ref q0 p=>
   simp only [AV.names,List.mem_singleton] at hq
   subst hq
   obtain ⟨q1,q2⟩:=q
   match q1,hloc with
   |q1+2,_=>simp
  |slc q0 p lo n=>
   simp only [AV.names,List.mem_singleton] at hq
   subst hq
   obtain ⟨q1,q2⟩:=q
   match q1,hloc with
   |q1+2,_=>simp
  |nil=>cases hq
  |emp=>cases hq
  |_=>simp [AV.isLocal] at hloc
 have hu0:∀q:au,q.1<2→dD q u'=none:=fun q hq=>hkeys q (fun h=>by have:=hnames q h;omega)
 have hrs1:∀q,q.1≠1→look (cmb rs fs) u' q=look rs u' q:=by
  intro q hq
  unfold look
  cases dD q u' with
  |some z=>rfl
  |none=>exact hcmb q hq
 have hrs2:∀j,look (cmb rs fs) u' (fr j)=fs[j]?:=by
  intro j
  unfold look
  rw [hu0 (fr j) (by simp)]
  rfl
 let C':Ctx:=C2.with (fr fs.length) 0 [v] G
 have hcase:∀{q:au}{z:Root},cmb (look rs u') (fs++[⟨false,.sl k,m,xs⟩]) q=some z→(q=fr fs.length∧z=⟨false,.sl k,m,xs⟩)∨(q≠fr fs.length∧look (cmb rs fs) u' q=some z):=by
  rintro ⟨q1,q2⟩ z hz
  unfold cmb at hz
  by_cases h1:q1=1
  ·subst h1
   simp only [if_true] at hz
   by_cases h2:q2=fs.length
   ·subst h2
    simp only [List.getElem?_append_right (Nat.le_refl _),Nat.sub_self,List.getElem?_cons_zero,Option.some.injEq] at hz
    exact .inl ⟨rfl,hz.symm⟩
   ·have hlt:q2<fs.length:=by
     have:=(List.getElem?_eq_some_iff.1 hz).1
     simp at this;omega
    rw [List.getElem?_append_left hlt] at hz
    exact .inr ⟨by intro h;cases h;exact h2 rfl,by rw [show ((1,q2):au)=fr q2 from rfl,hrs2];exact hz⟩
  ·rw [if_neg h1] at hz
   exact .inr ⟨by intro h;cases h;exact h1 rfl,by rw [hrs1 _ h1];exact hz⟩
 have hptr1:∀q z,cmb (look rs u') (fs++[⟨false,.sl k,m,xs⟩]) q=some z→∀p∈aT z.k z.d,p.1≠1:=by
  intro q z hz p hp
  rcases hcase hz with ⟨rfl,rfl⟩|⟨_,h2⟩
  ·obtain ⟨q0,x,hx,hp0⟩:=hptr p hp
   exact M.ptr1 q0 x hx p hp0
  ·obtain ⟨z0,hz0,_,_,hp0⟩:=Fd.was q z h2
   exact M.ptr1 q z0 hz0 p (hp0 p hp)
 have hneF:∀{p:au},p.1≠1→p≠fr fs.length:=by rintro p hp rfl;exact hp rfl
 have hGfree:∀{b:Nat},G b→¬C.Z b∧¬C.S b∧b<w.heap.size:=fun hb=>Fd.free M.mem hb
 have hmem:Mem w C' (cmb (look rs u') (fs++[⟨false,.sl k,m,xs⟩])):=by
  refine ⟨?_,?_,?_,?_,?_⟩
  ·intro q z hz
   rcases hcase hz with ⟨rfl,rfl⟩|⟨h1,h2⟩
   ·refine ⟨G,?_,by rw [Ctx.jB];exact .refl _,fun h=>by cases h⟩
    rw [Ctx.with_ρ0]
    show Enc w C'.θ C2.Z C2.S (.sl k) m xs [v] G
    rw [Fd.Z,Fd.S]
    exact henc.mono (.refl _) (.refl _) (.refl _) (fun _ _=>rfl) (fun p hp=>by rw [Ctx.with_θ (hneF (hptr1 _ _ hz p hp)),Fd.θ])
   ·exact (Fd.mem.ok q z h2).keep rfl rfl (Ctx.with_θ h1) (Ctx.with_ρ h1) (Ctx.jy h1) (fun p hp=>Ctx.with_θ (hneF (hptr1 _ _ hz p hp))) (fun _ _=>rfl)
  ·intro q q' z z' hz hz' hne
   rcases hcase hz with ⟨rfl,rfl⟩|⟨h1,h2⟩<;>rcases hcase hz' with ⟨rfl,rfl⟩|⟨k1,k2⟩
   ·exact absurd rfl hne
   ·rw [Ctx.jB,Ctx.jy k1];exact Fd.gdisj q' z' k2
   ·rw [Ctx.jB,Ctx.jy h1];exact (Fd.gdisj q z h2).symm
   ·rw [Ctx.jy h1,Ctx.jy k1];exact Fd.mem.disj q q' z z' h2 k2 hne
  ·intro q z b hz hb
   show ¬C2.Z b∧¬C2.S b∧_
   rcases hcase hz with ⟨rfl,rfl⟩|⟨h1,h2⟩
   ·rw [Ctx.jB] at hb;rw [Fd.Z,Fd.S];exact hGfree hb
   ·rw [Ctx.jy h1] at hb;exact Fd.mem.apart q z b h2 hb
  ·exact Fd.mem.ro
  ·intro q z hz p hp z2 hz2
   rcases hcase hz2 with ⟨rfl,rfl⟩|⟨k1,k2⟩
   ·exact absurd rfl (hptr1 q z hz _ hp)
   ·rcases hcase hz with ⟨rfl,rfl⟩|⟨h1,h2⟩
    ·obtain ⟨q0,x,hx,hp0⟩:=hptr p hp
     obtain ⟨z0,hz0,_,hm0,_⟩:=Fd.was p z2 k2
     rw [hm0];exact M.mem.ptr q0 x hx p hp0 z0 hz0
    ·exact Fd.mem.ptr q z h2 p hp z2 k2
 have hstage:∀b vs,b.eD=true→hit k1 b=false→(∀q∈b.names,q.1=1→q.2<fs.length)→AVC w C (cmb rs fs) b vs→AVC w C' (cmb (look rs u') (fs++[⟨false,.sl k,m,xs⟩])) b vs:=by
  intro b vs hl hh hn hb
  refine lZ (C':=C') Fd.mem (fun q=>q=fr fs.length) rfl rfl (fun q hq=>Ctx.with_θ hq) (fun q hq=>Ctx.with_ρ hq) ?_ (fun _ _=>rfl) hl (fun q hq h=>by
   have:=hn q hq (by rw [h]);rw [h] at this;simp at this) (Fd.leaf b vs hl hh hb)
  intro q z hq hz
  rcases hcase hz with ⟨h,_⟩|⟨_,h2⟩
  ·exact absurd h hq
  ·exact h2
 refine ⟨xs,m,u',k1,g1,C',g,⟨Fd.Z.trans M.Z,Fd.S.trans M.S,fun i=>?_,hmem,?_,?_,hptr1,fun i=>?_⟩,⟨fun b vs hl hh hn hb=>?_,by simp,fun b hb=>?_⟩,?_⟩
 ·rw [Ctx.with_θ (by intro h;cases h),Ctx.with_ρ (by intro h;cases h),Fd.θ,Fd.ρ];exact M.pars i
 ·intro b vs hl hh hn hb
  rw [FM,Bool.or_eq_false_iff] at hh
  exact hstage b vs hl hh.2 (fun q hq h1=>absurd h1 (hn q hq)) (M.leaf b vs hl hh.1 hn hb)
 ·intro q z b hz hb
  rcases hcase hz with ⟨rfl,rfl⟩|⟨h1,h2⟩
  ·rw [Ctx.jB] at hb
   obtain ⟨q0,y0,hy0,hb0⟩:=Fd.gfoot b hb
   exact M.foot q0 y0 b hy0 hb0
  ·rw [Ctx.jy h1] at hb
   obtain ⟨z0,hz0,hs0,_⟩:=Fd.was q z h2
   exact M.foot q z0 b hz0 (hs0 b hb)
 ·unfold look
  rw [hu0 (par i) (by simp)]
  exact M.rs1 i
 ·rw [FM,Bool.or_eq_false_iff] at hh
  exact hstage b vs hl hh.2 hn hb
 ·rw [FM,Bool.or_eq_false_iff] at hb;exact hb.1
 ·refine ⟨v,rfl,fun z hz=>?_⟩
  rcases hcase hz with ⟨_,rfl⟩|⟨h,_⟩
  ·exact ⟨k,none,rfl,trivial,by rw [dB,Ctx.with_ρ0];rfl⟩
  ·exact absurd rfl h
theorem auJ{w:World}{C:Ctx}{rs:RF}{av:AV}{vs:List Value}(h:AVC w C rs av vs)(hl:av.isLocal=true):∃v,vs=[v]:=by
 cases av with
 |nil=>exact ⟨_,h⟩
 |emp=>obtain ⟨a,h⟩:=h;exact ⟨_,h⟩
 |ref=>obtain ⟨v,h,_⟩:=h;exact ⟨v,h⟩
 |slc=>obtain ⟨v,_,h,_⟩:=h;exact ⟨v,h⟩
 |_=>cases hl
structure av8(w:World)(C0:Ctx)(rs0:RF)(C:Ctx)(rs:RF)(fs:List Root)(ks:List Kill)(av a':AV)(rs':RF)(fs':List Root)(ks':List Kill)(C':Ctx)(vs:List Value):Prop where
 moved:Moved w C0 rs0 C' rs' fs' ks'
 stage:Qx w C rs fs ks C' rs' fs' ks'
 val:AVC w C' (cmb rs' fs') a' vs
 names:∀q∈a'.names,q.1=1→q.2<fs'.length
 agg:a'.agg=av.agg
theorem avw(M:Moved w C0 rs0 C rs fs ks){q:au}(hq:2≤q.1)(hh:hit ks (.ptr q [])=false){x:Root}(hx:rs q=some x)(hxm:x.mem=true){vs:List Value}(hv:AVC w C0 rs0 (.ptr q []) vs) :
  ∃C',Moved w C0 rs0 C' (look rs [(q,none)]) (fs++[x]) ks∧Qx w C rs fs ks C' (look rs [(q,none)]) (fs++[x]) ks∧AVC w C' (cmb (look rs [(q,none)]) (fs++[x])) (.ptr (fr fs.length) []) vs:=by
 have hcur:=M.leaf (.ptr q []) vs rfl hh (by intro p hp;simp only [AV.names,List.mem_singleton] at hp;subst hp;omega) hv
 have hx0:cmb rs fs q=some x:=by unfold cmb;rw [if_neg (by omega)];exact hx
 let C':Ctx:=C.with (fr fs.length) (C.θ q) (C.ρ q) (C.F q)
 have hcase:∀{p:au}{z:Root},cmb (look rs [(q,none)]) (fs++[x]) p=some z→(p=fr fs.length∧z=x)∨(p≠fr fs.length∧p≠q∧cmb rs fs p=some z):=by
  rintro ⟨q1,q2⟩ z hz
  unfold cmb at hz
  by_cases h1:q1=1
  ·subst h1
   simp only [if_true] at hz
   by_cases h2:q2=fs.length
   ·subst h2
    simp only [List.getElem?_append_right (Nat.le_refl _),Nat.sub_self,List.getElem?_cons_zero,Option.some.injEq] at hz
    exact .inl ⟨rfl,hz.symm⟩
   ·have hlt:q2<fs.length:=by
     have:=(List.getElem?_eq_some_iff.1 hz).1
     simp at this;omega
    rw [List.getElem?_append_left hlt] at hz
    refine .inr ⟨by intro h;cases h;exact h2 rfl,by rintro rfl;simp at hq,?_⟩
    unfold cmb;rw [if_pos rfl];exact hz
  ·rw [if_neg h1] at hz
   unfold look at hz
   simp only [dD] at hz
   by_cases hqq:((q1,q2):au)=q
   ·rw [cK.2 hqq] at hz;cases hz
   ·rw [iw hqq] at hz
    refine .inr ⟨by intro h;cases h;exact h1 rfl,hqq,?_⟩
    unfold cmb;rw [if_neg h1];exact hz
 have hptr1:∀p z,cmb (look rs [(q,none)]) (fs++[x]) p=some z→∀t∈aT z.k z.d,t.1≠1:=by
  intro p z hz t ht
  rcases hcase hz with ⟨rfl,rfl⟩|⟨_,_,h2⟩
  ·exact M.ptr1 q z hx0 t ht
  ·exact M.ptr1 p z h2 t ht
 have hneF:∀{p:au},p.1≠1→p≠fr fs.length:=by rintro p hp rfl;exact hp rfl
 have hmem:Mem w C' (cmb (look rs [(q,none)]) (fs++[x])):=by
  refine ⟨?_,?_,?_,?_,?_⟩
  ·intro p z hz
   rcases hcase hz with ⟨rfl,rfl⟩|⟨h1,_,h2⟩
   ·obtain ⟨G,g1,g2,g3⟩:=M.mem.ok q z hx0
    refine ⟨G,?_,by rw [Ctx.jB];exact g2,fun hm=>by rw [Ctx.with_θ0,Ctx.jB,Ctx.with_ρ0];exact g3 hm⟩
    rw [Ctx.with_ρ0]
    exact g1.mono (.refl _) (.refl _) (.refl _) (fun _ _=>rfl) (fun t ht=>by rw [Ctx.with_θ (hneF (hptr1 _ _ hz t ht))])
   ·exact (M.mem.ok p z h2).keep rfl rfl (Ctx.with_θ h1) (Ctx.with_ρ h1) (Ctx.jy h1) (fun t ht=>Ctx.with_θ (hneF (hptr1 _ _ hz t ht))) (fun _ _=>rfl)
  ·intro p p' z z' hz hz' hne
   rcases hcase hz with ⟨rfl,rfl⟩|⟨h1,h1',h2⟩<;>rcases hcase hz' with ⟨rfl,rfl⟩|⟨k1,k1',k2⟩
   ·exact absurd rfl hne
   ·rw [Ctx.jB,Ctx.jy k1];exact M.mem.disj q p' z z' hx0 k2 (Ne.symm k1')
   ·rw [Ctx.jB,Ctx.jy h1];exact M.mem.disj p q z z' h2 hx0 h1'
   ·rw [Ctx.jy h1,Ctx.jy k1];exact M.mem.disj p p' z z' h2 k2 hne
  ·intro p z b hz hb
   rcases hcase hz with ⟨rfl,rfl⟩|⟨h1,_,h2⟩
   ·rw [Ctx.jB] at hb;exact M.mem.apart q z b hx0 hb
   ·rw [Ctx.jy h1] at hb;exact M.mem.apart p z b h2 hb
  ·exact M.mem.ro
  ·intro p z hz t ht z2 hz2
   rcases hcase hz2 with ⟨rfl,rfl⟩|⟨k1,_,k2⟩
   ·exact absurd rfl (hptr1 p z hz _ ht)
   ·rcases hcase hz with ⟨rfl,rfl⟩|⟨_,_,h2⟩
    ·exact M.mem.ptr q z hx0 t ht z2 k2
    ·exact M.mem.ptr p z h2 t ht z2 k2
 have hstage:∀b vs,b.eD=true→(∀t∈b.names,t.1=1→t.2<fs.length)→AVC w C (cmb rs fs) b vs→AVC w C' (cmb (look rs [(q,none)]) (fs++[x])) b vs:=by
  intro b vs hl hn hb
  refine lZ (C':=C') M.mem (fun t=>t=fr fs.length) rfl rfl (fun t ht=>Ctx.with_θ ht) (fun t ht=>Ctx.with_ρ ht) ?_ (fun _ _=>rfl) hl (fun t ht h=>by
   have:=hn t ht (by rw [h]);rw [h] at this;simp at this) hb
  intro t z ht hz
  rcases hcase hz with ⟨h,_⟩|⟨_,_,h2⟩
  ·exact absurd h ht
  ·exact h2
 refine ⟨C',⟨M.Z,M.S,fun i=>?_,hmem,?_,?_,hptr1,fun i=>?_⟩,⟨fun b vs hl _ hn hb=>hstage b vs hl hn hb,by simp,fun b hb=>hb⟩,?_⟩
 ·rw [Ctx.with_θ (by intro h;cases h),Ctx.with_ρ (by intro h;cases h)];exact M.pars i
 ·intro b vs hl hh hn hb
  exact hstage b vs hl (fun t ht h1=>absurd h1 (hn t ht)) (M.leaf b vs hl hh hn hb)
 ·intro p z b hz hb
  rcases hcase hz with ⟨rfl,rfl⟩|⟨h1,_,h2⟩
  ·rw [Ctx.jB] at hb;exact M.foot q z b hx0 hb
  ·rw [Ctx.jy h1] at hb;exact M.foot p z b h2 hb
 ·unfold look
  simp only [dD]
  rw [iw (by rintro rfl;simp at hq)]
  exact M.rs1 i
 ·obtain ⟨b,off,rfl,h0,hroot⟩:=hcur
  obtain ⟨rfl,rfl⟩:=h0 rfl
  refine ⟨_,_,rfl,fun _=>⟨by rw [Ctx.with_θ0],rfl⟩,fun z hz=>?_⟩
  rcases hcase hz with ⟨_,rfl⟩|⟨h,_⟩
  ·refine ⟨z.k,C.ρ q,at_nil _,dX _ _ _,?_⟩
   rw [dB,Ctx.with_ρ0]
   unfold bM
   rw [if_pos hxm,Ctx.with_θ0]
  ·exact absurd rfl h
theorem aew{rs:RF}{av b:AV}(h:xG rs av=some b):∃q x z,av=.ref q []∧q.1≠1∧rs q=some x∧x.mem=false∧x.m=.imm z∧x.k.plain=true∧b=.imm z x.k x.d:=by
 unfold xG at h
 split at h
 case h_2=>cases h
 case h_1 d j=>
 split at h
 case h_2=>cases h
 case h_1 x hx=>
 cases hm:x.mem with
 |true=>rw [hm] at h;cases h
 |false=>
 rw [hm] at h
 simp only [cond_false] at h
 split at h
 case h_2=>cases h
 case h_1 z hz=>
 cases hp:x.k.plain with
 |false=>rw [hp] at h;cases h
 |true=>
 rw [hp] at h
 simp only [cond_true,Option.some.injEq] at h
 exact ⟨(d+2,j),x,z,rfl,by simp,hx,hm,hz,hp,h.symm⟩
theorem vR(M:Moved w C0 rs0 C rs fs ks){e:Option K}{av:AV}(hl:av.eD=true)(hg:av.agg=false)(hn:∀q∈av.names,q.1≠1){vs:List Value}(hv:AVC w C0 rs0 av vs)
  {c:AV→RF→List Root→List Kill→Option R'}
  (h:(bif hit ks av then none else match xG rs av with
   |some b=>c b rs fs ks
   |none=>bif av.isLocal then (match e with
   |some (.sl k)=>gK rs k [] av fun xs m u' k1 _=>c (.ref (fr fs.length) []) (look rs u') (fs++[⟨false,.sl k,m,xs⟩]) (ks++k1)
   |some _=>none
   |none=>match av with
    |.nil=>c .nil rs fs ks
    |_=>none) else TR av ks rs fs c)=some r) :
  ∃a' rs' fs' ks' C',c a' rs' fs' ks'=some r∧av8 w C0 rs0 C rs fs ks av a' rs' fs' ks' C' vs:=by
 cases hh:hit ks av with
 |true=>rw [hh] at h;cases h
 |false=>
 rw [hh] at h
 simp only [cond_false] at h
 cases hfz:xG rs av with
 |some b=>
  rw [hfz] at h
  have hcur:=M.leaf av vs hl hh hn hv
  obtain ⟨q,x,z,rfl,hq1,hx,hxm,hmk,hpl,rfl⟩:=aew hfz
  obtain ⟨v,rfl,hroot⟩:=hcur
  have hx':cmb rs fs q=some x:=by unfold cmb;rw [if_neg hq1];exact hx
  obtain ⟨e',base,hat,_,hloc⟩:=hroot x hx'
  rw [at_nil] at hat
  rw [dB] at hloc
  simp only [Option.some.injEq,Prod.mk.injEq] at hloc hat
  obtain ⟨G,hE,_,_⟩:=M.mem.ok q x hx'
  rw [hmk,hloc.1] at hE
  refine ⟨_,_,_,_,C,h,M,.refl,⟨hpl,hE.au9⟩,fun q hq=>(by cases hq),?_⟩
  show x.k.isAgg=false
  rw [hat];rfl
 |none=>
 rw [hfz] at h
 dsimp only at h
 cases hloc:av.isLocal with
 |true=>
  rw [hloc] at h
  simp only [cond_true] at h
  split at h
  case h_2=>cases h
  case h_3=>
   have hcur:=M.leaf av vs hl hh hn hv
   split at h
   ·exact ⟨_,_,_,_,C,h,M,.refl,hcur,fun q hq=>(by cases hq),rfl⟩
   ·simp at h
  case h_1 k=>
  obtain ⟨v,rfl⟩:=auJ hv hloc
  obtain ⟨xs,m,u',k1,g1,C',g,h1,h2,h3⟩:=atZ M hl hloc hh hn hv h
  refine ⟨_,_,_,_,C',g,h1,h2,h3,fun q hq _=>?_,hg.symm⟩
  simp only [AV.names,List.mem_singleton] at hq
  subst hq
  simp
 |false=>
  rw [hloc] at h
  simp only [cond_false] at h
  have hcur:=M.leaf av vs hl hh hn hv
  unfold TR at h
  split at h
  ·exact ⟨_,_,_,_,C,h,M,.refl,hcur,fun q hq h1=>absurd h1 (hn q hq),rfl⟩
  ·exact ⟨_,_,_,_,C,h,M,.refl,hcur,fun q hq h1=>absurd h1 (hn q hq),rfl⟩
  ·exact ⟨_,_,_,_,C,h,M,.refl,hcur,fun q hq h1=>absurd h1 (hn q hq),rfl⟩
  ·split at h
   case h_2=>simp at h
   case h_1 x hx=>
   cases hxm:x.mem with
   |false=>rw [hxm] at h;simp at h
   |true=>
   rw [hxm] at h
   simp only [cond_true] at h
   obtain ⟨C',h1,h2,h3⟩:=avw M (by simp) hh hx hxm hv
   refine ⟨_,_,_,_,C',h,h1,h2,h3,fun q hq _=>?_,rfl⟩
   simp only [AV.names,List.mem_singleton] at hq
   subst hq
   simp
  ·simp at h
theorem XO{ks:List Kill}{av:AV}(h:∀x:Kill,x.hits av=false):hit ks av=false:=by
 simp only [hit,List.any_eq_false]
 intro x _
 rw [h x];simp
theorem agQ(a b:AV):∀q∈(AV.flatten a b).names,q∈a.names∨q∈b.names:=by
 intro q hq
 unfold AV.flatten at hq
 split at hq
 ·cases hq
 ·simpa [AV.names] using hq
theorem ab9:∀(av:AV){e:Option K}{C:Ctx}{rs:RF}{fs:List Root}{ks:List Kill}{c:AV→RF→List Root→List Kill→Option R'}{vs:List Value},Moved w C0 rs0 C rs fs ks→(∀q∈av.names,q.1≠1)→AVC w C0 rs0 av vs →
  Y0 e av ks rs fs c=some r→∃a' rs' fs' ks' C',c a' rs' fs' ks'=some r∧av8 w C0 rs0 C rs fs ks av a' rs' fs' ks' C' vs:=by
 intro av
 induction av with
 |imm z k d=>
  intro e C rs fs ks c vs M hn hv h
  exact ⟨_,_,_,_,C,h,M,.refl,M.leaf _ _ rfl (XO fun x=>by cases x<;>rfl) hn hv,fun q hq=>(by cases hq),rfl⟩
 |nilp=>
  intro e C rs fs ks c vs M hn hv h
  exact ⟨_,_,_,_,C,h,M,.refl,M.leaf _ _ rfl (XO fun x=>by cases x<;>rfl) hn hv,fun q hq=>(by cases hq),rfl⟩
 |pair a b iha ihb=>
  intro e C rs fs ks c vs M hn hv h
  simp only [Y0] at h
  split at h
  case h_2=>simp at h
  case h_1 ka kb=>
  obtain ⟨v1,v2,rfl,h1,h2⟩:=hv
  obtain ⟨a',rs1,fs1,ks1,C1,h,A⟩:=iha M (fun q hq=>hn q (by simp [AV.names,hq])) h1 h
  obtain ⟨b',rs2,fs2,ks2,C2,h,B⟩:=ihb A.moved (fun q hq=>hn q (by simp [AV.names,hq])) h2 h
  refine ⟨_,_,_,_,C2,h,B.moved,A.stage.trans B.stage,AVC.flatten (AVC.ap8 (fun b vs hl hh hn hb=>B.stage.leaf b vs hl hh hn hb) _ _ A.names A.val) B.val,fun q hq h1=>?_,by rw [IJ];rfl⟩
  rcases agQ _ _ q hq with hq|hq
  ·exact Nat.lt_of_lt_of_le (A.names q (alI _ _ q hq) h1) B.stage.grow
  ·exact B.names q hq h1
 |tcons a b _ _=>intro e C rs fs ks c vs M hn hv h;exact hv.elim
 |tnil=>intro e C rs fs ks c vs M hn hv h;exact hv.elim
 |dead=>
  intro e C rs fs ks c vs M hn hv h
  exact vR M rfl rfl hn hv h
 |nil=>intro e C rs fs ks c vs M hn hv h;exact vR M rfl rfl hn hv h
 |emp=>intro e C rs fs ks c vs M hn hv h;exact vR M rfl rfl hn hv h
 |ref q p=>intro e C rs fs ks c vs M hn hv h;exact vR M rfl rfl hn hv h
 |slc q p lo k0=>intro e C rs fs ks c vs M hn hv h;exact vR M rfl rfl hn hv h
 |ptr q p=>intro e C rs fs ks c vs M hn hv h;exact vR M rfl rfl hn hv h
 |iptr z k d p=>intro e C rs fs ks c vs M hn hv h;exact vR M rfl rfl hn hv h
 |nn z k d=>intro e C rs fs ks c vs M hn hv h;exact vR M rfl rfl hn hv h
 |vw q p L=>intro e C rs fs ks c vs M hn hv h;exact vR M rfl rfl hn hv h
 |fn f caps=>intro e C rs fs ks c vs M hn hv h;exact vR M rfl rfl hn hv h
theorem ajO{av:AV}{e:Option K}(M:Moved w C0 rs0 C rs fs ks)(hn:∀q∈av.names,q.1≠1){v:Value}(hv:bK w C0 rs0 v av){c:AV→RF→List Root→List Kill→Option R'}(h:Y0 e av ks rs fs c=some r) :
  ∃a' rs' fs' ks' C',c a' rs' fs' ks'=some r∧Moved w C0 rs0 C' rs' fs' ks'∧Qx w C rs fs ks C' rs' fs' ks'∧Iy w C' (cmb rs' fs') v a'∧∀q∈a'.names,q.1=1→q.2<fs'.length:=by
 rcases hv with (rfl|⟨hg,vs,rfl,hA⟩|⟨hg,hA,hc⟩)|⟨vs,_,ht⟩
 ·simp only [Y0] at h
  rw [XO fun x=>by cases x<;>rfl] at h
  simp [AV.isLocal,TR,xG] at h
 ·obtain ⟨a',rs',fs',ks',C',h,A⟩:=ab9 av M hn hA h
  exact ⟨a',rs',fs',ks',C',h,A.moved,A.stage,.inr (.inl ⟨by rw [A.agg];exact hg,vs,rfl,A.val⟩),A.names⟩
 ·obtain ⟨a',rs',fs',ks',C',h,A⟩:=ab9 av M hn hA h
  exact ⟨a',rs',fs',ks',C',h,A.moved,A.stage,.inr (.inr ⟨by rw [A.agg];exact hg,A.val,hc⟩),A.names⟩
 ·cases av with
  |tnil=>simp only [Y0] at h;rw [XO fun x=>by cases x<;>rfl] at h;simp [AV.isLocal,TR,xG] at h
  |tcons a b=>simp only [Y0] at h;cases hh:hit ks (.tcons a b)<;>rw [hh] at h<;>simp [AV.isLocal,TR,xG] at h
  |_=>exact ht.elim
theorem ahc:∀(l:List (AV×Option K))(vals:List Value){C:Ctx}{rs:RF}{fs:List Root}{ks:List Kill}{c:AV→RF→List Root→List Kill→Option R'},Moved w C0 rs0 C rs fs ks→ahF l=false→l.length=vals.length →
  (∀(i:Nat)(x:AV×Option K)(v:Value),l[i]?=some x→vals[i]?=some v→bK w C0 rs0 v x.1)→Y1 l ks rs fs c=some r →
  ∃t rs' fs' ks' C',c t rs' fs' ks'=some r∧Moved w C0 rs0 C' rs' fs' ks'∧Qx w C rs fs ks C' rs' fs' ks'∧ZL w C' (cmb rs' fs') t vals:=by
 intro l
 induction l with
 |nil=>
  intro vals C rs fs ks c M _ hlen _ h
  have:vals=[]:=List.eq_nil_of_length_eq_zero hlen.symm
  subst this
  exact ⟨_,_,_,_,C,h,M,.refl,rfl⟩
 |cons x l ih=>
  intro vals C rs fs ks c M hfr hlen hv h
  obtain ⟨a,k⟩:=x
  cases vals with
  |nil=>simp at hlen
  |cons v vals=>
  simp only [ahF,Bool.or_eq_false_iff] at hfr
  have hn:∀q∈a.names,q.1≠1:=by
   intro q hq h1
   have:=hfr.1
   simp only [awC,List.any_eq_false] at this
   exact this q hq (beq_iff.2 h1)
  simp only [Y1] at h
  obtain ⟨a',rs1,fs1,ks1,C1,h,M1,S1,V1,N1⟩:=ajO M hn (hv 0 (a,k) v rfl rfl) h
  obtain ⟨t,rs2,fs2,ks2,C2,h,M2,S2,T2⟩:=ih vals M1 hfr.2 (by simpa using hlen) (fun i x v hx hvv=>hv (i+1) x v (by simpa using hx) (by simpa using hvv)) h
  exact ⟨_,_,_,_,C2,h,M2,S1.trans S2,v,vals,rfl,Iy.ap8 (fun b vs hl hh hn hb=>S2.leaf b vs hl hh hn hb) N1 V1,T2⟩
end
end Go.Abs
namespace Go.Abs
section
variable {P : Program} {V : Env}
theorem ar2:∀(l:List AV)(k t:Nat),ZG (ah7 k l) t=if k≤t then (l[t-k]?).getD .dead else .dead:=by
 intro l
 induction l with
 |nil=>intro k t;simp [ah7,ZG]
 |cons a l ih=>
  intro k t
  simp only [ah7,ZG]
  by_cases h:t=k
  ·rw [beq_iff.2 h];subst h;simp
  ·rw [iq h]
   simp only [cond_false,ih]
   by_cases h2:k≤t
   ·rw [if_pos (by omega),if_pos h2,show t-k=(t-(k+1))+1 by omega];simp
   ·rw [if_neg (by omega),if_neg h2]
theorem arI:∀(l:List Root)(k:Nat)(q:au),Y2 (ah6 k l) q=if q.1=0∧k≤q.2 then l[q.2-k]? else none:=by
 intro l
 induction l with
 |nil=>intro k q;simp [ah6,Y2]
 |cons a l ih=>
  intro k q
  simp only [ah6,Y2]
  by_cases h:q=par k
  ·rw [cK.2 h];subst h;simp
  ·rw [iw h]
   simp only [cond_false,ih]
   obtain ⟨q1,q2⟩:=q
   by_cases h2:q1=0∧k≤q2
   ·have hne:q2≠k:=by rintro rfl;exact h (by rw [h2.1])
    rw [if_pos ⟨h2.1,by simp;omega⟩,if_pos h2]
    simp only
    rw [show q2-k=(q2-(k+1))+1 by omega];simp
   ·rw [if_neg h2,if_neg (fun h3=>h2 ⟨h3.1,by have:=h3.2;simp at this;omega⟩)]
theorem aoc(l:List Root):Y2 (ah6 0 l)=Y3 l:=by
 funext q
 rw [arI]
 obtain ⟨q1,q2⟩:=q
 match q1 with
 |0=>simp [Y3]
 |q1+1=>simp [Y3]
theorem anG{m n:Nat}(hmn:m≤n):∀(c:Code),Cn m c=true→Cn n c=true:=by
 intro c
 induction c with
 |region id ops draw=>
  intro h
  simp only [Cn,List.all_eq_true] at h ⊢
  refine fun o ho=>?_
  have h2:=h o ho
  cases hd:o.dst with
  |none=>rfl
  |some d=>
   rw [hd] at h2
   have h3:Nat.blt d m=true:=h2
   have h4:d+1≤m:=Nat.le_of_ble_eq_true h3
   show Nat.ble (d+1) n=true
   exact Nat.ble_eq_true_of_le (Nat.le_trans h4 hmn)
 |seq a b iha ihb=>intro h;simp only [Cn,Bool.and_eq_true] at h ⊢;exact ⟨iha h.1,ihb h.2⟩
 |cond x a b iha ihb=>intro h;simp only [Cn,Bool.and_eq_true] at h ⊢;exact ⟨iha h.1,ihb h.2⟩
 |block id a ih=>intro h;exact ih h
 |loop a ih=>intro h;exact ih h
 |_=>intro _;rfl
theorem ahb{rs:RF}:∀(n i:Nat){ps:List Root},GH rs i n=some ps→ps.length=n∧∀(j:Nat)(x:Root),ps[j]?=some x→rs (par (i+j))=some x:=by
 intro n
 induction n with
 |zero=>intro i ps h;simp only [GH,Option.some.injEq] at h;subst h;exact ⟨rfl,by simp⟩
 |succ n ih=>
  intro i ps h
  simp only [GH] at h
  split at h
  case h_2=>simp at h
  case h_1 x hx=>
  cases hr:GH rs (i+1) n with
  |none=>rw [hr] at h;simp at h
  |some ps'=>
   rw [hr] at h
   simp only [Option.map_some,Option.some.injEq] at h
   subst h
   obtain ⟨h1,h2⟩:=ih _ hr
   refine ⟨by simp [h1],fun j y hj=>?_⟩
   cases j with
   |zero=>simp only [List.getElem?_cons_zero,Option.some.injEq] at hj;subst hj;exact hx
   |succ j=>have:=h2 j y (by simpa using hj);rw [show i+(j+1)=i+1+j by omega];exact this
theorem as3{R:Type}(k:K)(d:k.den)(m:Mask)(c:(k':K)→k'.den→Mask→Option R):iX k d m [] c=c k d m:=by cases k<;>rfl
theorem amh{w0 w:World}{M0:BS}{n:Nat}{C0 C:Ctx}{st:St}{a:Act}(hT:gZ P V)(R:Rel w0 M0 n C0 C st a w):∀(l:List ResultVar)(ts:List TypeId){vals:List (AV×Option K)},zB V st.tmps st.roots l ts=some vals →
  ∃vs:List Value,vs.length=vals.length∧(∀(i:Nat)(x:AV×Option K)(v:Value),vals[i]?=some x→vs[i]?=some v→bK w C st.roots v x.1)∧∀(g:ResultVar→Sem Value),(∀t,g (.tmp t)=pure (a.tmps.getD t undef))→(∀t T,g (.cell t T)=(do loadVar T (←asAddr (a.tmps.getD t undef))))→(List.mapM g l).run P w=.ok vs w:=by
 intro l
 induction l with
 |nil=>intro ts vals h;simp only [zB,Option.some.injEq] at h;subst h;exact ⟨[],rfl,by simp,fun _ _ _=>rfl⟩
 |cons r l ih=>
  intro ts vals h
  have step:∀(x:AV×Option K)(v:Value),(zB V st.tmps st.roots l ts.tail).map (x::·)=some vals→bK w C st.roots v x.1→(∀(g:ResultVar→Sem Value),(∀t,g (.tmp t)=pure (a.tmps.getD t undef))→(∀t T,g (.cell t T)=(do loadVar T (←asAddr (a.tmps.getD t undef))))→(g r).run P w=.ok v w) →
    ∃vs:List Value,vs.length=vals.length∧(∀(i:Nat)(x:AV×Option K)(v:Value),vals[i]?=some x→vs[i]?=some v→bK w C st.roots v x.1)∧∀(g:ResultVar→Sem Value),(∀t,g (.tmp t)=pure (a.tmps.getD t undef))→(∀t T,g (.cell t T)=(do loadVar T (←asAddr (a.tmps.getD t undef))))→(List.mapM g (r::l)).run P w=.ok vs w:=by
   intro x v hm hv hrun
   cases hr:zB V st.tmps st.roots l ts.tail with
   |none=>rw [hr] at hm;simp at hm
   |some vals'=>
    rw [hr] at hm
    simp only [Option.map_some,Option.some.injEq] at hm
    subst hm
    obtain ⟨vs,h1,h2,h3⟩:=ih _ hr
    refine ⟨v::vs,by simp [h1],fun i y u hy hu=>?_,fun g hg hg2=>by simp only [List.mapM_cons,Sem.run_bind,hrun g hg hg2,Result.andThen_ok,h3 g hg hg2,Sem.run_pure]⟩
    cases i with
    |zero=>simp only [List.getElem?_cons_zero,Option.some.injEq] at hy hu;subst hy;subst hu;exact hv
    |succ i=>exact h2 i y u (by simpa using hy) (by simpa using hu)
  cases r with
  |tmp t=>
   simp only [zB] at h
   exact step _ _ h (R.tm t) (fun g hg _=>by rw [hg];rfl)
  |cell t T=>
   simp only [zB] at h
   split at h
   case h_2=>simp at h
   case h_1 k q hk e1=>
   split at h
   case h_2=>simp at h
   case h_1 y hy=>
   split at h
   case isFalse=>simp at h
   case isTrue hc=>
   obtain ⟨hmem,hkk⟩:=hc
   obtain ⟨ti,hti,hki⟩:=Env.wU hk
   have hty:=hT.ty _ _ hti
   have hx:=R.tm t
   rw [e1] at hx
   obtain ⟨⟨b,off,hv,hbo,hroot⟩,_⟩:=hx.cell (by simp) rfl (by simp) (by simp)
   simp only [List.cons.injEq,and_true] at hv
   obtain ⟨rfl,rfl⟩:=hbo rfl
   obtain ⟨k',d,m,vs,b1,hp,hc2⟩:=iN (p:=[]) (c:=fun k' d m=>some ((⟨k',d⟩:Σ k:K,k.den),m)) (R.mem.ok _ _ hy) (as3 _ _ _ _)
   simp only [Option.some.injEq,Prod.mk.injEq,Sigma.mk.injEq] at hc2
   obtain ⟨⟨rfl,hd⟩,rfl⟩:=hc2
   cases hd
   obtain ⟨k2,cs,g1,g2,g3⟩:=hroot y hy
   rw [hp.lc] at g3
   simp only [Option.some.injEq,Prod.mk.injEq] at g3
   obtain ⟨rfl,rfl⟩:=g3
   obtain ⟨F,he⟩:=hp.enc
   have hr:=aeb R.mem hy hp
   have hm:y.k.isAgg=false→VL q y.k [] y.d y.m≠.dead→(valOf y.k vs).cells = #[valOf y.k vs]:=fun hg hd=>he.cellV (ZO hd) hg
   refine step _ (valOf y.k vs) h (bK.val hr.1 he.len hr.2 hm) ?_
   have hki:ti.k=y.k:=hki.trans hkk.symm
   have hrun:=GJ (P:=P) hty hp.lies (by rw [hki];exact he.len) (v:=valOf y.k vs) (by rw [hki];exact tH he.len)
   intro g _ hg2
   rw [hg2,hv]
   simpa [Instr.loadAt,Instr.sureAddr,asAddr] using hrun
theorem amm{fn:Func}{w0 w:World}{M0:BS}{n:Nat}{C0 C:Ctx}{st:St}{a:Act}(hT:gZ P V)(R:Rel w0 M0 n C0 C st a w){ts:List TypeId}{vals:List (AV×Option K)}(h:zB V st.tmps st.roots fn.results.toList ts=some vals) :
  ∃vs:List Value,vs.length=vals.length∧(∀(i:Nat)(x:AV×Option K)(v:Value),vals[i]?=some x→vs[i]?=some v→bK w C st.roots v x.1) ∧
   (results fn a.tmps).run P w=.ok (match vs with|[v]=>v|vs=>.tuple vs.toArray) w:=by
 obtain ⟨vs,h1,h2,h3⟩:=amh hT R _ _ h
 refine ⟨vs,h1,h2,?_⟩
 unfold results
 have he:fn.results=fn.results.toList.toArray:=by simp
 rw [he,List.mapM_toArray]
 simp only [Sem.run_bind,Sem.run_map]
 rw [h3 _ (fun t=>rfl) (fun t T=>rfl)]
 simp only [Result.andThen_ok,Sem.run_pure]
 cases vs with
 |nil=>rfl
 |cons v vl=>
  cases vl with
  |nil=>rfl
  |cons v2 vl=>simp
theorem Rel.KI{w0 w:World}{M0:BS}{n:Nat}{C0 C:Ctx}{s:St}{a:Act}{V:Env}(h:Rel w0 M0 n C0 C s a w):∃C',Rel w0 M0 n C0 C' (KI V s) a w:=by
 unfold Go.Abs.KI
 split
 ·exact ⟨C,h⟩
 ·exact Rel.asZ _ h
theorem akI{Γ:Glb}(hT:gZ P V)(hE:ahB P Γ V){f:FuncId}{fn:Func}{F:FnI}(hf:P.funcs[f]?=some fn)(hb:fn.body=some F.body)(hres:fn.results.toList=F.results)
  (hdst:Cn fn.ntmps F.body=true) (hL:ru V F.loops F.body) (rw:List Nat):Contract P Γ f ⟨rw,fun ci=>.mat (bR V F ci) .ret,false⟩:=by
 intro w C ci co vals hM hptr hsz hvals hgl hG
 have hE:ZK P Γ V w (zx C ci.roots) C:=⟨hE,fun b hb=>⟨hgl.1 b hb,fun ⟨i,x,hx,hF⟩=>(hM.apart (par i) x b hx hF).1 (hgl.1 b hb),hM.ro b (.inl (hgl.1 b hb))⟩,hgl.2⟩
 suffices hold:Calls P f vals w fun e w'=>match e with
   |.returned v=>∃C',Qw w C ci co v w' C'
   |_=>False from hold.mono fun e w' h=>by
  cases e with
  |returned v=>obtain ⟨C',h⟩:=h;exact ⟨C',h,fun h=>nomatch h⟩
  |_=>exact h
 refine calls_of_wp hf hb ?_
 have hG:bR V F ci=some co:=by
  obtain ⟨o,ho⟩:∃o,bR V F ci=o:=⟨_,rfl⟩
  have hG:(Tre.mat (bR V F ci) Tre.ret).run some=some co:=hG
  rw [ho] at hG ⊢
  cases o with
  |none=>cases hG
  |some x=>exact hG
 unfold bR at hG
 have hn:fn.ntmps≤(vals++Array.replicate (fn.ntmps-vals.size) undef).size:=by simp;omega
 have hinit:Rel w (zx C ci.roots) (vals++Array.replicate (fn.ntmps-vals.size) undef).size C C (atl ci) { tmps:=vals++Array.replicate (fn.ntmps-vals.size) undef,defers:=[] } w:=by
  have hroots:(atl ci).roots=Y3 ci.roots:=aoc _
  refine ⟨⟨.refl _,rfl,fun _=>rfl⟩,by rw [hroots];exact hM,fun t=>?_,.refl _ _,fun q x b hq hb=>?_,fun q x hq p hp h1=>?_,rfl,rfl,fun _ _ _ _=>rfl,fun b hb=>.inl hb⟩
  ·rw [hroots]
   show bK w C _ _ (ZG (ah7 0 ci.args) t)
   rw [ar2]
   simp only [Nat.zero_le,if_true,Nat.sub_zero]
   cases ht:ci.args[t]? with
   |none=>exact bK.dead
   |some av=>
    simp only [Option.getD_some]
    have hlt:t<vals.size:=by rw [hsz];exact (List.getElem?_eq_some_iff.1 ht).1
    have:(vals++Array.replicate (fn.ntmps-vals.size) undef).getD t undef=vals[t]:=by
     rw [Array.getD_eq_getD_getElem?,Array.getElem?_append_left hlt,Array.getElem?_eq_getElem hlt];rfl
    rw [this]
    exact hvals t _ av (Array.getElem?_eq_getElem hlt) ht
  ·rw [hroots] at hq
   obtain ⟨q1,q2⟩:=q
   match q1,hq with
   |0,hq=>exact .inr ⟨q2,x,hq,hb⟩
   |q1+1,hq=>cases hq
  ·rw [hroots] at hq
   obtain ⟨q1,q2⟩:=q
   match q1,hq with
   |0,hq=>have:=hptr x (List.mem_of_getElem? hq) p hp;omega
   |q1+1,hq=>cases hq
 refine aqo hT hE F.body (anG hn _ hdst) hL (fun e s' a' w' C' hc R'=>?_) hinit hG
 have hfin:(match zB V (KI V s').tmps (KI V s').roots F.results F.types with
   |none=>none
   |some vals=>bif (KI V s').pins 1||ahF vals then none else
    Y1 vals [] (KI V s').roots [] fun r rs fs _=>match GH rs 0 ci.roots.length with
     |none=>none
     |some ps=>bif sQ ps.length fs.length ps&&sQ ps.length fs.length fs then some (⟨one r,ps,fs⟩:ay) else none)=some co→bodyPost P fn (fun e w'=>match e with
   |.returned v=>∃C',Qw w C ci co v w' C'
   |_=>False) .ret a' w':=by
  clear hc
  obtain ⟨C',R'⟩:=R'.KI
  generalize KI V s'=s' at R'
  intro hc
  split at hc
  case h_1=>simp at hc
  case h_2 _ rv hrv=>
  cases hchk:(s'.pins 1||ahF rv) with
  |true=>rw [hchk] at hc;simp at hc
  |false=>
  rw [hchk] at hc
  simp only [cond_false] at hc
  simp only [Bool.or_eq_false_iff] at hchk
  rw [←hres] at hrv
  obtain ⟨vl,hsl1,hsl2,hsl3⟩:=amm hT R' hrv
  refine ⟨R'.defers,_,hsl3,?_⟩
-- the state as the start of the results' way
  have hp1:∀q y,s'.roots q=some y→∀p∈aT y.k y.d,p.1≠1:=by
   intro q y hy p hp h1
   have:=R'.pins q y hy p hp (by omega)
   rw [h1,hchk.1] at this;cases this
  have hsub:∀q y,cmb s'.roots [] q=some y→s'.roots q=some y:=by
   intro q y h
   unfold cmb at h
   split at h
   ·simp at h
   ·exact h
  have hM0:Moved w' C' s'.roots C' s'.roots [] []:=by
   refine ⟨rfl,rfl,fun _=>⟨rfl,rfl⟩,⟨fun q y h=>R'.mem.ok q y (hsub q y h),fun q q' y y' h h'=>R'.mem.disj q q' y y' (hsub q y h) (hsub q' y' h'),fun q y b h=>R'.mem.apart q y b (hsub q y h),R'.mem.ro,fun q y h p hp z hz=>R'.mem.ptr q y (hsub q y h) p hp z (hsub p z hz)⟩,
    fun b vs hl _ _ hb=>lZ R'.mem (fun _=>False) rfl rfl (fun _ _=>rfl) (fun _ _=>rfl) (fun q y _ h=>hsub q y h) (fun _ _=>rfl) hl (fun _ _ h=>h) hb,
    fun q y b h hb=>⟨q,y,hsub q y h,hb⟩,fun q y h=>hp1 q y (hsub q y h),fun _=>rfl⟩
  obtain ⟨tv,rs2,fs2,ks2,C2,hc,M2,S2,T2⟩:=ahc rv vl hM0 hchk.2 hsl1.symm hsl2 hc
  split at hc
  case h_1=>simp at hc
  case h_2 _ ps hps=>
  obtain ⟨hpl,hps2⟩:=ahb _ _ hps
  cases hchk3:(sQ ps.length fs2.length ps&&sQ ps.length fs2.length fs2) with
  |false=>rw [hchk3] at hc;simp at hc
  |true=>
  rw [hchk3] at hc
  simp only [cond_true,Option.some.injEq] at hc
  subst hc
  have hout:∀q y,LH ⟨one tv,ps,fs2⟩ q=some y→cmb rs2 fs2 q=some y:=by
   rintro ⟨q1,q2⟩ y hq
   match q1,hq with
   |0,hq=>have:=hps2 q2 y hq;rw [Nat.zero_add] at this;exact this
   |1,hq=>exact hq
   |q1+2,hq=>cases hq
  have hval:∀b vs,b.eD=true→hit [] b=false→AVC w' C2 (cmb rs2 fs2) b vs→AVC w' C2 (LH ⟨one tv,ps,fs2⟩) b vs:=
   fun b vs hl _ hb=>lZ M2.mem (fun _=>False) rfl rfl (fun _ _=>rfl) (fun _ _=>rfl) (fun q y _ h=>hout q y h) (fun _ _=>rfl) hl (fun _ _ h=>h) hb
  refine ⟨C2,fun b hb=>(by rw [M2.Z];exact R'.ext.Z b hb),M2.S.trans R'.ext.S,fun i=>(M2.pars i).1.trans (R'.ext.θ i),
   ⟨fun q y h=>M2.mem.ok q y (hout q y h),fun q q' y y' h h'=>M2.mem.disj q q' y y' (hout q y h) (hout q' y' h'),fun q y b h=>M2.mem.apart q y b (hout q y h),M2.mem.ro,fun q y h p hp z hz=>M2.mem.ptr q y (hout q y h) p hp z (hout p z hz)⟩,
   ?_,fun i x hx hm=>?_,R'.kept,fun q y b hq hb=>?_,fun b hb=>R'.zn b (by rw [←M2.Z];exact hb)⟩
  ·have hT2:=ZL.step hval _ _ T2
   rw [TK] at hT2
   show bK w' C2 _ _ (one tv)
   cases tv with
   |tnil=>
    have:vl=[]:=hT2
    subst this
    exact .inr ⟨[],rfl,rfl⟩
   |tcons x y=>
    obtain ⟨v,l,rfl,h1,h2⟩:=hT2
    cases y with
    |tnil=>
     have:l=[]:=h2
     subst this
     exact .inl h1
    |tcons x2 y2=>
     obtain ⟨v2,l2,rfl,h3,h4⟩:=h2
     exact .inr ⟨v::v2::l2,rfl,v,_,rfl,h1,v2,l2,rfl,h3,h4⟩
    |_=>exact h2.elim
   |_=>exact hT2.elim
  ·have h1:=hps2 i x hx
   rw [Nat.zero_add,M2.rs1 i] at h1
   rw [(M2.pars i).2]
   exact R'.parρ i x h1 hm
  ·obtain ⟨q0,y0,h1,h2⟩:=M2.foot q y b (hout q y hq) hb
   exact R'.foot q0 y0 b h1 h2
 cases e with
 |exit _=>simp at hc
 |normal=>exact hfin hc
 |ret=>exact hfin hc
end
end Go.Abs
namespace Go.Abs
def agx:K→List Value→Option (List Value)
 |.int ik,.int k n::l=>bif decide (k=ik)&&decide (n=0) then some l else none
 |.bool,.bool false::l=>some l
 |.str,.string ⟨⟨[]⟩⟩::l=>some l
 |.ptr,.pointer none::l=>some l
 |.fn,.nilFunc::l=>some l
 |.sl _,.slice none 0 0::l=>some l
 |.unit,l=>some l
 |.pair a b,l=>match agx a l with
  |some l=>agx b l
  |none=>none
 |_,_=>none
theorem ao2:∀{k:K}{l l':List Value},agx k l=some l'→l=k.zeroCells++l':=by
 intro k
 induction k with
 |pair a b iha ihb=>
  intro l l' h
  simp only [agx] at h
  split at h
  ·rename_i m hm
   rw [iha hm,ihb h];simp [K.zeroCells]
  ·cases h
 |int ik=>
  intro l l' h
  unfold agx at h
  split at h<;>first|(cases h;done)|skip
  all_goals try (rename_i heq;cases heq)
  cases hc:(decide (_=ik)&&decide (_=(0:Int))) with
  |false=>rw [hc] at h;cases h
  |true=>
   rw [hc] at h
   simp only [cond_true,Option.some.injEq] at h
   simp only [Bool.and_eq_true,decide_eq_true_eq] at hc
   obtain ⟨rfl,rfl⟩:=hc
   subst h
   rfl
 |unit=>intro l l' h;cases h;rfl
 |_=>
  intro l l' h
  unfold agx at h
  split at h<;>first|(cases h;done)|skip
  all_goals try (rename_i heq;cases heq)
  all_goals (cases h;first|rfl|simp [K.zeroCells])
def fieldsB(P:Program):List Field→K→Nat→Bool
 |[],.unit,_=>true
 |f::fs,.pair a b,off=>Nat.beq f.offset off&&!Nat.beq a.size 0&&(match P.info? f.type with
  |some i=>Nat.beq i.size a.size&&decide (aks P f.type=some a.isAgg)
  |none=>false)&&fieldsB P fs b (off+a.size)
 |_,_,_=>false
theorem XI{P:Program}:∀(fs:List Field){k:K}{off:Nat},fieldsB P fs k off=true→vF P fs k off:=by
 intro fs
 induction fs with
 |nil=>intro k off h;cases k<;>first|trivial|cases h
 |cons f fs ih=>
  intro k off h
  cases k<;>first|(cases h;done)|skip
  rename_i a b
  simp only [fieldsB,Bool.and_eq_true,Bool.not_eq_true'] at h
  obtain ⟨⟨⟨h1,h2⟩,h3⟩,h4⟩:=h
  refine ⟨Nat.eq_of_beq_eq_true h1,(fun h0=>by rw [h0] at h2;cases h2),?_,ih h4⟩
  split at h3
  ·rename_i i hi;simp only [Bool.and_eq_true,decide_eq_true_eq] at h3;exact ⟨i,hi,Nat.eq_of_beq_eq_true h3.1,h3.2⟩
  ·cases h3
def asC(P:Program)(V:Env)(ti:TI)(d:TypeDesc):Bool:=
 match ti.k,d with
 |.int ik,.int k=>decide (k=ik)
 |.bool,.bool=>true
 |.str,.string=>true
 |.ptr,.pointer _=>true
 |.fn,.func ..=>true
 |.sl e,.slice t=>Nat.beq t ti.elem&&(match V.ti ti.elem with
  |some te=>decide (te.k=e)&&!Nat.beq te.k.size 0
  |none=>false)
 |.unit,.struct fs=>fieldsB P fs.toList .unit 0
 |.pair a b,.struct fs=>fieldsB P fs.toList (.pair a b) 0
 |_,_=>false
theorem anv{P:Program}{V:Env}{ti:TI}{d:TypeDesc}(h:asC P V ti d=true):DOK P V ti d:=by
 unfold asC at h
 unfold DOK
 cases hk:ti.k<;>simp only [hk] at h ⊢ <;> cases d<;>simp only [] at h<;>first|(cases h;done)|skip
 ·rw [of_decide_eq_true h]
 ·rfl
 ·rfl
 ·exact ⟨_,rfl⟩
 ·exact ⟨_,_,_,rfl⟩
 ·simp only [Bool.and_eq_true] at h
  obtain ⟨h1,h2⟩:=h
  refine ⟨by rw [Nat.eq_of_beq_eq_true h1],?_⟩
  split at h2
  ·rename_i te hte
   simp only [Bool.and_eq_true,decide_eq_true_eq,Bool.not_eq_true'] at h2
   exact ⟨te,hte,h2.1,(fun h0=>by rw [h0] at h2;cases h2.2)⟩
  ·cases h2
 ·exact ⟨_,rfl,XI _ h⟩
 ·exact ⟨_,rfl,XI _ h⟩
def auU(P:Program):List Field→K→Nat→Bool
 |[],.unit,_=>true
 |f::fs,.pair (.int k) b,off=>!(f.name =="_")&&Nat.beq f.offset off&&(match P.underlying f.type with
  |some (.int k')=>decide (k'=k)
  |_=>false)&&auU P fs b (off+1)
 |_,_,_=>false
theorem aqE{P:Program}:∀(fs:List Field){k:K}{off:Nat},auU P fs k off=true→EqF P fs k off:=by
 intro fs
 induction fs with
 |nil=>intro k off h;cases k<;>first|trivial|cases h
 |cons f fs ih=>
  intro k off h
  cases k<;>first|(cases h;done)|skip
  rename_i a b
  cases a<;>first|(cases h;done)|skip
  simp only [auU,Bool.and_eq_true,Bool.not_eq_true'] at h
  obtain ⟨⟨⟨h1,h2⟩,h3⟩,h4⟩:=h
  refine ⟨by simpa using h1,Nat.eq_of_beq_eq_true h2,?_,ih h4⟩
  split at h3
  ·rename_i k' hk';rw [hk',of_decide_eq_true h3]
  ·cases h3
def eqB(P:Program)(T:Nat)(k:K):Bool:=!k.ints||((match P.underlying T with
 |some (.struct fs)=>auU P fs.toList k 0
 |_=>false)&&!P.stoodInHeld T&&!P.eqGuardType P.depth T)
theorem asU{P:Program}{T:Nat}{k:K}(h:eqB P T k=true)(hk:k.ints=true):aw3 P T k:=by
 unfold eqB at h
 rw [hk,Bool.not_true,Bool.false_or] at h
 simp only [Bool.and_eq_true,Bool.not_eq_true'] at h
 obtain ⟨⟨h1,h2⟩,h3⟩:=h
 refine ⟨?_,h2,h3⟩
 split at h1
 ·rename_i fs hfs;exact ⟨fs,hfs,aqE _ h1⟩
 ·cases h1
def tyB(P:Program)(V:Env)(T:Nat)(ti:TI):Bool:=
 match P.info? T,P.underlying T with
 |some i,some d=>Nat.beq i.size ti.k.size&&Nat.beq i.bytes ti.bytes&&(match i.zero with
  |some z=>(match agx ti.k z.cells.toList with
   |some []=>true
   |_=>false)
  |none=>false)&&asC P V ti d&&eqB P T ti.k
 |_,_=>false
theorem auu{P:Program}{V:Env}{T:Nat}{ti:TI}(h:tyB P V T ti=true):adZ P V T ti:=by
 unfold tyB at h
 split at h
 ·rename_i i d hi hd
  simp only [Bool.and_eq_true] at h
  obtain ⟨⟨⟨⟨h1,h2⟩,h3⟩,h4⟩,h5⟩:=h
  split at h3
  ·rename_i z hz
   split at h3
   ·rename_i hz2
    have:=ao2 hz2
    rw [List.append_nil] at this
    exact ⟨⟨i,z,hi,Nat.eq_of_beq_eq_true h1,Nat.eq_of_beq_eq_true h2,hz,this⟩,⟨d,hd,anv h4⟩,asU h5⟩
   ·cases h3
  ·cases h3
 ·cases h
def akj(P:Program)(V:Env):List (Nat×TI)→Bool
 |[]=>true
 | (t,ti)::l=>tyB P V t ti&&akj P V l
theorem anh{α:Type}{t:Nat}{x:α}:∀(l:List (Nat×α)),ig t l=some x→(t,x)∈l:=by
 intro l
 induction l with
 |nil=>intro h;cases h
 |cons y l ih=>
  intro h
  obtain ⟨t',y⟩:=y
  simp only [ig] at h
  by_cases ht:t=t'
  ·rw [beq_iff.2 ht] at h
   simp only [cond_true,Option.some.injEq] at h
   subst h;subst ht;simp
  ·rw [iq ht] at h
   exact List.mem_cons_of_mem _ (ih h)
theorem ar8{P:Program}{V:Env}:∀(l:List (Nat×TI)),akj P V l=true→∀t ti,(t,ti)∈l→adZ P V t ti:=by
 intro l
 induction l with
 |nil=>intro _ t ti h;cases h
 |cons x l ih=>
  intro h t ti hm
  obtain ⟨t0,ti0⟩:=x
  simp only [akj,Bool.and_eq_true] at h
  rcases List.mem_cons.1 hm with he|hm
  ·cases he;exact auu h.1
  ·exact ih h.2 t ti hm
theorem auw{P:Program}{V:Env}(h:akj P V V.τ=true)(hm:P.follows .mixedOrders=true):gZ P V:=
 ⟨fun _ _ hti=>ar8 _ h _ _ (anh _ hti),hm⟩
theorem av5{P:Program}{τ:List (Nat×TI)}{E E':List (Nat×Ctr)}{Z Z':List (Nat×List Frz)}{t:Nat}{ti:TI}(h:tyB P ⟨τ,E,Z⟩ t ti=true):tyB P ⟨τ,E',Z'⟩ t ti=true:=h
theorem auv{P:Program}{τ:List (Nat×TI)}{E:List (Nat×Ctr)}{Z:List (Nat×List Frz)}(h:akj P ⟨τ,[],[]⟩ τ=true):akj P ⟨τ,E,Z⟩ τ=true:=by
 have key:∀l,akj P ⟨τ,[],[]⟩ l=true→akj P ⟨τ,E,Z⟩ l=true:=by
  intro l
  induction l with
  |nil=>intro _;rfl
  |cons x l ih=>
   intro h
   obtain ⟨t,ti⟩:=x
   simp only [akj,Bool.and_eq_true] at h ⊢
   exact ⟨av5 h.1,ih h.2⟩
 exact key τ h
theorem aJ{P:Program}{Γ:Glb}{τ:List (Nat×TI)}{Z:List (Nat×List Frz)}:ahB P Γ ⟨τ,[],Z⟩:=fun f q h=>by cases h
theorem ak{P:Program}{Γ:Glb}{τ:List (Nat×TI)}{E:List (Nat×Ctr)}{Z:List (Nat×List Frz)}{f:Nat}{q:Ctr}(h:Contract P Γ f q)(he:Enters P f)(hE:ahB P Γ ⟨τ,E,Z⟩):ahB P Γ ⟨τ,(f,q)::E,Z⟩:=by
 intro g q' hg
 simp only [Env.ctr,ig] at hg
 by_cases hfg:g=f
 ·rw [beq_iff.2 hfg] at hg
  simp only [cond_true,Option.some.injEq] at hg
  subst hg;subst hfg;exact ⟨h,he⟩
 ·rw [iq hfg] at hg
  exact hE g q' hg
theorem Contract.weaken{P:Program}{Γ:Glb}{f:FuncId}{q q':Ctr}(h:Contract P Γ f q)(hq:∀ci co,(q'.G ci).run some=some co→(q.G ci).run some=some co)(hs:q'.soft=false:=by rfl):Contract P Γ f q':=
 fun w C ci co vals h1 h2 h3 h4 hg h5=>(h w C ci co vals h1 h2 h3 h4 hg (hq ci co h5)).mono fun e w' k=>by
  cases e with
  |returned v=>obtain ⟨C',k,_⟩:=k;exact ⟨C',k,fun h=>by rw [hs] at h;cases h⟩
  |_=>exact k
end Go.Abs
namespace Go.Abs
open Go.ChangeShapes Go.WideShapes Go.RowKit
def K.wf:(k:K)→k.den→Prop
 |.int ik,n=>(Lit.int ik n).wf=true
 |.str,s=>s.size≤maxLen
 |.sl e,xs=>xs.length≤maxLen∧∀x∈xs,e.wf x
 |.pair a b,d=>a.wf d.1∧b.wf d.2
 |_,_=>True
def j6(P:Program):K→TypeId ⊕ (List Field×Nat)→Bool
 |.int ik,.inl T=>match P.underlying T with
  |some (.int k)=>decide (k=ik)
  |_=>false
 |.bool,.inl T=>match P.underlying T with
  |some .bool=>true
  |_=>false
 |.str,.inl T=>match P.underlying T with
  |some .string=>true
  |_=>false
 |.sl e,.inl T=>match P.underlying T with
  |some (.slice t)=>Nat.beq (P.cellsOf t) e.size&&Nat.blt 0 e.size&&j6 P e (.inl t)
  |_=>false
 |.pair a b,.inl T=>match P.underlying T with
  |some (.struct fs)=>Nat.beq (P.cellsOf T) (K.pair a b).size&&(match fs.toList with
   |f::l=>Nat.beq f.offset 0&&Nat.beq (P.cellsOf f.type) a.size&&j6 P a (.inl f.type)&&j6 P b (.inr (l,a.size))
   |[]=>false)
  |_=>false
 |.pair a b,.inr (f::l,off)=>Nat.beq f.offset off&&Nat.beq (P.cellsOf f.type) a.size&&j6 P a (.inl f.type)&&j6 P b (.inr (l,off+a.size))
 |.unit,.inr ([],_)=>true
 |_,_=>false
section
variable {P : Program} {w : World} {H : Type} {enc : TypeId × Value → H} {held : Bool} {θ : au → Nat} {S : BS}
theorem abK{a:Addr}{n:Nat}{cs:List Value}(h:w.cells? 0 a n=some cs)(hn:0<n):∃c T fz,w.heap[a.block]?=some (.cells c T fz)∧a.spot=none∧a.off+n≤c.size∧cs=sub c a.off n:=by
 obtain ⟨_,hl,hc⟩:=World.cells?_some h
 have h0:=hc 0 hn
 have e0:a.add 0=a:=by simp [Addr.add]
 rw [e0] at h0
 have hsome:∃v,cs[0]?=some v:=⟨cs[0]'(by omega),List.getElem?_eq_getElem _⟩
 obtain ⟨v0,hv0⟩:=hsome
 rw [hv0] at h0
 unfold World.cell? at h0
 split at h0
 case h_2=>cases h0
 case h_1 c T fz hb=>
 split at h0
 ·cases h0
 ·rename_i hs
  have hs:a.spot=none:=by cases hh:a.spot with
   |none=>rfl
   |some x=>rw [hh] at hs;exact absurd rfl hs
  have hget:∀i,i<n→c[a.off+i]?=cs[i]?:=by
   intro i hi
   have:=hc i hi
   rw [←this]
   unfold World.cell?
   have hblk:(a.add i).block=a.block:=by unfold Addr.add;split<;>rfl
   have hsp:(a.add i).spot=none:=by unfold Addr.add;split<;>first|exact hs|rfl
   have hoff:(a.add i).off=a.off+i:=by unfold Addr.add;split<;>simp_all
   rw [hblk,hb]
   simp only [hsp,hoff,Option.isSome_none,Bool.false_eq_true,if_false]
  have hsize:a.off+n≤c.size:=by
   have:=hget (n-1) (by omega)
   rw [List.getElem?_eq_getElem (by omega)] at this
   have:=(Array.getElem?_eq_some_iff.1 this).1
   omega
  refine ⟨c,T,fz,hb,hs,hsize,?_⟩
  apply List.ext_getElem?
  intro i
  by_cases hi:i<n
  ·rw [←hget i hi]
   unfold sub
   rw [List.getElem?_take_of_lt hi,List.getElem?_drop,Array.getElem?_toList]
  ·rw [List.getElem?_eq_none (by omega),List.getElem?_eq_none (by rw [qw hsize];omega)]
theorem aus:∀(k:K),
  (∀(T:TypeId)(n:Nat)(cs:List Value)(x:DataW H×List MemPlace),j6 P k (.inl T)=true→DataW.trod enc P w 0 (fun _=>true) held n T cs=some x →
   ∃d:k.den,Enc w θ (fun b=>b<w.heap.size) S k (.imm true) d cs noB∧k.wf d) ∧
  (∀(fs:List Field)(off n:Nat)(cs:List Value),j6 P k (.inr (fs,off))=true→cs.length=off+k.size →
   (∀f∈fs,∃x,DataW.trod enc P w 0 (fun _=>true) held n f.type ((cs.drop f.offset).take (P.cellsOf f.type))=some x) →
   ∃d:k.den,Enc w θ (fun b=>b<w.heap.size) S k (.imm true) d (cs.drop off) noB∧k.wf d):=by
 intro k
 induction k with
 |int ik=>
  refine ⟨fun T n cs x h ht=>?_,fun fs off n cs h=>by simp [j6] at h⟩
  simp only [j6] at h
  split at h
  ·rename_i k hu
   have:=of_decide_eq_true h
   subst this
   obtain ⟨n,rfl,_,hw⟩:=DataW.trod_int hu ht
   exact ⟨n,rfl,hw⟩
  ·cases h
 |bool=>
  refine ⟨fun T n cs x h ht=>?_,fun fs off n cs h=>by simp [j6] at h⟩
  simp only [j6] at h
  split at h
  ·rename_i hu
   obtain ⟨b,rfl,_⟩:=DataW.trod_bool hu ht
   exact ⟨b,rfl,trivial⟩
  ·cases h
 |str=>
  refine ⟨fun T n cs x h ht=>?_,fun fs off n cs h=>by simp [j6] at h⟩
  simp only [j6] at h
  split at h
  ·rename_i hu
   obtain ⟨s,rfl,_,hw⟩:=DataW.trod_string hu ht
   exact ⟨s,rfl,hw⟩
  ·cases h
 |ptr=>exact ⟨fun T n cs x h=>by simp [j6] at h,fun fs off n cs h=>by simp [j6] at h⟩
 |fn=>exact ⟨fun T n cs x h=>by simp [j6] at h,fun fs off n cs h=>by simp [j6] at h⟩
 |unit=>
  refine ⟨fun T n cs x h=>by simp [j6] at h,fun fs off n cs h hl _=>?_⟩
  refine ⟨(),?_,trivial⟩
  show cs.drop off=[]
  have:cs.length=off:=hl
  exact List.drop_eq_nil_of_le (by omega)
 |sl e ih=>
  refine ⟨fun T n cs x h ht=>?_,fun fs off n cs h=>by simp [j6] at h⟩
  simp only [j6] at h
  split at h
  case h_2=>cases h
  case h_1 t hu=>
  simp only [Bool.and_eq_true] at h
  obtain ⟨⟨h1,h2⟩,h3⟩:=h
  have h1:=Nat.eq_of_beq_eq_true h1
  have h2:0<e.size:=Nat.le_of_ble_eq_true h2
  rcases DataW.trod_slice hu ht with ⟨rfl,_⟩|⟨a,len,cap,elems,rest,m,rfl,rfl,_,_,hlc,hcm,hel,helem,hsp,_⟩
  ·exact ⟨[],.inr (.inl ⟨by simp,rfl,none,rfl⟩),by show (0:Nat)≤maxLen;unfold maxLen;omega,by simp⟩
  ·obtain ⟨hrl,hrest⟩:=hsp rfl
   by_cases hc0:cap=0
   ·have hl0:len=0:=by omega
    subst hc0;subst hl0
    exact ⟨[],.inr (.inl ⟨by simp,rfl,some a,rfl⟩),by show (0:Nat)≤maxLen;unfold maxLen;omega,by simp⟩
   ·-- every cell up to the capacity
    have hall:∀i,i<cap→∃cs' x',w.cells? 0 (a.add (i*e.size)) e.size=some cs'∧DataW.trod enc P w 0 (fun _=>true) held m t cs'=some x':=by
     intro i hi
     have key:∃x',(w.cells? 0 (a.add (i*P.cellsOf t)) (P.cellsOf t)).bind (DataW.trod enc P w 0 (fun _=>true) held m t)=some x':=by
      by_cases hil:i<len
      ·rw [helem i hil]
       exact ⟨elems[i]'(by omega),List.getElem?_eq_getElem _⟩
      ·have:=hrest (i-len) (by omega)
       rw [show len+(i-len)=i by omega] at this
       rw [this]
       exact ⟨rest[i-len]'(by omega),List.getElem?_eq_getElem _⟩
     obtain ⟨x',hx'⟩:=key
     rw [h1] at hx'
     cases hcs:w.cells? 0 (a.add (i*e.size)) e.size with
     |none=>rw [hcs] at hx';cases hx'
     |some cs'=>rw [hcs] at hx';exact ⟨cs',x',rfl,hx'⟩
    have hblk:∀i,(a.add i).block=a.block:=fun i=>by unfold Addr.add;split<;>rfl
    obtain ⟨cs0,x0,hc0',_⟩:=hall 0 (by omega)
    rw [Nat.zero_mul,show a.add 0=a by simp [Addr.add]] at hc0'
    obtain ⟨c,U,fz,hb,hspot,_,_⟩:=abK hc0' h2
    have hoff:∀i,(a.add i).off=a.off+i:=fun i=>by unfold Addr.add;split<;>simp_all
    have hcell:∀i,i<cap→a.off+i*e.size+e.size≤c.size∧∃x',DataW.trod enc P w 0 (fun _=>true) held m t (sub c (a.off+i*e.size) e.size)=some x':=by
     intro i hi
     obtain ⟨cs',x',g1,g2⟩:=hall i hi
     obtain ⟨c',U',fz',hb',_,hs',rfl⟩:=abK g1 h2
     rw [hblk,hb] at hb'
     cases hb'
     rw [hoff] at hs' g2
     exact ⟨hs',x',g2⟩
    have hd:∀i,i<len→∃d:e.den,Enc w θ (fun b=>b<w.heap.size) S e (.imm true) d (sub c (a.off+i*e.size) e.size) noB∧e.wf d:=by
     intro i hi
     obtain ⟨_,x',hx'⟩:=hcell i (by omega)
     exact ih.1 t m _ x' h3 hx'
    have hlist:∃ds:List e.den,ds.length=len∧∀i d,ds[i]?=some d→Enc w θ (fun b=>b<w.heap.size) S e (.imm true) d (sub c (a.off+i*e.size) e.size) noB∧e.wf d:=by
     refine ⟨List.ofFn fun i:Fin len=>(hd i.1 i.2).choose,by simp,fun i d hi=>?_⟩
     rw [List.getElem?_ofFn] at hi
     split at hi
     ·rename_i hil
      cases hi
      exact (hd i hil).choose_spec
     ·cases hi
    obtain ⟨ds,hdl,hds⟩:=hlist
    have hlast:=(hcell (cap-1) (by omega)).1
    refine ⟨ds,.inr (.inr ⟨by simp,a.block,a.off,cap,c,U,fz,?_,hb,by omega,?_,.inl (by have:=(Array.getElem?_eq_some_iff.1 hb).1;exact this),fun _=>noB,fun i=>⟨fun _ h=>h.elim,fun h=>h⟩,fun _ _ _ _ h=>h.elim,fun i d hi=>(hds i d hi).1⟩),by show ds.length≤maxLen;omega,fun d hd'=>?_⟩
    ·rw [hdl]
     obtain ⟨ab,ao,asp⟩:=a
     simp only at hspot
     subst hspot
     rfl
    ·have:cap=(cap-1)+1:=by omega
     rw [this,Nat.add_mul,Nat.one_mul]
     omega
    ·obtain ⟨i,hi⟩:=List.mem_iff_getElem?.1 hd'
     exact (hds i d hi).2
 |pair a b iha ihb=>
  have tail:∀(f:Field)(l:List Field)(off n:Nat)(cs:List Value),f.offset=off→P.cellsOf f.type=a.size→j6 P a (.inl f.type)=true→j6 P b (.inr (l,off+a.size))=true→cs.length=off+(a.size+b.size) →
    (∀g∈f::l,∃x,DataW.trod enc P w 0 (fun _=>true) held n g.type ((cs.drop g.offset).take (P.cellsOf g.type))=some x) →
    ∃d:(K.pair a b).den,Enc w θ (fun b=>b<w.heap.size) S (.pair a b) (.imm true) d (cs.drop off) noB∧(K.pair a b).wf d:=by
   intro f l off n cs h1 h2 h3 h4 hl hf
   obtain ⟨x,hx⟩:=hf f (by simp)
   rw [h1,h2] at hx
   obtain ⟨d1,e1,w1⟩:=iha.1 _ _ _ _ h3 hx
   obtain ⟨d2,e2,w2⟩:=ihb.2 l (off+a.size) n cs h4 (by omega) (fun g hg=>hf g (by simp [hg]))
   refine ⟨(d1,d2),⟨(cs.drop off).take a.size,(cs.drop off).drop a.size,noB,noB,(List.take_append_drop _ _).symm,fun _ h=>h,fun _ h=>h,fun _ h=>h.elim,e1,?_⟩,w1,w2⟩
   rw [List.drop_drop]
   exact e2
  refine ⟨fun T n cs x h ht=>?_,fun fs off n cs h hl hf=>?_⟩
  ·simp only [j6] at h
   split at h
   case h_2=>cases h
   case h_1 fs hu=>
   simp only [Bool.and_eq_true] at h
   obtain ⟨h1,h2⟩:=h
   have h1:=Nat.eq_of_beq_eq_true h1
   split at h2
   case h_2=>cases h2
   case h_1 f l hfl=>
   simp only [Bool.and_eq_true] at h2
   obtain ⟨⟨⟨g1,g2⟩,g3⟩,g4⟩:=h2
   obtain ⟨xs,m,rfl,_,hcl,hxl,hall⟩:=DataW.trod_struct hu ht
   have:=tail f l 0 m cs (Nat.eq_of_beq_eq_true g1) (Nat.eq_of_beq_eq_true g2) g3 (by rw [Nat.zero_add];exact g4) (by rw [hcl,h1];simp [K.size]) (fun g hg=>?_)
   ·rw [List.drop_zero] at this
    exact this
   ·rw [←hfl] at hg
    obtain ⟨i,hi⟩:=List.mem_iff_getElem?.1 hg
    rw [Array.getElem?_toList] at hi
    have hlt:=(Array.getElem?_eq_some_iff.1 hi).1
    rw [hall i g hi]
    exact ⟨xs[i]'(by omega),List.getElem?_eq_getElem _⟩
  ·cases fs with
   |nil=>simp [j6] at h
   |cons f l=>
    simp only [j6,Bool.and_eq_true] at h
    obtain ⟨⟨⟨g1,g2⟩,g3⟩,g4⟩:=h
    exact tail f l off n cs (Nat.eq_of_beq_eq_true g1) (Nat.eq_of_beq_eq_true g2) g3 g4 (by rw [hl];simp [K.size]) hf
end
abbrev Args:List K→Type
 |[]=>Unit
 |k::l=>k.den×Args l
def avs:(l:List K)→Args l→List AV
 |[],_=>[]
 |k::l,d=>.imm true k d.1::avs l d.2
def wfs:(l:List K)→Args l→Prop
 |[],_=>True
 |k::l,d=>k.wf d.1∧wfs l d.2
theorem ani:∀(l:List K)(d:Args l),(avs l d).length=l.length:=by
 intro l
 induction l with
 |nil=>intro d;rfl
 |cons k l ih=>intro d;simp only [avs,List.length_cons,ih]
section
variable {P : Program} {H : Type} {enc : TypeId × Value → H}
def afC(P:Program)(x:TypeId×K):Bool:=j6 P x.2 (.inl x.1)&&x.2.plain&&P.readableRec x.1&&decide (x.1<P.types.size)
theorem ar7{W:World}{C:Ctx}{rs:RF}(hZ:C.Z=fun b=>b<W.heap.size){base:Nat}{k:K}{T:TypeId}{v:Value}{d:DataW H}{p:List MemPlace}(hr:j6 P k (.inl T)=true)(hp:k.plain=true)(hok:Value.okWide P W .any base T v)
  (h:DataW.Trod enc P W 0 (fun _=>true) true T v d p):∃dd:k.den,bK W C rs v (.imm true k dd)∧k.wf dd:=by
 obtain ⟨n,hn⟩:=h
 obtain ⟨dd,he,hw⟩:=(aus (θ:=C.θ) (S:=C.S) k).1 T n _ _ hr hn
 refine ⟨dd,?_,hw⟩
 rw [←hZ] at he
 cases k with
 |pair a b=>
  simp only [j6] at hr
  split at hr
  case h_2=>cases hr
  case h_1 fs hu=>
  simp only [Value.okWide,hu] at hok
  obtain ⟨cs,rfl,_⟩:=hok
  exact .inl (.inr (.inl ⟨rfl,cs.toList,by simp,hp,he⟩))
 |unit=>simp [j6] at hr
 |ptr=>simp [j6] at hr
 |fn=>simp [j6] at hr
 |int ik=>
  have hv:∃n,v=.int ik n:=by
   simp only [j6] at hr
   split at hr
   ·rename_i k hu;have:=of_decide_eq_true hr;subst this;exact okWide_int hu hok
   ·cases hr
  obtain ⟨n,rfl⟩:=hv
  exact .inl (.inr (.inr ⟨rfl,⟨hp,by simpa [Value.cells] using he⟩,rfl⟩))
 |bool=>
  have hv:∃n,v=.bool n:=by
   simp only [j6] at hr
   split at hr
   ·rename_i hu;exact okWide_bool hu hok
   ·cases hr
  obtain ⟨n,rfl⟩:=hv
  exact .inl (.inr (.inr ⟨rfl,⟨hp,by simpa [Value.cells] using he⟩,rfl⟩))
 |str=>
  have hv:∃n,v=.string n:=by
   simp only [j6] at hr
   split at hr
   ·rename_i hu;exact okWide_string hu hok
   ·cases hr
  obtain ⟨n,rfl⟩:=hv
  exact .inl (.inr (.inr ⟨rfl,⟨hp,by simpa [Value.cells] using he⟩,rfl⟩))
 |sl e=>
  have hv:∃a l c,v=.slice a l c:=by
   simp only [j6] at hr
   split at hr
   ·rename_i hu;exact okWide_slice hu hok
   ·cases hr
  obtain ⟨a,l,c,rfl⟩:=hv
  exact .inl (.inr (.inr ⟨rfl,⟨hp,by simpa [Value.cells] using he⟩,rfl⟩))
theorem trodAll_back(laid:laidOutB P=true){W W':World}(hb:Below W.heap.size W W'):∀(ks:List (TypeId×K)),ks.all (afC P)=true→∀{vs:List Value}{ds:List (DataW H)}{p:List MemPlace},(∀x∈p,x.block<W.heap.size) →
  DataW.TrodAll enc P W 0 (fun _=>true) true (ks.map (·.1)) vs ds p→DataW.TrodAll enc P W' 0 (fun b=>decide (b<W.heap.size)) true (ks.map (·.1)) vs ds p∧ds.length=ks.length:=by
 intro ks
 induction ks with
 |nil=>intro _ vs ds p _ h;obtain ⟨rfl,rfl,rfl⟩:=trodAll_nil h;exact ⟨rfl,rfl⟩
 |cons x ks ih=>
  intro hk vs ds p hlt h
  rw [List.all_cons,Bool.and_eq_true] at hk
  obtain ⟨v,vs',d,ds',p1,q1,rfl,rfl,rfl,h1,h2⟩:=trodAll_cons h
  have hx:=hk.1
  simp only [afC,Bool.and_eq_true,decide_eq_true_eq] at hx
  obtain ⟨g1,g2⟩:=ih hk.2 (fun y hy=>hlt y (by simp [hy])) h2
  exact ⟨⟨p1,q1,Below.trod laid hx.1.2 hx.2 h1 hb (fun y hy=>hlt y (by simp [hy])),g1,rfl⟩,by simp [g2]⟩
theorem aki{W:World}{C:Ctx}{rs:RF}(hZ:C.Z=fun b=>b<W.heap.size){base:Nat}:∀(ks:List (TypeId×K)),ks.all (afC P)=true→∀{vs:List Value}{ds:List (DataW H)}{p:List MemPlace},
  (∀(j:Nat) t v,(ks.map (·.1))[j]?=some t→vs[j]?=some v→Value.okWide P W .any base t v)→DataW.TrodAll enc P W 0 (fun _=>true) true (ks.map (·.1)) vs ds p →
  vs.length=ks.length∧∃dd:Args (ks.map (·.2)),wfs _ dd∧∀(i:Nat)(v:Value)(a:AV),vs[i]?=some v→(avs _ dd)[i]?=some a→bK W C rs v a:=by
 intro ks
 induction ks with
 |nil=>
  intro _ vs ds p _ h
  obtain ⟨rfl,rfl,rfl⟩:=trodAll_nil h
  exact ⟨rfl,(),trivial,fun i v a h=>by simp at h⟩
 |cons x ks ih=>
  intro hk vs ds p hok h
  rw [List.all_cons,Bool.and_eq_true] at hk
  obtain ⟨v,vs',d,ds',p1,q1,rfl,rfl,rfl,h1,h2⟩:=trodAll_cons h
  have hx:=hk.1
  simp only [afC,Bool.and_eq_true,decide_eq_true_eq] at hx
  obtain ⟨g1,dd,g2,g3⟩:=ih hk.2 (fun j t v ht hv=>hok (j+1) t v (by simpa using ht) (by simpa using hv)) h2
  obtain ⟨d0,e1,e2⟩:=ar7 (rs:=rs) hZ hx.1.1.1 hx.1.1.2 (hok 0 x.1 v rfl rfl) h1
  refine ⟨by simp [g1],(d0,dd),⟨e2,g2⟩,fun i v' a hv ha=>?_⟩
  cases i with
  |zero=>
   simp only [List.getElem?_cons_zero,Option.some.injEq] at hv
   subst hv
   have ha:some (AV.imm true x.2 d0)=some a:=ha
   cases ha
   exact e1
  |succ i=>exact g3 i v' a (by simpa using hv) ha
theorem arK{Γ:Glb}{f:FuncId}{fn:Func}{rw:List Nat}{G:VF→Tre ay}{sf:Bool}(hc:Contract P Γ f ⟨rw,G,sf⟩)(laid:laidOutB P=true)(ks:List (TypeId×K))(hp:fn.params.toList=ks.map (·.1))(hk:ks.all (afC P)=true){rt:TypeId}
  (hr:fn.resultTypes = #[rt]) (hrt:P.underlying rt=some .bool) {s:ChangeSpec} (hv:s.vars=[]) (hs:∀ds:List (DataW H),ds.length=ks.length→s.fn H ds=⟨[.lit (.bool true)],ds,[]⟩)
  (hG:∀dd:Args (ks.map (·.2)),wfs _ dd→∃z,(G ⟨avs _ dd,[]⟩).run some=some ⟨.imm z .bool true,[],[]⟩) {W:World} {base:Nat} {args:Array Value} {ds gs:List (DataW H)} {before:List MemPlace}
  (hok:∀(j:Nat) t v,fn.params[j]?=some t→args[j]?=some v→Value.okWide P W .any base t v) (hW:DataW.Whole enc P fn.params.toList s.vars false W args.toList ds gs before) (hg0:(∀b∈Γ.blocks,b<W.heap.size)∧Γ.holds W) :
  Calls P f args W fun e W'=>∃v,e=.returned v∧s.post enc P fn false true false false W args v W':=by
 have hW':=hW
 obtain ⟨p,q,hA,hV,rfl,hfz,hnd⟩:=hW
 rw [hv] at hV
 obtain ⟨rfl,rfl⟩:=trodVars_none hV
 rw [hp] at hA
 have hlt:∀x∈p,x.block<W.heap.size:=fun x hx=>hW'.lt x (by simp [hx])
 have C0:Ctx:=⟨fun _=>0,fun _=>[],fun _=>noB,fun b=>b<W.heap.size,noB⟩
 have hok':∀(j:Nat) t v,(ks.map (·.1))[j]?=some t→args.toList[j]?=some v→Value.okWide P W .any base t v:=fun j t v ht hv=>hok j t v (by rw [←hp] at ht;rw [←Array.getElem?_toList];exact ht) (by rw [←Array.getElem?_toList];exact hv)
 obtain ⟨hlen,dd,hwf,hval⟩:=aki (C:=⟨fun _=>0,fun _=>[],fun _=>noB,fun b=>b<W.heap.size,noB⟩) (rs:=Y3 []) rfl ks hk hok' hA
 obtain ⟨z,hg⟩:=hG dd hwf
 refine (hc W ⟨fun _=>0,fun _=>[],fun _=>noB,fun b=>b<W.heap.size,noB⟩ ⟨avs _ dd,[]⟩ _ args ?_ (by simp) (by rw [ani,List.length_map,←hlen,Array.length_toList]) (fun i v a hv ha=>hval i v a (by rw [Array.getElem?_toList];exact hv) ha) hg0 hg).mono fun e W' he=>?_
 ·have hno:∀q:au,Y3 [] q=none:=by rintro ⟨q1,q2⟩;match q1 with
   |0=>simp [Y3]
   |q1+1=>rfl
  exact ⟨(fun q y h=>by rw [hno] at h;cases h),(fun q q' y y' h=>by rw [hno] at h;cases h),(fun q y b h=>by rw [hno] at h;cases h),(fun b h=>h.elim id fun h=>h.elim),(fun q y h=>by rw [hno] at h;cases h)⟩
 ·cases e with
  |returned v=>
   obtain ⟨C',hpost,_⟩:=he
   have hvb:=hpost.val.bool
   subst hvb
   have hb:Below W.heap.size W W':=⟨hpost.kept.os,hpost.kept.tape,hpost.kept.output,hpost.kept.size,fun b hb=>hpost.kept.block b hb (fun ⟨i,x,h,_⟩=>by simp at h)⟩
   obtain ⟨hback,hdl⟩:=trodAll_back laid hb ks hk hlt hA
   refine ⟨_,rfl,ds,[],p++[],[],p,[],hW',?_,?_,?_,hb.frame _,fun h=>by cases h⟩
   ·rw [List.append_nil,hs ds hdl,hr]
    exact trodAll_mk1 (shut_bool hrt _)
   ·rw [List.append_nil,hs ds hdl,hp]
    exact hback
   ·rw [List.append_nil,hs ds hdl,hv]
    rfl
  |_=>exact he.elim
end
end Go.Abs
namespace Go.Abs
section
variable {R R' : Type} {r : R'} {g : R → Option R'}
def bG(k:K)(a:AV)(c:Bool→k.den→Tre R):Tre R:=match a with
 |.imm z k' d=>if h:k'=k then c z (h ▸ d) else .fail
 |_=>.fail
theorem iV{k:K}{a:AV}{c:Bool→k.den→Tre R}(h:(bG k a c).run g=some r):∃z d,a=.imm z k d∧(c z d).run g=some r:=by
 unfold bG at h
 split at h
 ·split at h
  ·rename_i hk;subst hk;exact ⟨_,_,rfl,h⟩
  ·cases h
 ·cases h
def ad8(k:K)(a:AV)(c:Bool→k.den→Tre R):Tre R:=match a with
 |.iptr z k' d [.idx 0]=>if h:k'=.sl k then (match (h ▸ d:(K.sl k).den) with
   |[x]=>c z x
   |_=>.fail) else .fail
 |_=>.fail
theorem akz{k:K}{a:AV}{c:Bool→k.den→Tre R}(h:(ad8 k a c).run g=some r):∃z d,a=.iptr z (.sl k) [d] [.idx 0]∧(c z d).run g=some r:=by
 unfold ad8 at h
 split at h
 ·split at h
  ·rename_i hk;subst hk
   split at h
   ·rename_i x hx
    exact ⟨_,x,by rw [←hx],h⟩
   ·cases h
  ·cases h
 ·cases h
def aA(z0:Bool)(k:K)(a:AV)(c:k.den→Tre R):Tre R:=match a with
 |.imm z k' d=>if h:k'=k then (if z=z0 then c (h ▸ d) else .fail) else .fail
 |_=>.fail
theorem dJ{z0:Bool}{k:K}{a:AV}{c:k.den→Tre R}(h:(aA z0 k a c).run g=some r):∃d,a=.imm z0 k d∧(c d).run g=some r:=by
 unfold aA at h
 split at h
 ·split at h
  ·rename_i hk
   subst hk
   split at h
   ·rename_i hz;subst hz;exact ⟨_,rfl,h⟩
   ·cases h
  ·cases h
 ·cases h
def auI(e:K)(a:AV)(c:Bool→List e.den→Tre R):Tre R:=match a with
 |.nn z e' d=>if h:e'=e then c z (h ▸ d) else .fail
 |_=>.fail
theorem aqg{e:K}{a:AV}{c:Bool→List e.den→Tre R}(h:(auI e a c).run g=some r):∃z d,a=.nn z e d∧(c z d).run g=some r:=by
 unfold auI at h
 split at h
 ·split at h
  ·rename_i hk;subst hk;exact ⟨_,_,rfl,h⟩
  ·cases h
 ·cases h
def dW(q:au)(p:Path)(a:AV)(c:Tre R):Tre R:=match a with
 |.ref q' p'=>if q'=q∧p'=p then c else .fail
 |_=>.fail
theorem aea{q:au}{p:Path}{a:AV}{c:Tre R}(h:(dW q p a c).run g=some r):a=.ref q p∧c.run g=some r:=by
 unfold dW at h
 split at h
 ·split at h
  ·rename_i hk;obtain ⟨rfl,rfl⟩:=hk;exact ⟨rfl,h⟩
  ·cases h
 ·cases h
def firstIdx:Path→Nat
 |.idx n::_=>n
 |_::p=>firstIdx p
 |[]=>0
def apt:Path→Path→Bool
 |[],[]=>true
 |.fst::t,.fst::p=>apt t p
 |.snd::t,.snd::p=>apt t p
 |_,_=>false
def alO:Path→Path→Bool
 |.fst::t,.fst::p=>alO t p
 |.snd::t,.snd::p=>alO t p
 |.idx _::t,.idx _::p=>apt t p
 |_,_=>false
def apf:Path→Nat→Path
 |.idx _::t,n=>.idx n::t
 |s::t,n=>s::apf t n
 |[],_=>[]
theorem afo:∀(t p:Path),apt t p=true→p=t
 |[],[],_=>rfl
 |.fst::t,.fst::p,h=>by rw [afo t p h]
 |.snd::t,.snd::p,h=>by rw [afo t p h]
theorem afp:∀(t p:Path),alO t p=true→p=apf t (firstIdx p)
 |.fst::t,.fst::p,h=>congrArg (Step.fst::·) (afp t p h)
 |.snd::t,.snd::p,h=>congrArg (Step.snd::·) (afp t p h)
 |.idx _::t,.idx n::p,h=>congrArg (Step.idx n::·) (afo t p h)
def VJ(q:au)(t:Path)(a:AV)(c:Nat→Tre R):Tre R:=match a with
 |.ref r p=>bif req r q&&alO t p then c (firstIdx p) else .fail
 |_=>.fail
theorem akA{q:au}{t:Path}{a:AV}{c:Nat→Tre R}(h:(VJ q t a c).run g=some r):∃n,a=.ref q (apf t n)∧(c n).run g=some r:=by
 unfold VJ at h
 split at h
 case h_2=>cases h
 rename_i r' p'
 cases hk:(req r' q&&alO t p') with
 |false=>rw [hk] at h;cases h
 |true=>
  rw [hk] at h
  simp only [Bool.and_eq_true] at hk
  have hr:=cK.1 hk.1
  subst hr
  exact ⟨_,congrArg (AV.ref r') (afp t p' hk.2),h⟩
def asn(q:au)(p:Path)(a:AV)(c:Nat→Nat→Tre R):Tre R:=match a with
 |.slc q' p' lo n=>if q'=q∧p'=p then c lo n else .fail
 |_=>.fail
theorem anf{q:au}{p:Path}{a:AV}{c:Nat→Nat→Tre R}(h:(asn q p a c).run g=some r):∃lo n,a=.slc q p lo n∧(c lo n).run g=some r:=by
 unfold asn at h
 split at h
 ·split at h
  ·rename_i hk;obtain ⟨rfl,rfl⟩:=hk;exact ⟨_,_,rfl,h⟩
  ·cases h
 ·cases h
def dH(q:au)(p:Path)(a:AV)(c:Tre R):Tre R:=match a with
 |.ptr q' p'=>if q'=q∧p'=p then c else .fail
 |_=>.fail
theorem ad9{q:au}{p:Path}{a:AV}{c:Tre R}(h:(dH q p a c).run g=some r):a=.ptr q p∧c.run g=some r:=by
 unfold dH at h
 split at h
 ·split at h
  ·rename_i hk;obtain ⟨rfl,rfl⟩:=hk;exact ⟨rfl,h⟩
  ·cases h
 ·cases h
def Pv(f:Nat)(caps:List au)(a:AV)(c:Tre R):Tre R:=match a with
 |.fn f' caps'=>if f'=f∧caps'=caps then c else .fail
 |_=>.fail
theorem AA{f:Nat}{caps:List au}{a:AV}{c:Tre R}(h:(Pv f caps a c).run g=some r):a=.fn f caps∧c.run g=some r:=by
 unfold Pv at h
 split at h
 ·split at h
  ·rename_i hk;obtain ⟨rfl,rfl⟩:=hk;exact ⟨rfl,h⟩
  ·cases h
 ·cases h
def ao6(a:AV)(c:Tre R):Tre R:=match a with
 |.nil=>c
 |_=>.fail
theorem ane{a:AV}{c:Tre R}(h:(ao6 a c).run g=some r):a=.nil∧c.run g=some r:=by
 unfold ao6 at h
 split at h
 ·exact ⟨rfl,h⟩
 ·cases h
def aD{α:Type}(l:List α)(c:α→List α→Tre R):Tre R:=match l with
 |x::y=>c x y
 |_=>.fail
theorem abJ{α:Type}{l:List α}{c:α→List α→Tre R}(h:(aD l c).run g=some r):∃x y,l=x::y∧(c x y).run g=some r:=by
 unfold aD at h
 split at h
 ·exact ⟨_,_,rfl,h⟩
 ·cases h
def aM{α:Type}(l:List α)(c:Tre R):Tre R:=match l with
 |[]=>c
 |_=>.fail
theorem VI{α:Type}{l:List α}{c:Tre R}(h:(aM l c).run g=some r):l=[]∧c.run g=some r:=by
 unfold aM at h
 split at h
 ·exact ⟨rfl,h⟩
 ·cases h
def yx(mem:Bool)(k:K)(x:Root)(c:Mask→k.den→Tre R):Tre R:=
 if h:x.k=k then (bif Bool.beq x.mem mem then c x.m (h ▸ x.d) else .fail) else .fail
 where Bool.beq:Bool→Bool→Bool
 |true,b=>b
 |false,b=>!b
theorem ahH{mem:Bool}{k:K}{x:Root}{c:Mask→k.den→Tre R}(h:(yx mem k x c).run g=some r):∃m d,x=⟨mem,k,m,d⟩∧(c m d).run g=some r:=by
 obtain ⟨mem',k',m',d'⟩:=x
 unfold yx at h
 split at h
 ·rename_i hk
  have hk:k'=k:=hk
  subst hk
  cases mem'<;>cases mem<;>first|exact ⟨_,_,rfl,h⟩|cases h
 ·cases h
def aX(mem:Bool)(k:K)(o:Option Root)(c:Mask→k.den→Tre R):Tre R:=match o with
 |some x=>yx mem k x c
 |none=>.fail
theorem lT{mem:Bool}{k:K}{o:Option Root}{c:Mask→k.den→Tre R}(h:(aX mem k o c).run g=some r):∃m d,o=some ⟨mem,k,m,d⟩∧(c m d).run g=some r:=by
 unfold aX at h
 split at h
 ·obtain ⟨m,d,hx,h2⟩:=ahH h;exact ⟨m,d,by rw [hx],h2⟩
 ·cases h
def asM(m0 m:Mask)(c:Tre R):Tre R:=if m=m0 then c else .fail
theorem Ck{m0 m:Mask}{c:Tre R}(h:(asM m0 m c).run g=some r):m=m0∧c.run g=some r:=by
 unfold asM at h
 split at h
 ·exact ⟨‹_›,h⟩
 ·cases h
def fB(m:Mask)(c:Bool→Tre R):Tre R:=match m with
 |.imm z=>c z
 |_=>.fail
theorem QB{m:Mask}{c:Bool→Tre R}(h:(fB m c).run g=some r):∃z,m=.imm z∧(c z).run g=some r:=by
 unfold fB at h
 split at h
 ·exact ⟨_,rfl,h⟩
 ·cases h
end
section
variable {σ β : Type}
def runN (step:σ→Tre (σ ⊕ β)):Nat→σ→Option β
 |0,_=>none
 |n+1,x=>(step x).run fun
  |.inl y=>runN step n y
  |.inr b=>some b
theorem LJ(step:σ→Tre (σ ⊕ β))(n:Nat)(x:σ):runN step (n+1) x=((step x).run some).bind fun
  |.inl y=>runN step n y
  |.inr b=>some b:=Tre.run_bind _ _
theorem arM(step:σ→Tre (σ ⊕ β)):∀(n:Nat)(x:σ)(b:β),runN step n x=some b→runN step (n+1) x=some b:=by
 intro n
 induction n with
 |zero=>intro x b h;cases h
 |succ n ih=>
  intro x b h
  rw [LJ] at h ⊢
  cases hs:(step x).run some with
  |none=>rw [hs] at h;cases h
  |some y=>
   rw [hs] at h
   cases y with
   |inl y=>exact ih y b h
   |inr y=>exact h
theorem adR(step:σ→Tre (σ ⊕ β)){n m:Nat}(hnm:n≤m){x:σ}{b:β}(h:runN step n x=some b):runN step m x=some b:=by
 induction hnm with
 |refl=>exact h
 |step _ ih=>exact arM step _ _ _ ih
open Classical in
def aO (step:σ→Tre (σ ⊕ β)) (x:σ):Option β:=
 match runN step 1000000000000 x with
 |some b=>some b
 |none=>if h:∃b,∃n,runN step n x=some b then some (Classical.choose h) else none
theorem TN{step:σ→Tre (σ ⊕ β)}{x:σ}{b:β}:aO step x=some b ↔ ∃n,runN step n x=some b:=by
 unfold aO
 generalize hN:(1000000000000:Nat)=N
 cases hr:runN step N x with
 |some b'=>
  constructor
  ·intro h;cases h;exact ⟨N,hr⟩
  ·rintro ⟨n,hn⟩
   have h1:=adR step (Nat.le_max_left n N) hn
   have h2:=adR step (Nat.le_max_right n N) hr
   rw [h1] at h2
   exact h2.symm
 |none=>
  constructor
  ·intro h
   dsimp only at h
   split at h
   ·rename_i hx
    simp only [Option.some.injEq] at h
    rw [←h]
    exact Classical.choose_spec hx
   ·cases h
  ·rintro ⟨n,hn⟩
   have hx:∃b,∃n,runN step n x=some b:=⟨b,n,hn⟩
   dsimp only
   rw [dif_pos hx]
   obtain ⟨m,hm⟩:=Classical.choose_spec hx
   have h1:=adR step (Nat.le_max_left n m) hn
   have h2:=adR step (Nat.le_max_right n m) hm
   rw [h1] at h2
   exact h2.symm
theorem alS(step:σ→Tre (σ ⊕ β))(x:σ):aO step x=((step x).run some).bind fun
  |.inl y=>aO step y
  |.inr b=>some b:=by
 apply Option.ext
 intro b
 rw [TN]
 constructor
 ·rintro ⟨n,hn⟩
  cases n with
  |zero=>cases hn
  |succ n=>
   rw [LJ] at hn
   cases hs:(step x).run some with
   |none=>rw [hs] at hn;cases hn
   |some y=>
    rw [hs] at hn
    cases y with
    |inl y=>exact TN.2 ⟨n,hn⟩
    |inr y=>exact hn
 ·intro h
  cases hs:(step x).run some with
  |none=>rw [hs] at h;cases h
  |some y=>
   rw [hs] at h
   cases y with
   |inl y=>
    obtain ⟨n,hn⟩:=TN.1 h
    exact ⟨n+1,by rw [LJ,hs];exact hn⟩
   |inr y=>exact ⟨1,by rw [LJ,hs];exact h⟩
variable {V : Env} {A : List (Nat × bD)}
def cu(kp kx:Keep)(c:St→Option (Ex×St))(e:Ex)(s:St):Option (Ex×St):=match e with
 |.normal=>c (restrict kp s)
 |e=>some (e,restrict kx s)
def cB(mk:σ→St)(out:β→Ex×St)(c:St→Option (Ex×St)):σ ⊕ β→Option (Ex×St)
 |.inl y=>c (mk y)
 |.inr b=>some (out b)
theorem aq4{L:bD}{body:Code}{mk:σ→St}{out:β→Ex×St}{step:σ→Tre (σ ⊕ β)}
  (hstep:∀(x:σ)(c:St→Option (Ex×St)),den V A body (mk x) (cu L.kp L.kx c)=(step x).run (cB mk out c)):∀(n:Nat)(x:σ)(b:β),runN step n x=some b→iter L (fun s (c:Ex→St→Option (Ex×St))=>den V A body s c) n (mk x) (fun e s'=>some (e,s'))=some (out b):=by
 intro n
 induction n with
 |zero=>intro x b h;cases h
 |succ n ih=>
  intro x b h
  rw [LJ] at h
  have h1:=hstep x fun s=>iter L (fun s (c:Ex→St→Option (Ex×St))=>den V A body s c) n s (fun e s'=>some (e,s'))
  rw [Tre.run_bind] at h1
  refine Eq.trans (Eq.trans ?_ h1) ?_
  ·rfl
  cases hs:(step x).run some with
  |none=>rw [hs] at h;cases h
  |some y=>
   rw [hs] at h
   cases y with
   |inl y=>exact ih y b h
   |inr y=>cases h;rfl
def bX (T:List (Nat×AV)) (U:List (au×Option Root)):St:=⟨ZG T,Y2 U,Km (Y2 U) (U.map (·.1))⟩
def allT(tm:TF):List (Nat×AV)→Prop
 |[]=>True
 | (t,v)::l=>tm t=v∧allT tm l
def ash(rs:RF):List (au×Option Root)→Prop
 |[]=>True
 | (q,x)::l=>rs q=x∧ash rs l
theorem aup{tm:TF}:∀(l:List Nat)(t:Nat),t∈l→ZG (Vg tm l) t=tm t:=by
 intro l
 induction l with
 |nil=>intro t h;cases h
 |cons x l ih=>
  intro t h
  simp only [Vg,ZG]
  by_cases he:t=x
  ·rw [beq_iff.2 he];subst he;rfl
  ·rw [iq he]
   exact ih t ((List.mem_cons.1 h).resolve_left he)
theorem ami{rs:RF}:∀(l:List au)(q:au),q∈l→Y2 (keepR rs l) q=rs q:=by
 intro l
 induction l with
 |nil=>intro t h;cases h
 |cons x l ih=>
  intro t h
  simp only [keepR,Y2]
  by_cases he:t=x
  ·rw [cK.2 he];subst he;rfl
  ·rw [iw he]
   exact ih t ((List.mem_cons.1 h).resolve_left he)
theorem aq5{tm:TF}:∀(T:List (Nat×AV)),allT tm T→Vg tm (T.map (·.1))=T:=by
 intro T
 induction T with
 |nil=>intro _;rfl
 |cons x T ih=>intro h;obtain ⟨t,v⟩:=x;obtain ⟨h1,h2⟩:=h;simp only [List.map_cons,Vg,ih h2,h1]
theorem aic{rs:RF}:∀(U:List (au×Option Root)),ash rs U→keepR rs (U.map (·.1))=U:=by
 intro U
 induction U with
 |nil=>intro _;rfl
 |cons x U ih=>intro h;obtain ⟨t,v⟩:=x;obtain ⟨h1,h2⟩:=h;simp only [List.map_cons,keepR,ih h2,h1]
theorem ajJ{rs rs':RF}:∀(l:List au),(∀q∈l,rs' q=rs q)→Km rs' l=Km rs l:=by
 intro l
 induction l with
 |nil=>intro _;rfl
 |cons x l ih=>
  intro h
  funext n
  simp only [Km]
  rw [h x (by simp),ih fun q hq=>h q (by simp [hq])]
theorem agB{kp:Keep}{s:St}:∀(T:List (Nat×AV)),(∀t∈T.map (·.1),t∈kp.1)→allT (restrict kp s).tmps T→allT s.tmps T:=by
 intro T
 induction T with
 |nil=>intro _ _;trivial
 |cons x T ih=>
  intro hm h
  obtain ⟨t,v⟩:=x
  refine ⟨?_,ih (fun u hu=>hm u (by simp at hu ⊢;exact .inr hu)) h.2⟩
  rw [←h.1]
  exact (aup _ t (hm t (by simp))).symm
theorem agC{kp:Keep}{s:St}:∀(U:List (au×Option Root)),(∀q∈U.map (·.1),q∈kp.2)→ash (restrict kp s).roots U→ash s.roots U:=by
 intro U
 induction U with
 |nil=>intro _ _;trivial
 |cons x U ih=>
  intro hm h
  obtain ⟨t,v⟩:=x
  refine ⟨?_,ih (fun u hu=>hm u (by simp at hu ⊢;exact .inr hu)) h.2⟩
  rw [←h.1]
  exact (ami _ t (hm t (by simp))).symm
theorem aP{kp:Keep}{s:St}{T:List (Nat×AV)}{U:List (au×Option Root)}(h1:kp.1=T.map (·.1))(h2:kp.2=U.map (·.1))(hT:allT (restrict kp s).tmps T)(hU:ash (restrict kp s).roots U):restrict kp s=bX T U:=by
 have hT':=agB T (by rw [h1];exact fun _ h=>h) hT
 have hU':=agC U (by rw [h2];exact fun _ h=>h) hU
 unfold restrict bX
 rw [h1,h2,aq5 T hT',aic U hU']
 have:Km s.roots (U.map (·.1))=Km (Y2 U) (U.map (·.1)):=by
  refine ajJ _ fun q hq=>?_
  have h3:=aic U hU'
  rw [←ami (rs:=s.roots) (U.map (·.1)) q hq,h3]
 rw [this]
def fM:Code→List Code
 |.seq a b=>fM a++fM b
 |.cond _ a b=>fM a++fM b
 |.block _ a=>fM a
 |.loop a=>a::fM a
 |_=>[]
theorem afs:∀(c:Code),(∀a∈fM c,∀i L,eT a=some i→ig i A=some L→bU V A a L)→ru V A c:=by
 intro c
 induction c with
 |seq a b iha ihb=>intro h;exact ⟨iha fun x hx=>h x (by simp [fM,hx]),ihb fun x hx=>h x (by simp [fM,hx])⟩
 |cond x a b iha ihb=>intro h;exact ⟨iha fun x hx=>h x (by simp [fM,hx]),ihb fun x hx=>h x (by simp [fM,hx])⟩
 |block id a ih=>intro h;exact ih h
 |loop a ih=>intro h;exact ⟨ih fun x hx=>h x (by simp [fM,hx]),h a (by simp [fM])⟩
 |_=>intro _;trivial
def aV(c:Code)(n:Nat):Code:=(fM c).getD n .skip
theorem alU{c:Code}(h:(fM c).length=0):ru V A c:=afs c fun a ha=>by rw [List.eq_nil_of_length_eq_zero h] at ha;cases ha
theorem alT{c:Code}{n:Nat}(hn:(fM c).length=n)(h:∀k,k<n→∀i L,eT (aV c k)=some i→ig i A=some L→bU V A (aV c k) L):ru V A c:=by
 refine afs c fun a ha=>?_
 obtain ⟨k,hk,rfl⟩:=List.mem_iff_getElem.1 ha
 have:=h k (by omega)
 unfold aV at this
 rw [List.getD_eq_getElem?_getD,List.getElem?_eq_getElem hk] at this
 exact this
theorem arh{a:Code}{id:Nat}{L:bD}(h1:eT a=some id)(h2:ig id A=some L)(h:bU V A a L):∀i L',eT a=some i→ig i A=some L'→bU V A a L':=by
 intro i L' h3 h4
 rw [h1] at h3
 cases h3
 rw [h2] at h4
 cases h4
 exact h
theorem kS{a:Code}{L:bD} (h:∀(s:St)(e:Ex)(s':St),(L.sm (restrict L.kp s)).run some=some (e,s') →
  ∃(σ β:Type) (mk:σ→St) (out:β→Ex×St) (step:σ→Tre (σ ⊕ β)) (x:σ) (b:β),restrict L.kp s=mk x∧aO step x=some b∧out b=(e,s') ∧
   ∀(x:σ)(c:St→Option (Ex×St)),den V A a (mk x) (cu L.kp L.kx c)=(step x).run (cB mk out c)):bU V A a L:=by
 intro s e s' hs
 obtain ⟨σ,β,mk,out,step,x,b,h1,h2,h3,h4⟩:=h s e s' hs
 obtain ⟨n,hn⟩:=TN.1 h2
 refine ⟨n,?_⟩
 rw [h1,←h3]
 exact aq4 h4 n x b hn
theorem adN{ρ γ δ:Type}{o:Option ρ}{out:ρ→γ}{x:δ}{c:γ→Option δ}(h:(Tre.mat o fun y=>Tre.ret (out y)).run c=some x):∃y,o=some y∧c (out y)=some x:=by
 rw [Tre.oC] at h
 cases o with
 |none=>cases h
 |some y=>exact ⟨y,rfl,h⟩
theorem mF{β δ α:Type}{o:Option β}{k:β→Tre α}{x:δ}{c:α→Option δ}(h:(Tre.mat o k).run c=some x):∃y,o=some y∧(k y).run c=some x:=by
 rw [Tre.oC] at h
 cases o with
 |none=>cases h
 |some y=>exact ⟨y,rfl,h⟩
theorem aur{α δ:Type}{b:Bool}{A B:Tre α}{c:α→Option δ}{x:δ}(hb:b=true)(h:(cond b A B).run c=some x):A.run c=some x:=by subst hb;exact h
theorem ar4{α δ:Type}{b:Bool}{A B:Tre α}{c:α→Option δ}{x:δ}(hb:b=false)(h:(cond b A B).run c=some x):B.run c=some x:=by subst hb;exact h
theorem bB{ρ:Type}{t:Tre ρ}{out:ρ→ay}{d:Option ay}{co:ay}(hd:d=t.run fun y=>some (out y))(h:(Tre.mat (t.run some) fun y=>Tre.ret (out y)).run some=some co):(Tre.mat d Tre.ret).run some=some co:=by
 obtain ⟨y,h1,h2⟩:=adN h
 rw [hd,Tre.run_bind t,h1]
 exact h2
theorem Bw{ρ:Type}{t:Tre ρ}{out:ρ→ay}{d:Option ay}{co:ay}{y:ρ}(hd:d=t.run fun y=>some (out y))(hs:t.run some=some y)(h:(Tre.ret (out y):Tre ay).run some=some co):(Tre.mat d Tre.ret).run some=some co:=by
 rw [hd,Tre.run_bind t,hs]
 exact h
theorem yC{ρ:Type}{t:Tre ρ}{out:ρ→ay}{d:Option ay}{co:ay}{o:Option ρ}(hd:d=t.run fun y=>some (out y))(hs:∀y,o=some y→t.run some=some y)(h:(Tre.mat o fun y=>Tre.ret (out y)).run some=some co):(Tre.mat d Tre.ret).run some=some co:=by
 obtain ⟨y,h1,h2⟩:=adN h
 exact Bw hd (hs y h1) h2
theorem ak3{ρ:Type}{t:Tre ρ}{out:ρ→ay}{k:ρ→Tre ay}{d:Option ay}{co:ay}(hd:d=t.run fun y=>some (out y))(h:(Tre.mat (t.run some) k).run some=some co)(hk:∀x,(k x).run some=some (out x)):(Tre.mat d Tre.ret).run some=some co:=by
 obtain ⟨y,h1,h2⟩:=mF h
 rw [hk] at h2
 rw [hd,Tre.run_bind t,h1]
 exact h2
theorem aiT{P:Program}{Γ:Glb}{f:FuncId}{q0 q1 q:Ctr}{e:K}(h0:Contract P Γ f q0)(h1:Contract P Γ f q1) (hq:∀ci co,(q.G ci).run some=some co→∃z d,ci=⟨[.imm z (.sl e) d],[]⟩ ∧
  (q1.G ⟨[.nn z e d],[]⟩).run some=some co∧(d=[]→(q0.G ⟨[.nil],[]⟩).run some=some co)) (hs:q.soft=false:=by rfl):Contract P Γ f q:=by
 intro w C ci co vals hM hptr hsz hvals hgl hG
 obtain ⟨z,d,rfl,g1,g0⟩:=hq ci co hG
 obtain ⟨v,rfl⟩:∃v,vals = #[v]:=by
  match vals,hsz with
  |⟨[v]⟩,_=>exact ⟨v,rfl⟩
 have hv:=hvals 0 v _ rfl rfl
 obtain ⟨hA,hc⟩:=hv.cell (by simp) rfl (by simp) (by simp)
 have key:(v=.slice none 0 0∧d=[])∨∃a n c,v=.slice (some a) n c:=by
  rcases hA.2 with ⟨h,_⟩|⟨_,rfl,a,h⟩|⟨_,b,off,cap,c,T,fz,h,_⟩
  ·cases h
  ·simp only [List.cons.injEq,and_true] at h
   cases a with
   |none=>exact .inl ⟨h,rfl⟩
   |some a=>exact .inr ⟨a,_,_,h⟩
  ·simp only [List.cons.injEq,and_true] at h
   exact .inr ⟨_,_,_,h⟩
 have one:∀{av:AV},bK w C (Y3 []) v av→∀(i:Nat)(v':Value)(a:AV),(#[v]:Array Value)[i]?=some v'→[av][i]?=some a→bK w C (Y3 []) v' a:=by
  intro av hav i v' a h1 h2
  cases i with
  |zero=>simp only [List.getElem?_cons_zero,Option.some.injEq] at h2;subst h2;simp at h1;subst h1;exact hav
  |succ i=>simp at h2
 have conv:∀{args:List AV}{sf:Bool}{e':Ending}{w':World},(match e' with
   |.returned v=>∃C',Qw w C ⟨args,[]⟩ co v w' C'∧(sf=true→adY w C ⟨args,[]⟩ co w' C')
   |_=>False)→(match e' with
   |.returned v=>∃C',Qw w C ⟨[.imm z (.sl e) d],[]⟩ co v w' C'∧(q.soft=true→adY w C ⟨[.imm z (.sl e) d],[]⟩ co w' C')
   |_=>False):=by
  intro args sf e' w' h
  cases e' with
  |returned v=>obtain ⟨C',hp,_⟩:=h;exact ⟨C',⟨hp.Z,hp.S,hp.θ,hp.mem,hp.val,hp.ρ,hp.kept,hp.foot,hp.zn⟩,fun h=>by rw [hs] at h;cases h⟩
  |_=>exact h
 rcases key with ⟨rfl,hd⟩|⟨a,n,c,rfl⟩
 ·refine Calls.mono ?_ (fun e' w' h=>conv (args:=[.nil]) (sf:=q0.soft) h)
  exact h0 w C ⟨[.nil],[]⟩ co #[.slice none 0 0] hM (by simp) rfl (one (.inl (.inr (.inr ⟨rfl,rfl,rfl⟩)))) hgl (g0 hd)
 ·refine Calls.mono ?_ (fun e' w' h=>conv (args:=[.nn z e d]) (sf:=q1.soft) h)
  exact h1 w C ⟨[.nn z e d],[]⟩ co #[.slice (some a) n c] hM (by simp) rfl (one (.inl (.inr (.inr ⟨rfl,⟨hA.1,hA.2,a,n,c,rfl⟩,rfl⟩)))) hgl g1
def _root_.Go.Abs.AV.isRef:AV→Bool
 |.ref _ _=>true
 |_=>false
end
end Go.Abs
namespace Go.Abs
theorem dG{n:Int}(h1:-9223372036854775808≤n)(h2:n≤9223372036854775807):aF .i64 n=n:=Go.IntWalk.i64_in n ⟨h1,h2⟩
theorem aU{i:Nat}(h:i<4611686018427387904):aF .i64 ((i:Int)+1)=((i+1:Nat):Int):=by
 rw [dG (by omega) (by omega)];rfl
theorem TJ{n:Int}(h1:0≤n)(h2:n≤18446744073709551615):aF .u64 n=n:=by
 unfold aF IntKind.wrap
 simp only [IntKind.signed,IntKind.bits,Bool.false_and,Bool.false_eq_true,if_false]
 exact Int.emod_eq_of_lt h1 (by omega)
theorem LB(n:Int):0≤aF .u64 n:=by
 unfold aF IntKind.wrap
 simp only [IntKind.signed,IntKind.bits,Bool.false_and,Bool.false_eq_true,if_false]
 exact Int.emod_nonneg _ (by decide)
def inR(n a b:Int):Bool:=decide (a≤n)&&decide (n≤b)
theorem iR{n a b:Int}:inR n a b=true↔a≤n∧n≤b:=by simp [inR]
theorem aq3{n a b:Int}:inR n a b=false↔n<a∨b<n:=by
 cases h:inR n a b with
 |true=>rw [iR] at h;simp;omega
 |false=>
  simp only [true_iff]
  have:¬(a≤n∧n≤b):=fun h2=>by rw [iR.2 h2] at h;cases h
  omega
def agD{α:Type}(b:Bool)(x:α):Option α:=cond b (some x) none
theorem xC{α:Type}{b:Bool}{x y:α}(h:agD b x=some y):b=true∧x=y:=by
 cases b with
 |true=>exact ⟨rfl,Option.some.inj h⟩
 |false=>cases h
theorem kG{α:Type}{b:Bool}{x:α}(h:b=true):agD b x=some x:=by rw [h];rfl
def lim{α:Type}(n:Nat)(x:α):Option α:=if n≤1048576 then some x else none
theorem YF{α:Type}{n:Nat}{x y:α}(h:lim n x=some y):n≤1048576∧x=y:=by
 unfold lim at h
 split at h
 ·exact ⟨‹_›,Option.some.inj h⟩
 ·cases h
theorem NP{α:Type}{n:Nat}{x:α}(h:n≤1048576):lim n x=some x:=if_pos h
abbrev oM{α:Type}(xs:List α):Option (List α):=lim xs.length xs
section
variable {σ β α γ ρ R : Type} {step : σ → Tre (σ ⊕ β)}
theorem gy{x y:σ}(h:(step x).run some=some (.inl y)):aO step x=aO step y:=by rw [alS,h];rfl
theorem dY{x:σ}{b:β}(h:(step x).run some=some (.inr b)):aO step x=some b:=by rw [alS,h];rfl
theorem fU{xs:List α}{i:Nat}{x:α}{k:α→Tre ρ}{e:Tre ρ}{c:ρ→Option R}(h:xs[i]?=some x) :
  (Tre.cond (decide ((i:Int)<(xs.length:Int))) (.ite (0≤(i:Int)∧(i:Int)<(xs.length:Int)) (.mat xs[(i:Int).toNat]? k)) e).run c=(k x).run c:=by
 have hi:i<xs.length:=(List.getElem?_eq_some_iff.1 h).1
 rw [Tre.aB,show decide ((i:Int)<(xs.length:Int))=true from by simp;omega,cond_true,Tre.run_ite,if_pos ⟨by omega,by omega⟩,Tre.oC,Int.toNat_natCast,h]
 rfl
theorem jg{xs:List α}{i:Nat}{x:α}{k:α→Tre ρ}{c:ρ→Option R}(h:xs[i]?=some x) :
  (Tre.ite (0≤(i:Int)∧(i:Int)<(xs.length:Int)) (.mat xs[(i:Int).toNat]? k)).run c=(k x).run c:=by
 have hi:i<xs.length:=(List.getElem?_eq_some_iff.1 h).1
 rw [Tre.run_ite,if_pos ⟨by omega,by omega⟩,Tre.oC,Int.toNat_natCast,h]
 rfl
theorem eY{n:Int}{t e:Tre ρ}{c:ρ→Option R}:(Tre.cond (decide (n<n)) t e).run c=e.run c:=by
 rw [Tre.aB,show decide (n<n)=false from by simp];rfl
theorem ah{o:Option α}{x:α}{k:α→Tre ρ}{c:ρ→Option R}(h:o=some x):(Tre.mat o k).run c=(k x).run c:=by rw [Tre.oC,h];rfl
def uJ(f:Nat→γ→α→γ ⊕ β)(fin:γ→β):Nat→γ→List α→β
 |_,acc,[]=>fin acc
 |i,acc,x::l=>match f i acc x with
  |.inl a=>uJ f fin (i+1) a l
  |.inr b=>b
theorem xE{xs:List α}(st:Nat→γ→σ)(f:Nat→γ→α→γ ⊕ β)(fin:γ→β)(I:Nat→γ→Prop)
  (hs:∀i acc x,xs[i]?=some x→I i acc→(step (st i acc)).run some=some (match f i acc x with
   |.inl a=>.inl (st (i+1) a)
   |.inr b=>.inr b)∧∀a,f i acc x=.inl a→I (i+1) a)
  (he:∀acc,I xs.length acc→(step (st xs.length acc)).run some=some (.inr (fin acc))):∀(l:List α)(i:Nat)(acc:γ),xs.drop i=l→i≤xs.length→I i acc→aO step (st i acc)=some (uJ f fin i acc l):=by
 intro l
 induction l with
 |nil=>
  intro i acc hl hi hI
  have:i=xs.length:=by have:=List.drop_eq_nil_iff.1 hl;omega
  subst this
  exact dY (he acc hI)
 |cons x l ih=>
  intro i acc hl hi hI
  have hx:xs[i]?=some x:=by
   have:=congrArg (·[0]?) hl
   simpa using this
  have hi':i<xs.length:=(List.getElem?_eq_some_iff.1 hx).1
  obtain ⟨h1,h2⟩:=hs i acc x hx hI
  simp only [uJ]
  cases hf:f i acc x with
  |inl a=>
   rw [hf] at h1
   rw [gy h1]
   exact ih (i+1) a (by rw [←List.drop_drop,hl];rfl) (by omega) (h2 a hf)
  |inr b=>
   rw [hf] at h1
   exact dY h1
theorem anR{xs:List α}(st:Nat→γ→σ)(f:Nat→γ→α→γ ⊕ β)(fin:γ→β)
  (hs:∀i acc x,xs[i]?=some x→(step (st i acc)).run some=some (match f i acc x with
   |.inl a=>.inl (st (i+1) a)
   |.inr b=>.inr b))
  (he:∀acc,(step (st xs.length acc)).run some=some (.inr (fin acc))) (acc:γ):aO step (st 0 acc)=some (uJ f fin 0 acc xs):=
 xE (xs:=xs) st f fin (fun _ _=>True) (fun i a x h _=>⟨hs i a x h,fun _ _=>trivial⟩) (fun a _=>he a) xs 0 acc rfl (Nat.zero_le _) trivial
def KJ(f:Nat→α→Option β)(fin:β):Nat→List α→β
 |_,[]=>fin
 |i,x::l=>match f i x with
  |some b=>b
  |none=>KJ f fin (i+1) l
theorem E9{step:Int→Tre (Int ⊕ β)}{xs:List α}(f:Nat→α→Option β)(fin:β)
  (hs:∀(i:Nat) x,xs[i]?=some x→(step (i:Int)).run some=some (match f i x with
   |none=>.inl ((i+1:Nat):Int)
   |some b=>.inr b)) (he:(step (xs.length:Int)).run some=some (.inr fin)):aO step 0=some (KJ f fin 0 xs):=by
 have key:∀(l:List α)(i:Nat),xs.drop i=l→i≤xs.length→aO step (i:Int)=some (KJ f fin i l):=by
  intro l
  induction l with
  |nil=>
   intro i hl hi
   have:i=xs.length:=by have:=List.drop_eq_nil_iff.1 hl;omega
   subst this
   exact dY he
  |cons x l ih=>
   intro i hl hi
   have hx:xs[i]?=some x:=by
    have:=congrArg (·[0]?) hl
    simpa using this
   have hi':i<xs.length:=(List.getElem?_eq_some_iff.1 hx).1
   have h1:=hs i x hx
   simp only [KJ]
   cases hf:f i x with
   |none=>
    rw [hf] at h1
    rw [gy h1]
    exact ih (i+1) (by rw [←List.drop_drop,hl];rfl) (by omega)
   |some b=>
    rw [hf] at h1
    exact dY h1
 exact key xs 0 rfl (Nat.zero_le _)
def qA(p:α→Bool):Nat→List α→Int
 |_,[]=>-1
 |i,x::l=>cond (p x) (i:Int) (qA p (i+1) l)
theorem KL{p:α→Bool}:∀(l:List α)(i:Nat),(match KJ (β:=Int ⊕ Unit) (fun i x=>cond (p x) (some (.inl (i:Int))) none) (.inr ()) i l with
  |.inl n=>n
  |.inr _=>-1)=qA p i l:=by
 intro l
 induction l with
 |nil=>intro i;rfl
 |cons x l ih=>
  intro i
  simp only [KJ,qA]
  cases p x with
  |true=>rfl
  |false=>exact ih _
theorem alx{p:α→Bool}:∀(l:List α)(i:Nat),decide (qA p i l ≥ 0)=l.any p:=by
 intro l
 induction l with
 |nil=>intro i;rfl
 |cons x l ih=>
  intro i
  simp only [qA,List.any_cons]
  rcases Bool.eq_false_or_eq_true (p x) with hp|hp
  ·simp [hp]
  ·have:=ih (i+1)
   simp only [hp,cond_false,Bool.false_or]
   exact this
end
def axT(m:Int):Int:=aF .i64 (yu .i64 1 m-1)
def inP(m x:Int):Bool:=inR x 0 (axT m)
end Go.Abs
namespace Go.Abs
theorem xU{n:Nat}(h:n<9223372036854775808):aF .i64 (n:Int)=n:=dG (by omega) (by omega)
theorem Fj{n:Nat}(h:n<18446744073709551616):(BitVec.ofInt 64 (n:Int)).toNat=n:=by
 rw [BitVec.ofInt_natCast,BitVec.toNat_ofNat,Nat.mod_eq_of_lt h]
theorem lH{a b:Nat}(ha:a<2 ^ 63)(hb:b<2 ^ 63):iF .i64 (a:Int) (b:Int)=((a^^^b:Nat):Int):=by
 have hx:a^^^b<2 ^ 63:=Nat.xor_lt_two_pow ha hb
 have:(BitVec.ofInt 64 (a:Int)^^^BitVec.ofInt 64 (b:Int)).toNat=a^^^b:=by
  rw [BitVec.toNat_xor,Fj (by omega),Fj (by omega)]
 unfold iF
 show aF .i64 (((BitVec.ofInt 64 (a:Int)^^^BitVec.ofInt 64 (b:Int)).toNat:Nat):Int)=_
 rw [this,xU (by omega)]
theorem atf{a b:Nat}(ha:a<2 ^ 63)(hb:b<2 ^ 63):Gw .i64 (a:Int) (b:Int)=((a&&&b:Nat):Int):=by
 have hx:a&&&b<2 ^ 63:=Nat.and_lt_two_pow _ hb
 have:(BitVec.ofInt 64 (a:Int)&&&BitVec.ofInt 64 (b:Int)).toNat=a&&&b:=by
  rw [BitVec.toNat_and,Fj (by omega),Fj (by omega)]
 unfold Gw
 show aF .i64 (((BitVec.ofInt 64 (a:Int)&&&BitVec.ofInt 64 (b:Int)).toNat:Nat):Int)=_
 rw [this,xU (by omega)]
theorem ato{a j:Nat}(hj:j≤64):Kl .i64 (a:Int) (j:Int)=((a >>> j:Nat):Int):=by
 unfold Kl
 rw [Int.toNat_natCast,show min j (IntKind.bits .i64)=j from Nat.min_eq_left hj,Nat.shiftRight_eq_div_pow,Int.fdiv_eq_ediv_of_nonneg _ (by exact_mod_cast Nat.zero_le _)]
 push_cast
 rfl
def oL(x j:Int):Bool:=decide (Gw .i64 (Kl .i64 x j) 1=1)
theorem qE{a j:Nat}(ha:a<2 ^ 63)(hj:j≤64):oL (a:Int) (j:Int)=a.testBit j:=by
 have h1:a >>> j<2 ^ 63:=by rw [Nat.shiftRight_eq_div_pow];exact Nat.lt_of_le_of_lt (Nat.div_le_self _ _) ha
 unfold oL
 rw [ato hj,show (1:Int)=((1:Nat):Int) from rfl,atf h1 (by decide),Nat.and_one_is_mod,Nat.testBit_eq_decide_div_mod_eq,Nat.shiftRight_eq_div_pow]
 rw [Bool.eq_iff_iff]
 simp only [decide_eq_true_eq]
 omega
inductive Sp (l:List Nat):Nat→Prop
 |zero:Sp l 0
 |add {r v:Nat}:r∈l→Sp l v→Sp l (r^^^v)
theorem Sp.mem{l:List Nat}{r:Nat}(h:r∈l):Sp l r:=by
 have:=Sp.add h (Sp.zero)
 rwa [Nat.xor_zero] at this
theorem Sp.xor{l:List Nat}{a b:Nat}(ha:Sp l a)(hb:Sp l b):Sp l (a^^^b):=by
 induction ha with
 |zero=>rwa [Nat.zero_xor]
 |add h _ ih=>rw [Nat.xor_assoc];exact .add h ih
theorem Sp.trans{l l':List Nat}(h:∀r∈l,Sp l' r){v:Nat}(hv:Sp l v):Sp l' v:=by
 induction hv with
 |zero=>exact .zero
 |add hr _ ih=>exact (h _ hr).xor ih
def Lo(r p:Nat):Prop:=r.testBit p=true∧∀q,q<p→r.testBit q=false
theorem Lo.uniq{r p q:Nat}(h1:Lo r p)(h2:Lo r q):p=q:=by
 rcases Nat.lt_trichotomy p q with h|h|h
 ·have:=h2.2 p h;rw [h1.1] at this;cases this
 ·exact h
 ·have:=h1.2 q h;rw [h2.1] at this;cases this
def Red(c:Nat)(E:List (Nat×Nat)):Prop:=(∀a∈E,a.1<c∧Lo a.2 a.1)∧E.Pairwise fun a b=>a.1<b.1∧a.2.testBit b.1=false
def comb(f:Nat→Bool):List (Nat×Nat)→Nat
 |[]=>0
 |a::l=>cond (f a.1) (a.2^^^comb f l) (comb f l)
theorem asw(f g:Nat→Bool):∀l:List (Nat×Nat),comb (fun x=>f x ^^ g x) l=comb f l^^^comb g l:=by
 intro l
 induction l with
 |nil=>exact (Nat.xor_self 0).symm
 |cons a l ih=>
  simp only [comb,ih]
  cases f a.1<;>cases g a.1<;>simp only [Bool.false_xor,Bool.true_xor,Bool.not_true,Bool.not_false,cond_true,cond_false]
  ·rw [←Nat.xor_assoc,←Nat.xor_assoc,Nat.xor_comm a.2]
  ·rw [Nat.xor_assoc]
  ·rw [Nat.xor_assoc a.2,Nat.xor_comm (comb f l) (a.2^^^comb g l),←Nat.xor_assoc,←Nat.xor_assoc,Nat.xor_self,Nat.zero_xor,Nat.xor_comm]
theorem ZT(f:Nat→Bool):∀l:List (Nat×Nat),(∀a∈l,f a.1=false)→comb f l=0:=by
 intro l h
 induction l with
 |nil=>rfl
 |cons a l ih=>simp only [comb,h a (.head _),cond_false];exact ih fun x hx=>h x (.tail _ hx)
theorem VP(f:Nat→Bool){p:Nat}:∀l:List (Nat×Nat),(∀a∈l,a.2.testBit p=false)→(comb f l).testBit p=false:=by
 intro l h
 induction l with
 |nil=>simp [comb]
 |cons a l ih=>
  have:=ih fun x hx=>h x (.tail _ hx)
  simp only [comb]
  cases f a.1
  ·exact this
  ·simp [Nat.testBit_xor,this,h a (.head _)]
theorem Red.tail{c:Nat}{a:Nat×Nat}{l:List (Nat×Nat)}(h:Red c (a::l)):Red c l:=⟨fun x hx=>h.1 x (.tail _ hx),(List.pairwise_cons.1 h.2).2⟩
theorem asv{c:Nat}:∀(E:List (Nat×Nat)),Red c E→∀a∈E,comb (fun p=>p == a.1) E=a.2:=by
 intro E
 induction E with
 |nil=>intro _ a ha;cases ha
 |cons b l ih=>
  intro h a ha
  have hp:=(List.pairwise_cons.1 h.2).1
  simp only [comb]
  cases ha with
  |head=>
   rw [ZT _ l fun x hx=>by have:=(hp x hx).1;simp;omega]
   simp
  |tail _ ha=>
   have:(b.1 == a.1)=false:=by have:=(hp a ha).1;simp;omega
   rw [this]
   exact ih h.tail a ha
theorem Sp.comb{c:Nat}{E:List (Nat×Nat)}(h:Red c E){v:Nat}(hv:Sp (E.map (·.2)) v):∃f,v=Abs.comb f E:=by
 induction hv with
 |zero=>exact ⟨fun _=>false,(ZT _ _ fun _ _=>rfl).symm⟩
 |add hr _ ih=>
  obtain ⟨f,rfl⟩:=ih
  obtain ⟨a,ha,rfl⟩:=List.mem_map.1 hr
  exact ⟨_,by rw [asw (fun p=>p == a.1) f,asv E h a ha]⟩
theorem asr{c:Nat}(f:Nat→Bool):∀(E:List (Nat×Nat)),Red c E→∀a∈E,(comb f E).testBit a.1=f a.1:=by
 intro E
 induction E with
 |nil=>intro _ a ha;cases ha
 |cons b l ih=>
  intro h a ha
  have hp:=(List.pairwise_cons.1 h.2).1
  simp only [comb]
  cases ha with
  |head=>
   have h0:(comb f l).testBit b.1=false:=VP f l fun x hx=>(h.1 x (.tail _ hx)).2.2 _ (hp x hx).1
   cases hf:f b.1
   ·exact h0
   ·simp [Nat.testBit_xor,h0,(h.1 b (.head _)).2.1]
  |tail _ ha=>
   have hb:=(hp a ha).2
   have:=ih h.tail a ha
   cases f b.1
   ·exact this
   ·simp [Nat.testBit_xor,this,hb]
theorem asu{c:Nat}(f:Nat→Bool):∀(E:List (Nat×Nat)),Red c E→comb f E=0∨∃a∈E,Lo (comb f E) a.1:=by
 intro E
 induction E with
 |nil=>intro _;exact .inl rfl
 |cons b l ih=>
  intro h
  have hp:=(List.pairwise_cons.1 h.2).1
  have hb:=(h.1 b (.head _)).2
  simp only [comb]
  cases f b.1
  ·rcases ih h.tail with h0|⟨a,ha,hl⟩
   ·exact .inl h0
   ·exact .inr ⟨a,.tail _ ha,hl⟩
  ·refine .inr ⟨b,.head _,?_,fun q hq=>?_⟩
   ·have h0:(comb f l).testBit b.1=false:=VP f l fun x hx=>(h.1 x (.tail _ hx)).2.2 _ (hp x hx).1
    simp [Nat.testBit_xor,h0,hb.1]
   ·have h0:(comb f l).testBit q=false:=VP f l fun x hx=>(h.1 x (.tail _ hx)).2.2 _ (Nat.lt_trans hq (hp x hx).1)
    simp [Nat.testBit_xor,h0,hb.2 q hq]
theorem Red.apart{c:Nat}:∀{E:List (Nat×Nat)},Red c E→∀{a b:Nat×Nat},a∈E→b∈E→a.1≠b.1→a.2.testBit b.1=false:=by
 intro E
 induction E with
 |nil=>intro _ a b ha;cases ha
 |cons x l ih=>
  intro h a b ha hb hne
  have hp:=(List.pairwise_cons.1 h.2).1
  cases ha with
  |head=>
   cases hb with
   |head=>exact absurd rfl hne
   |tail _ hb=>exact (hp b hb).2
  |tail _ ha=>
   cases hb with
   |head=>exact (h.1 a (.tail _ ha)).2.2 _ (hp a ha).1
   |tail _ hb=>exact ih h.tail ha hb hne
theorem Red.find{c:Nat}{E:List (Nat×Nat)}(h:Red c E){v p:Nat}(hv:Sp (E.map (·.2)) v)(hl:Lo v p):∃a∈E,a.1=p:=by
 obtain ⟨f,rfl⟩:=hv.comb h
 rcases asu f E h with h0|⟨a,ha,hl'⟩
 ·rw [h0] at hl;have:=hl.1;simp at this
 ·exact ⟨a,ha,hl'.uniq hl⟩
theorem Red.sub{c c':Nat}{E E':List (Nat×Nat)}(h:Red c E)(h':Red c' E')(hs:∀v,Sp (E.map (·.2)) v↔Sp (E'.map (·.2)) v):∀a∈E,a∈E':=by
 intro a ha
 have ha1:=(h.1 a ha).2
 have hin:∀b∈E,∃b'∈E',b'.1=b.1:=fun b hb=>h'.find ((hs _).1 (.mem (List.mem_map.2 ⟨b,hb,rfl⟩))) (h.1 b hb).2
 obtain ⟨a',ha',he⟩:=hin a ha
 have ha1':=(h'.1 a' ha').2
 have hw:Sp (E.map (·.2)) (a.2^^^a'.2):=(Sp.mem (List.mem_map.2 ⟨a,ha,rfl⟩)).xor ((hs _).2 (.mem (List.mem_map.2 ⟨a',ha',rfl⟩)))
 obtain ⟨g,hg⟩:=hw.comb h
 have hz:∀b∈E,g b.1=false:=by
  intro b hb
  rw [←asr g E h b hb,←hg,Nat.testBit_xor]
  by_cases hab:a.1=b.1
  ·rw [←hab,ha1.1,←he,ha1'.1];rfl
  ·obtain ⟨b',hb',he'⟩:=hin b hb
   rw [h.apart ha hb hab,←he',h'.apart ha' hb' (by rw [he,he'];exact hab)];rfl
 rw [ZT g E hz] at hg
 have h2:a.2=a'.2:=by
  have h3:=congrArg (· ^^^ a'.2) hg
  simp only [Nat.xor_assoc,Nat.xor_self,Nat.xor_zero,Nat.zero_xor] at h3
  exact h3
 have:a=a':=Prod.ext he.symm h2
 rw [this]
 exact ha'
theorem arV:∀(E E':List (Nat×Nat)),(E.Pairwise fun a b=>a.1<b.1)→(E'.Pairwise fun a b=>a.1<b.1)→(∀a∈E,a∈E')→(∀a∈E',a∈E)→E=E':=by
 intro E
 induction E with
 |nil=>
  intro E' _ _ _ h
  cases E' with
  |nil=>rfl
  |cons b l=>have:=h b (.head _);cases this
 |cons a l ih=>
  intro E' hE hE' h1 h2
  cases E' with
  |nil=>have:=h1 a (.head _);cases this
  |cons b l'=>
   have hp:=List.pairwise_cons.1 hE
   have hp':=List.pairwise_cons.1 hE'
   have hab:a=b:=by
    have i1:=h1 a (.head _)
    have i2:=h2 b (.head _)
    cases i1 with
    |head=>rfl
    |tail _ i1=>
     cases i2 with
     |head=>rfl
     |tail _ i2=>have:=hp'.1 a i1;have:=hp.1 b i2;omega
   subst hab
   congr 1
   refine ih l' hp.2 hp'.2 (fun x hx=>?_) (fun x hx=>?_)
   ·have:=h1 x (.tail _ hx)
    cases this with
    |head=>have:=hp.1 _ hx;omega
    |tail _ h=>exact h
   ·have:=h2 x (.tail _ hx)
    cases this with
    |head=>have:=hp'.1 _ hx;omega
    |tail _ h=>exact h
theorem Red.uniq{c c':Nat}{E E':List (Nat×Nat)}(h:Red c E)(h':Red c' E')(hs:∀v,Sp (E.map (·.2)) v↔Sp (E'.map (·.2)) v):E=E':=
 arV E E' (h.2.imp fun h=>h.1) (h'.2.imp fun h=>h.1) (h.sub h' hs) (h'.sub h fun v=>(hs v).symm)
def iG(rows E:List Nat):Prop:=∃P c,Red c P∧P.map (·.2)=E∧∀v,Sp rows v↔Sp E v
def ech (rows:List Nat):List Nat:=by
 classical
 exact if h:∃E,iG rows E then Classical.choose h else []
theorem iG.eq{rows E E':List Nat}(h:iG rows E)(h':iG rows E'):E=E':=by
 obtain ⟨P,c,hr,rfl,hs⟩:=h
 obtain ⟨P',c',hr',rfl,hs'⟩:=h'
 rw [hr.uniq hr' fun v=>(hs v).symm.trans (hs' v)]
theorem Z6{rows E:List Nat}(h:iG rows E):ech rows=E:=by
 have hx:∃E,iG rows E:=⟨E,h⟩
 unfold ech
 rw [dif_pos hx]
 exact (Classical.choose_spec hx).eq h
def gP(c r x:Nat):Nat:=cond (x.testBit c) (x^^^r) x
theorem ahP{c r x:Nat}(hr:r.testBit c=true):(gP c r x).testBit c=false:=by
 unfold gP
 cases h:x.testBit c
 ·exact h
 ·simp [Nat.testBit_xor,h,hr]
theorem Tt{c r x q:Nat}(hr:r.testBit q=false):(gP c r x).testBit q=x.testBit q:=by
 unfold gP
 cases x.testBit c
 ·rfl
 ·simp [Nat.testBit_xor,hr]
theorem XG{c r x b:Nat}(hr:r<2 ^ b)(hx:x<2 ^ b):gP c r x<2 ^ b:=by
 unfold gP
 cases x.testBit c
 ·exact hx
 ·exact Nat.xor_lt_two_pow hx hr
structure Inv(orig:List Nat)(c:Nat)(E:List (Nat×Nat))(R:List Nat):Prop where
 red:Red c E
 low:∀x∈R,∀q,q<c→x.testBit q=false
 span:∀v,Sp orig v↔Sp (E.map (·.2)++R) v
theorem Inv.skip{orig:List Nat}{c:Nat}{E:List (Nat×Nat)}{R:List Nat}(h:Inv orig c E R)(hc:∀x∈R,x.testBit c=false):Inv orig (c+1) E R:=
 ⟨⟨fun a ha=>⟨Nat.lt_succ_of_lt (h.red.1 a ha).1,(h.red.1 a ha).2⟩,h.red.2⟩,fun x hx q hq=>by
  rcases Nat.lt_succ_iff_lt_or_eq.1 hq with h1|rfl
  ·exact h.low x hx q h1
  ·exact hc x hx,h.span⟩
theorem Inv.step{orig:List Nat}{c:Nat}{E:List (Nat×Nat)}{R R':List Nat}{r:Nat}(h:Inv orig c E R)(hr:r∈R)(hb:r.testBit c=true)
  (h1:∀y∈R',y=0∨∃x∈R,y=gP c r x) (h2:∀x∈R,x=r∨gP c r x∈R'):Inv orig (c+1) (E.map (fun a=>(a.1,gP c r a.2))++[(c,r)]) R':=by
 have hlow:=h.low r hr
 refine ⟨⟨?_,?_⟩,?_,?_⟩
 ·intro a ha
  rcases List.mem_append.1 ha with ha|ha
  ·obtain ⟨b,hb',rfl⟩:=List.mem_map.1 ha
   obtain ⟨i1,i2⟩:=h.red.1 b hb'
   refine ⟨Nat.lt_succ_of_lt i1,?_,fun q hq=>?_⟩
   ·dsimp only;rw [Tt (hlow _ i1)];exact i2.1
   ·dsimp only at hq ⊢;rw [Tt (hlow _ (Nat.lt_trans hq i1))];exact i2.2 q hq
  ·simp only [List.mem_singleton] at ha
   subst ha
   exact ⟨Nat.lt_succ_self _,hb,hlow⟩
 ·refine List.pairwise_append.2 ⟨?_,List.pairwise_singleton _ _,?_⟩
  ·refine List.pairwise_map.2 ((List.pairwise_iff_forall_sublist.2 ?_))
   intro a b hs
   have hmem:a∈E∧b∈E:=⟨hs.subset (.head _),hs.subset (.tail _ (.head _))⟩
   have:=List.pairwise_iff_forall_sublist.1 h.red.2 hs
   exact ⟨this.1,by dsimp only;rw [Tt (hlow _ (h.red.1 b hmem.2).1)];exact this.2⟩
  ·intro a ha b hb'
   simp only [List.mem_singleton] at hb'
   subst hb'
   obtain ⟨x,hx,rfl⟩:=List.mem_map.1 ha
   exact ⟨(h.red.1 x hx).1,ahP hb⟩
 ·intro y hy q hq
  rcases h1 y hy with rfl|⟨x,hx,rfl⟩
  ·simp
  ·rcases Nat.lt_succ_iff_lt_or_eq.1 hq with h3|rfl
   ·rw [Tt (hlow _ h3)];exact h.low x hx q h3
   ·exact ahP hb
 ·have hr1:Sp (E.map (·.2)++R) r:=.mem (List.mem_append_right _ hr)
  have key:∀{L:List Nat}{x:Nat},Sp L r→Sp L x→Sp L (gP c r x):=by
   intro L x i1 i2
   unfold gP
   cases x.testBit c
   ·exact i2
   ·exact i2.xor i1
  have key2:∀{L:List Nat}{x:Nat},Sp L r→Sp L (gP c r x)→Sp L x:=by
   intro L x i1 i2
   unfold gP at i2
   cases hx:x.testBit c
   ·rw [hx] at i2;exact i2
   ·rw [hx] at i2
    have:=Sp.xor i2 i1
    simp only [cond_true] at this
    rwa [Nat.xor_assoc,Nat.xor_self,Nat.xor_zero] at this
  have hmap:(E.map (fun a=>(a.1,gP c r a.2))++[(c,r)]).map (·.2)=E.map (fun a=>gP c r a.2)++[r]:=by simp [List.map_map,Function.comp_def]
  rw [hmap]
  intro v
  rw [h.span v]
  have hr2:Sp (E.map (fun a=>gP c r a.2)++[r]++R') r:=.mem (by simp)
  constructor
  ·refine Sp.trans fun x hx=>?_
   rcases List.mem_append.1 hx with hx|hx
   ·obtain ⟨a,ha,rfl⟩:=List.mem_map.1 hx
    exact key2 hr2 (.mem (List.mem_append_left _ (List.mem_append_left _ (List.mem_map.2 ⟨a,ha,rfl⟩))))
   ·rcases h2 x hx with rfl|h3
    ·exact hr2
    ·exact key2 hr2 (.mem (List.mem_append_right _ h3))
  ·refine Sp.trans fun x hx=>?_
   rcases List.mem_append.1 hx with hx|hx
   ·rcases List.mem_append.1 hx with hx|hx
    ·obtain ⟨a,ha,rfl⟩:=List.mem_map.1 hx
     exact key hr1 (.mem (List.mem_append_left _ (List.mem_map.2 ⟨a,ha,rfl⟩)))
    ·simp only [List.mem_singleton] at hx
     subst hx
     exact hr1
   ·rcases h1 x hx with rfl|⟨y,hy,rfl⟩
    ·exact .zero
    ·exact key hr1 (.mem (List.mem_append_right _ hy))
theorem Inv.done{orig:List Nat}{c:Nat}{E:List (Nat×Nat)}{R:List Nat}(h:Inv orig c E R)(hz:∀x∈R,x=0):iG orig (E.map (·.2)):=by
 refine ⟨E,c,h.red,rfl,fun v=>(h.span v).trans ⟨?_,?_⟩⟩
 ·refine Sp.trans fun x hx=>?_
  rcases List.mem_append.1 hx with hx|hx
  ·exact .mem hx
  ·rw [hz x hx];exact .zero
 ·exact Sp.trans fun x hx=>.mem (List.mem_append_left _ hx)
theorem Inv.start(orig:List Nat):Inv orig 0 [] orig:=⟨⟨fun a ha=>by (cases ha),.nil⟩,fun _ _ q hq=>absurd hq (Nat.not_lt_zero q),fun _=>Iff.rfl⟩
theorem E8{x b:Nat}(h:x<2 ^ b)(hq:∀q,q<b→x.testBit q=false):x=0:=by
 refine Nat.eq_of_testBit_eq fun q=>?_
 rw [Nat.zero_testBit]
 by_cases h1:q<b
 ·exact hq q h1
 ·exact Nat.testBit_lt_two_pow (Nat.lt_of_lt_of_le h (Nat.pow_le_pow_right (by decide) (by omega)))
abbrev up(l:List Nat):List Int:=l.map fun n:Nat=>(n:Int)
theorem VD{l:List Nat}{i x:Nat}(h:l[i]?=some x):(up l)[i]?=some (x:Int):=by simp [up,h]
theorem Tm(l:List Nat)(i x:Nat):(up l).set i (x:Int)=up (l.set i x):=by simp [up,List.map_set]
theorem fC(l:List Nat):(up l).length=l.length:=by simp [up]
def xX(g:Nat→Nat→Nat)(i:Nat)(l:List Nat):List Nat:=l.mapIdx fun j x=>if j<i then g j x else x
theorem YT(g:Nat→Nat→Nat)(i:Nat)(l:List Nat):(xX g i l).length=l.length:=by simp [xX]
theorem adQ{g:Nat→Nat→Nat}{i j x:Nat}{l:List Nat}(h:l[j]?=some x):(xX g i l)[j]?=some (if j<i then g j x else x):=by simp [xX,h]
theorem arA(g:Nat→Nat→Nat)(l:List Nat):xX g 0 l=l:=by
 refine List.ext_getElem? fun j=>?_
 simp [xX]
theorem amf{g:Nat→Nat→Nat}{i x:Nat}{l:List Nat}(h:l[i]?=some x):(xX g i l).set i (g i x)=xX g (i+1) l:=by
 refine List.ext_getElem? fun j=>?_
 have hi:i<l.length:=(List.getElem?_eq_some_iff.1 h).1
 rw [List.getElem?_set]
 by_cases hj:i=j
 ·subst hj
  rw [if_pos rfl,YT,if_pos hi,adQ h,if_pos (Nat.lt_succ_self _)]
 ·rw [if_neg hj]
  unfold xX
  rw [List.getElem?_mapIdx,List.getElem?_mapIdx]
  congr 1
  funext y
  by_cases h1:j<i
  ·rw [if_pos h1,if_pos (by omega)]
  ·rw [if_neg h1,if_neg (by omega)]
theorem atO(g:Nat→Nat→Nat)(l:List Nat):xX g l.length l=l.mapIdx g:=by
 refine List.ext_getElem? fun j=>?_
 unfold xX
 rw [List.getElem?_mapIdx,List.getElem?_mapIdx]
 cases h:l[j]? with
 |none=>rfl
 |some x=>simp [(List.getElem?_eq_some_iff.1 h).1]
theorem aiq{β:Type}{step:(Int×List Int)→Tre ((Int×List Int) ⊕ β)}(g:Nat→Nat→Nat)(l:List Nat)(fin:List Int→β)
  (hs:∀(i:Nat) x,l[i]?=some x→(step ((i:Int),up (xX g i l))).run some=some (.inl (((i+1:Nat):Int),up (xX g (i+1) l))))
  (he:(step ((l.length:Int),up (xX g l.length l))).run some=some (.inr (fin (up (xX g l.length l))))):aO step (0,up l)=some (fin (up (l.mapIdx g))):=by
 have key:∀(n i:Nat),i+n=l.length→aO step ((i:Int),up (xX g i l))=some (fin (up (l.mapIdx g))):=by
  intro n
  induction n with
  |zero=>
   intro i hi
   have:i=l.length:=hi
   subst this
   rw [←atO]
   exact dY he
  |succ n ih=>
   intro i hi
   have h1:i<l.length:=by omega
   rw [gy (hs i l[i] (List.getElem?_eq_getElem h1))]
   exact ih (i+1) (by omega)
 have:=key l.length 0 (by omega)
 rw [arA] at this
 exact this
theorem ajE(f:Nat→Nat)(l:List Nat):l.mapIdx (fun _ x=>f x)=l.map f:=by
 refine List.ext_getElem? fun i=>?_
 simp
theorem ajF{A B:List Nat}{r k:Nat}{f:Nat→Nat}{g:Nat→Nat→Nat}(hk:A.length=k)(hg:∀i x,i≠k→g i x=f x)(hr:g k r=r):(A++r::B).mapIdx g=A.map f++r::B.map f:=by
 subst hk
 refine List.ext_getElem? fun i=>?_
 rw [List.getElem?_mapIdx]
 rcases Nat.lt_trichotomy i A.length with h|h|h
 ·rw [List.getElem?_append_left h,List.getElem?_append_left (by simpa using h),List.getElem?_map]
  congr 1
  funext x
  exact hg i x (by omega)
 ·subst h
  rw [List.getElem?_append_right (Nat.le_refl _),List.getElem?_append_right (by simp)]
  simp [hr]
 ·rw [List.getElem?_append_right (by omega),List.getElem?_append_right (by simp;omega),List.length_map]
  obtain ⟨n,hn⟩:∃n,i-A.length=n+1:=⟨i-A.length-1,by omega⟩
  rw [hn,List.getElem?_cons_succ,List.getElem?_cons_succ,List.getElem?_map]
  congr 1
  funext x
  exact hg i x (by omega)
theorem Bl{α:Type}(p:α→Bool):∀(l:List α)(i:Nat),(qA p i l = -1∧∀x∈l,p x=false)∨∃k x,l[k]?=some x∧p x=true∧qA p i l=((i+k:Nat):Int):=by
 intro l
 induction l with
 |nil=>intro i;exact .inl ⟨rfl,fun x hx=>by cases hx⟩
 |cons a l ih=>
  intro i
  simp only [qA]
  cases ha:p a
  ·rcases ih (i+1) with ⟨h1,h2⟩|⟨k,x,h1,h2,h3⟩
   ·exact .inl ⟨h1,fun x hx=>by
     cases hx with
     |head=>exact ha
     |tail _ hx=>exact h2 x hx⟩
   ·exact .inr ⟨k+1,x,h1,h2,by rw [cond_false,h3];congr 1;omega⟩
  ·exact .inr ⟨0,a,rfl,ha,rfl⟩
theorem ajQ{α ρ R:Type}{xs:List α}{i:Nat}{x:α}{k:α→Tre ρ}{c:ρ→Option R}(h:xs[i]?=some x) :
  (Tre.ite (0≤(i:Int)∧(i:Int)<(xs.length:Int)) (.mat xs[i]? k)).run c=(k x).run c:=by
 have hi:i<xs.length:=(List.getElem?_eq_some_iff.1 h).1
 rw [Tre.run_ite,if_pos ⟨by omega,by omega⟩,Tre.oC,h]
 rfl
def Bp(b:Nat)(xs:List Int):Bool:=decide (xs.length≤1048576)&&xs.all fun x=>decide (0≤x)&&decide (x<((2 ^ b:Nat):Int))
theorem aa4{b:Nat}{xs:List Int}(h:Bp b xs=true):∃ns:List Nat,xs=up ns∧ns.length≤1048576∧(∀n∈ns,n<2 ^ b)∧xs.map Int.toNat=ns:=by
 unfold Bp at h
 simp only [Bool.and_eq_true,decide_eq_true_eq,List.all_eq_true] at h
 refine ⟨xs.map Int.toNat,?_,by simpa using h.1,?_,rfl⟩
 ·unfold up
  rw [List.map_map]
  exact ((List.map_congr_left (g:=id) fun x hx=>Int.toNat_of_nonneg (h.2 x hx).1).trans (List.map_id _)).symm
 ·intro n hn
  obtain ⟨x,hx,rfl⟩:=List.mem_map.1 hn
  have:=h.2 x hx
  omega
theorem LD{b:Nat}{ns:List Nat}(h1:ns.length≤1048576)(h2:∀n∈ns,n<2 ^ b):Bp b (up ns)=true:=by
 unfold Bp
 simp only [Bool.and_eq_true,decide_eq_true_eq,List.all_eq_true]
 refine ⟨by simpa using h1,fun x hx=>?_⟩
 obtain ⟨n,hn,rfl⟩:=List.mem_map.1 hx
 have:=h2 n hn
 omega
def JV (xs:List Int):List Int:=up (ech (xs.map Int.toNat))
theorem up_toNat(ns:List Nat):(up ns).map Int.toNat=ns:=by
 unfold up
 rw [List.map_map]
 exact (List.map_congr_left (g:=id) fun x _=>rfl).trans (List.map_id _)
theorem ajL{b c:Nat}(h:b≤c):2 ^ b≤2 ^ c:=Nat.pow_le_pow_right (by decide) h
theorem amX{m:Nat}(h:m≤62):axT (m:Int)=((2 ^ m-1:Nat):Int):=by
 have h1:=ajL h
 have h2:0<2 ^ m:=Nat.two_pow_pos m
 unfold axT yu
 rw [Int.toNat_natCast,show min m (IntKind.bits .i64)=m from Nat.min_eq_left (by show m≤64;omega),Int.one_mul]
 have h3:(2:Int) ^ m=((2 ^ m:Nat):Int):=by push_cast;rfl
 rw [h3]
 show aF .i64 (aF .i64 _-1)=_
 rw [xU (by omega),show ((2 ^ m:Nat):Int)-1=((2 ^ m-1:Nat):Int) from by omega,xU (by omega)]
theorem apm{m:Nat}{x:Int}(h:m≤62)(hx:inP (m:Int) x=true):∃n:Nat,x=(n:Int)∧n<2 ^ m:=by
 unfold inP at hx
 rw [iR,amX h] at hx
 have h2:0<2 ^ m:=Nat.two_pow_pos m
 exact ⟨x.toNat,by omega,by omega⟩
def auo(a:Int)(xs:List Int):Int:=uJ (β:=Int) (fun (i:Nat) acc x=>.inl (cond (oL a (i:Int)) (iF .i64 acc x) acc)) id 0 0 xs
end Go.Abs
namespace Go.Abs
end Go.Abs
namespace Go.Abs
end Go.Abs
namespace Go.Abs
def lQ:List Nat→List Nat
 |[]=>[0]
 |x::l=>lQ l++(lQ l).map (x ^^^ ·)
theorem xA:∀l:List Nat,(lQ l).length=2 ^ l.length:=by
 intro l
 induction l with
 |nil=>rfl
 |cons x l ih=>simp only [lQ,List.length_append,List.length_map,ih,List.length_cons,Nat.pow_succ];omega
theorem amS:∀l:List Nat,0∈lQ l:=by
 intro l
 induction l with
 |nil=>simp [lQ]
 |cons x l ih=>exact List.mem_append.2 (.inl ih)
theorem Xw(a b:Nat):a^^^(a^^^b)=b:=by rw [←Nat.xor_assoc,Nat.xor_self,Nat.zero_xor]
theorem aoR:∀{l:List Nat}{r v:Nat},r∈l→v∈lQ l→r^^^v∈lQ l:=by
 intro l
 induction l with
 |nil=>intro r v hr;cases hr
 |cons x l ih=>
  intro r v hr hv
  simp only [lQ,List.mem_append,List.mem_map] at hv ⊢
  cases hr with
  |head=>
   rcases hv with hv|⟨w,hw,rfl⟩
   ·exact .inr ⟨v,hv,rfl⟩
   ·exact .inl (by rw [Xw];exact hw)
  |tail _ hr=>
   rcases hv with hv|⟨w,hw,rfl⟩
   ·exact .inl (ih hr hv)
   ·exact .inr ⟨r^^^w,ih hr hw,by rw [←Nat.xor_assoc,Nat.xor_comm x r,Nat.xor_assoc]⟩
theorem Sp.sums{l:List Nat}{v:Nat}(h:Sp l v):v∈lQ l:=by
 induction h with
 |zero=>exact amS l
 |add hr _ ih=>exact aoR hr ih
theorem OD:∀{l:List Nat}{v:Nat},v∈lQ l→Sp l v:=by
 intro l
 induction l with
 |nil=>intro v hv;simp only [lQ,List.mem_singleton] at hv;subst hv;exact .zero
 |cons x l ih=>
  intro v hv
  simp only [lQ,List.mem_append,List.mem_map] at hv
  have hs:∀{w},Sp l w→Sp (x::l) w:=fun h=>h.trans fun r hr=>Sp.mem (.tail _ hr)
  rcases hv with hv|⟨w,hw,rfl⟩
  ·exact hs (ih hv)
  ·exact .add (.head _) (hs (ih hw))
theorem amT{p:Nat}:∀{l:List Nat}{v:Nat},(∀r∈l,r.testBit p=false)→v∈lQ l→v.testBit p=false:=by
 intro l
 induction l with
 |nil=>intro v _ hv;simp only [lQ,List.mem_singleton] at hv;subst hv;simp
 |cons x l ih=>
  intro v h hv
  simp only [lQ,List.mem_append,List.mem_map] at hv
  rcases hv with hv|⟨w,hw,rfl⟩
  ·exact ih (fun r hr=>h r (.tail _ hr)) hv
  ·rw [Nat.testBit_xor,h x (.head _),ih (fun r hr=>h r (.tail _ hr)) hw];rfl
theorem Red.nodup{c:Nat}:∀{E:List (Nat×Nat)},Red c E→(lQ (E.map (·.2))).Nodup:=by
 intro E
 induction E with
 |nil=>intro _;simp [lQ]
 |cons a l ih=>
  intro h
  have hp:=(List.pairwise_cons.1 h.2).1
  have hl:∀r∈l.map (·.2),r.testBit a.1=false:=by
   intro r hr
   obtain ⟨b,hb,rfl⟩:=List.mem_map.1 hr
   exact ((h.1 b (.tail _ hb)).2).2 a.1 (hp b hb).1
  have ha:a.2.testBit a.1=true:=(h.1 a (.head _)).2.1
  simp only [List.map_cons,lQ]
  rw [List.nodup_append]
  refine ⟨ih h.tail,?_,?_⟩
  ·rw [List.nodup_iff_pairwise_ne]
   refine List.pairwise_map.2 ((List.nodup_iff_pairwise_ne.1 (ih h.tail)).imp ?_)
   intro x y hxy hne
   exact hxy (by rw [←Xw a.2 x,hne,Xw])
  ·intro x hx y hy hxy
   obtain ⟨w,hw,rfl⟩:=List.mem_map.1 hy
   have h1:=amT hl hx
   have h2:=amT hl hw
   rw [hxy,Nat.testBit_xor,ha,h2] at h1
   cases h1
theorem YP{α:Type} [DecidableEq α]:∀{l l':List α},l.Nodup→(∀x∈l,x∈l')→l.length≤l'.length:=by
 intro l
 induction l with
 |nil=>intro l' _ _;exact Nat.zero_le _
 |cons x l ih=>
  intro l' hn hs
  rw [List.nodup_cons] at hn
  have hx:=hs x (.head _)
  have:=ih (l':=l'.erase x) hn.2 (fun y hy=>by
   have hne:y≠x:=by rintro rfl;exact hn.1 hy
   exact (List.mem_erase_of_ne hne).2 (hs y (.tail _ hy)))
  rw [List.length_erase_of_mem hx] at this
  have hpos:0<l'.length:=List.length_pos_of_mem hx
  simp only [List.length_cons]
  omega
theorem iG.le{rows E:List Nat}(h:iG rows E):E.length≤rows.length:=by
 obtain ⟨P,c,hr,rfl,hs⟩:=h
 have:=YP hr.nodup (fun x hx=>((hs x).2 (OD hx)).sums)
 rw [xA,xA] at this
 exact (Nat.pow_le_pow_iff_right (by decide)).1 this
theorem Sp.map{rows:List Nat}{f:Nat→Nat}(h0:f 0=0)(hf:∀a b,f (a^^^b)=f a^^^f b){v:Nat}(h:Sp rows v):Sp (rows.map f) (f v):=by
 induction h with
 |zero=>rw [h0];exact .zero
 |add hr _ ih=>rw [hf];exact .add (List.mem_map.2 ⟨_,hr,rfl⟩) ih
end Go.Abs
namespace Go.Abs
def fH(h:Nat):Nat→List Nat→Nat
 |_,[]=>0
 |i,x::l=>cond (h.testBit i) x 0^^^fH h (i+1) l
theorem aiA{h:Nat}:∀(l:List Nat)(i:Nat),(∀q,i≤q→h.testBit q=false)→fH h i l=0:=by
 intro l
 induction l with
 |nil=>intro i _;rfl
 |cons x l ih=>
  intro i hq
  simp only [fH]
  rw [hq i (Nat.le_refl i),ih (i+1) fun q h=>hq q (by omega),cond_false,Nat.xor_self]
theorem abA(l:List Nat)(i:Nat):fH 0 i l=0:=aiA l i fun q _=>Nat.zero_testBit q
theorem auA(x a b:Nat):a^^^b=(x^^^a)^^^(x^^^b):=by
 rw [Nat.xor_comm x a,Nat.xor_assoc,←Nat.xor_assoc x x b,Nat.xor_self,Nat.zero_xor]
theorem amL(a b:Nat):∀(l:List Nat)(i:Nat),fH (a^^^b) i l=fH a i l^^^fH b i l:=by
 intro l
 induction l with
 |nil=>intro i;exact (Nat.xor_self 0).symm
 |cons x l ih=>
  intro i
  simp only [fH]
  rw [ih,Nat.testBit_xor]
  cases a.testBit i<;>cases b.testBit i
  ·simp only [Bool.xor_false,cond_false,Nat.zero_xor]
  ·simp only [Bool.false_xor,cond_true,cond_false,Nat.zero_xor]
   rw [Nat.xor_comm,Nat.xor_assoc,Nat.xor_comm (fH b (i+1) l)]
  ·simp only [Bool.xor_false,cond_true,cond_false,Nat.zero_xor]
   rw [Nat.xor_assoc]
  ·simp only [Bool.xor_self,cond_true,cond_false,Nat.zero_xor]
   exact auA x _ _
theorem amK:∀(l:List Nat)(i j:Nat){x:Nat},l[j]?=some x→fH (2 ^ (i+j)) i l=x:=by
 intro l
 induction l with
 |nil=>intro i j x h;simp at h
 |cons y l ih=>
  intro i j x h
  simp only [fH]
  cases j with
  |zero=>
   simp only [List.getElem?_cons_zero,Option.some.injEq] at h
   subst h
   rw [Nat.add_zero,Nat.testBit_two_pow_self,cond_true,aiA l (i+1) fun q hq=>by rw [Nat.testBit_two_pow];exact decide_eq_false (by omega),Nat.xor_zero]
  |succ j=>
   simp only [List.getElem?_cons_succ] at h
   rw [Nat.testBit_two_pow,decide_eq_false (by omega),cond_false,Nat.zero_xor,show i+(j+1)=i+1+j by omega]
   exact ih (i+1) j h
theorem auc{f:Nat→Nat}(h0:f 0=0)(hf:∀a b,f (a^^^b)=f a^^^f b)(h:Nat):∀(l:List Nat)(i:Nat),f (fH h i l)=fH h i (l.map f):=by
 intro l
 induction l with
 |nil=>intro i;exact h0
 |cons x l ih=>
  intro i
  simp only [fH,List.map_cons]
  rw [hf,ih]
  cases h.testBit i
  ·simp only [cond_false,h0]
  ·rfl
theorem avF(h:Nat)(l':List Nat):∀(l:List Nat)(i:Nat),(∀x∈l,x∈l')→Sp l' (fH h i l):=by
 intro l
 induction l with
 |nil=>intro i _;exact .zero
 |cons x l ih=>
  intro i hs
  simp only [fH]
  have h1:=ih (i+1) fun y hy=>hs y (.tail _ hy)
  cases h.testBit i
  ·rw [cond_false,Nat.zero_xor];exact h1
  ·exact .add (hs x (.head _)) h1
theorem aoU{a b:Nat}(ha:a<2 ^ 63)(hb:b≤62):∀(ns:List Nat)(i acc:Nat),i+ns.length≤64→acc<2 ^ b→(∀n∈ns,n<2 ^ b) →
  uJ (β:=Int) (fun (i:Nat) acc x=>.inl (cond (oL (a:Int) (i:Int)) (iF .i64 acc x) acc)) id i (acc:Int) (up ns)=((acc^^^fH a i ns:Nat):Int):=by
 intro ns
 have hp:=ajL hb
 induction ns with
 |nil=>intro i acc _ _ _;simp [fH,uJ,up]
 |cons n ns ih=>
  intro i acc hi hacc hn
  simp only [List.length_cons] at hi
  have h1:=hn n (.head _)
  show uJ _ id (i+1) (cond (oL (a:Int) (i:Int)) (iF .i64 (acc:Int) (n:Int)) (acc:Int)) (up ns)=_
  rw [qE ha (by omega)]
  simp only [fH]
  cases a.testBit i
  ·rw [cond_false,cond_false,Nat.zero_xor]
   exact ih (i+1) acc (by omega) hacc fun x hx=>hn x (.tail _ hx)
  ·rw [cond_true,cond_true,lH (by omega) (by omega),ih (i+1) (acc^^^n) (by omega) (Nat.xor_lt_two_pow hacc h1) fun x hx=>hn x (.tail _ hx),Nat.xor_assoc]
theorem ar1{a b:Nat}{ns:List Nat}(ha:a<2 ^ 63)(hb:b≤62)(hl:ns.length≤64)(hn:∀n∈ns,n<2 ^ b):auo (a:Int) (up ns)=((fH a 0 ns:Nat):Int):=by
 have:=aoU ha hb ns 0 0 (by omega) (Nat.two_pow_pos b) hn
 rw [Nat.zero_xor] at this
 exact this
structure Xz(N:Nat)(S:List Nat):Prop where
 len:S.length=N
 head:∀i x,S[i]?=some x→x&&&(2 ^ N-1)=2 ^ i
theorem Xz.bit{N:Nat}{S:List Nat}(h:Xz N S){i x q:Nat}(hx:S[i]?=some x)(hq:q<N):x.testBit q=decide (i=q):=by
 have:=congrArg (·.testBit q) (h.head i x hx)
 simpa [Nat.testBit_and,Nat.testBit_two_pow_sub_one,Nat.testBit_two_pow,hq] using this
theorem Xz.back{N:Nat}{S:List Nat}(h:Xz N S){v:Nat}(hv:Sp S v):fH (v&&&(2 ^ N-1)) 0 S=v:=by
 induction hv with
 |zero=>rw [Nat.zero_and,abA]
 |add hr _ ih=>
  obtain ⟨i,hi⟩:=List.getElem?_of_mem hr
  rw [Nat.and_xor_distrib_right,amL,ih,h.head i _ hi]
  have:=amK S 0 i hi
  rw [Nat.zero_add] at this
  rw [this]
theorem agk:∀(l:List (Nat×Nat))(lo b:Nat),(l.Pairwise fun a b=>a.1<b.1)→(∀a∈l,lo≤a.1∧a.1<b)→l.length≤b-lo:=by
 intro l
 induction l with
 |nil=>intro lo b _ _;exact Nat.zero_le _
 |cons a l ih=>
  intro lo b h hb
  obtain ⟨h1,h2⟩:=List.pairwise_cons.1 h
  have:=ih (a.1+1) b h2 fun x hx=>⟨h1 x hx,(hb x (.tail _ hx)).2⟩
  have h0:=hb a (.head _)
  simp only [List.length_cons]
  omega
theorem ZA:∀(l:List (Nat×Nat))(lo:Nat),(l.Pairwise fun a b=>a.1<b.1)→(∀a∈l,lo≤a.1∧a.1<lo+l.length)→∀(i:Nat)(a:Nat×Nat),l[i]?=some a→a.1=lo+i:=by
 intro l
 induction l with
 |nil=>intro lo _ _ i a h;simp at h
 |cons b l ih=>
  intro lo h hb i a ha
  obtain ⟨h1,h2⟩:=List.pairwise_cons.1 h
  simp only [List.length_cons] at hb
  have h0:=hb b (.head _)
  have hl:=agk l (b.1+1) (lo+(l.length+1)) h2 fun x hx=>⟨h1 x hx,(hb x (.tail _ hx)).2⟩
  have hb0:b.1=lo:=by omega
  cases i with
  |zero=>simp only [List.getElem?_cons_zero,Option.some.injEq] at ha;subst ha;exact hb0
  |succ i=>
   simp only [List.getElem?_cons_succ] at ha
   rw [ih (lo+1) h2 (fun x hx=>⟨by have:=h1 x hx;omega,by have:=(hb x (.tail _ hx)).2;omega⟩) i a ha]
   omega
theorem Xz.full{N:Nat}{S rows E:List Nat}(h:Xz N S)(hs:∀r∈rows,Sp S r)(he:iG rows E)(hl:E.length=N):E=S:=by
 obtain ⟨P,c,hr,rfl,hsp⟩:=he
 rw [List.length_map] at hl
 have hin:∀a∈P,Sp S a.2:=fun a ha=>Sp.trans hs ((hsp a.2).2 (Sp.mem (List.mem_map.2 ⟨a,ha,rfl⟩)))
 have hpos:∀a∈P,a.1<N:=fun a ha=>by
  refine Nat.lt_of_not_le fun hge=>?_
  have h0:a.2&&&(2 ^ N-1)=0:=by
   refine Nat.eq_of_testBit_eq fun q=>?_
   rw [Nat.testBit_and,Nat.testBit_two_pow_sub_one,Nat.zero_testBit]
   by_cases hq:q<N
   ·rw [(hr.1 a ha).2.2 q (by omega)];rfl
   ·rw [decide_eq_false hq,Bool.and_false]
  have h1:=h.back (hin a ha)
  rw [h0,abA] at h1
  have h2:=(hr.1 a ha).2.1
  rw [←h1,Nat.zero_testBit] at h2
  cases h2
 have hidx:=ZA P 0 (hr.2.imp fun h=>h.1) fun a ha=>⟨Nat.zero_le _,by have:=hpos a ha;omega⟩
 refine List.ext_getElem? fun i=>?_
 rw [List.getElem?_map]
 cases ha:P[i]? with
 |none=>
  have hi:=List.getElem?_eq_none_iff.1 ha
  rw [List.getElem?_eq_none_iff.2 (show S.length≤i by have:=h.len;omega)]
  rfl
 |some a=>
  have hi:i<P.length:=(List.getElem?_eq_some_iff.1 ha).1
  have ham:=List.mem_of_getElem? ha
  have ha1:a.1=i:=by rw [hidx i a ha];omega
  have hiS:i<S.length:=by have:=h.len;omega
  have hx:S[i]?=some S[i]:=List.getElem?_eq_getElem hiS
  have hhead:a.2&&&(2 ^ N-1)=2 ^ i:=by
   refine Nat.eq_of_testBit_eq fun q=>?_
   rw [Nat.testBit_and,Nat.testBit_two_pow_sub_one,Nat.testBit_two_pow]
   by_cases hq:q<N
   ·rw [decide_eq_true hq,Bool.and_true]
    by_cases hqi:i=q
    ·subst hqi;rw [decide_eq_true rfl,←ha1];exact (hr.1 a ham).2.1
    ·have hb:P[q]?=some P[q]:=List.getElem?_eq_getElem (by omega)
     have hb1:P[q].1=q:=by rw [hidx q _ hb];omega
     have:=hr.apart ham (List.mem_of_getElem? hb) (by omega)
     rw [hb1] at this
     rw [this,decide_eq_false hqi]
   ·rw [decide_eq_false hq,Bool.and_false,decide_eq_false (by omega)]
  have h1:=h.back (hin a ham)
  have h2:=amK S 0 i hx
  rw [Nat.zero_add] at h2
  rw [hhead,h2] at h1
  rw [hx,Option.map_some,h1]
theorem Xz.ech{N:Nat}{S:List Nat}(h:Xz N S):iG S S:=by
 refine ⟨(List.range N).zip S,N,⟨fun a ha=>?_,?_⟩,?_,fun v=>Iff.rfl⟩
 ·obtain ⟨i,hi⟩:=List.getElem?_of_mem ha
  rw [List.getElem?_zip_eq_some] at hi
  obtain ⟨h1,h2⟩:=hi
  have hiN:i<N:=by have:=(List.getElem?_eq_some_iff.1 h1).1;simpa using this
  rw [List.getElem?_range hiN,Option.some.injEq] at h1
  refine ⟨by omega,by rw [h.bit h2 (by omega)];exact decide_eq_true h1,fun q hq=>by rw [h.bit h2 (by omega)];exact decide_eq_false (by omega)⟩
 ·rw [List.pairwise_iff_getElem]
  intro i j hi hj hij
  simp only [List.length_zip,List.length_range,h.len,Nat.min_self] at hi hj
  simp only [List.getElem_zip,List.getElem_range]
  refine ⟨hij,?_⟩
  rw [h.bit (List.getElem?_eq_getElem (by have:=h.len;omega)) hj]
  exact decide_eq_false (by omega)
 ·exact List.map_snd_zip (by simp [h.len])
theorem iG.heads{N:Nat}{rows E A:List Nat}(h:iG rows E)(hA:iG (rows.map (· &&& (2 ^ N-1))) A)(hE:E.length=N)(hAl:A.length=N):Xz N E:=by
 obtain ⟨P,c,hr,rfl,hs⟩:=h
 rw [List.length_map] at hE
 have hlow:∀a∈P,a.1<N:=by
  intro a ha
  refine Decidable.byContradiction fun hn=>?_
  have hz:∀q,q<N→a.2.testBit q=false:=fun q hq=>(hr.1 a ha).2.2 q (by omega)
  have hza:a.2&&&(2 ^ N-1)=0:=by
   refine Nat.eq_of_testBit_eq fun q=>?_
   rw [Nat.testBit_and,Nat.testBit_two_pow_sub_one,Nat.zero_testBit]
   by_cases hq:q<N
   ·rw [hz q hq];rfl
   ·simp [hq]
  have hA2:iG (((P.erase a).map (·.2)).map (· &&& (2 ^ N-1))) A:=by
   obtain ⟨Q,d,h1,h2,h3⟩:=hA
   refine ⟨Q,d,h1,h2,fun v=>Iff.trans ⟨fun hv=>?_,fun hv=>?_⟩ (h3 v)⟩
   ·refine Sp.trans (fun x hx=>?_) hv
    obtain ⟨y,hy,rfl⟩:=List.mem_map.1 hx
    obtain ⟨b,hb,rfl⟩:=List.mem_map.1 hy
    have:=((hs b.2).2 (Sp.mem (List.mem_map.2 ⟨b,List.mem_of_mem_erase hb,rfl⟩))).map (f:=(· &&& (2 ^ N-1))) (Nat.zero_and _) (fun a b=>Nat.and_xor_distrib_right)
    exact this
   ·have key:∀w,Sp (P.map (·.2)) w→Sp (((P.erase a).map (·.2)).map (· &&& (2 ^ N-1))) (w&&&(2 ^ N-1)):=by
     intro w hw
     induction hw with
     |zero=>rw [Nat.zero_and];exact .zero
     |add hx _ ih=>
      obtain ⟨b,hb,rfl⟩:=List.mem_map.1 hx
      rw [Nat.and_xor_distrib_right]
      by_cases hba:b=a
      ·rw [hba,hza,Nat.zero_xor];exact ih
      ·exact .add (List.mem_map.2 ⟨b.2,List.mem_map.2 ⟨b,(List.mem_erase_of_ne hba).2 hb,rfl⟩,rfl⟩) ih
    refine Sp.trans (fun x hx=>?_) hv
    obtain ⟨r,hr2,rfl⟩:=List.mem_map.1 hx
    exact key r ((hs r).1 (Sp.mem hr2))
  have:=hA2.le
  rw [List.length_map,List.length_map,List.length_erase_of_mem ha] at this
  have:=List.length_pos_of_mem ha
  omega
 have hsort:=hr.2.imp (S:=fun a b:Nat×Nat=>a.1<b.1) fun h=>h.1
 have hat:=ZA P 0 hsort fun a ha=>⟨Nat.zero_le _,by have:=hlow a ha;omega⟩
 refine ⟨by rw [List.length_map];exact hE,fun i x hx=>?_⟩
 rw [List.getElem?_map] at hx
 obtain ⟨a,ha,rfl⟩:=Option.map_eq_some_iff.1 hx
 have hai:=hat i a ha
 have ham:=List.mem_of_getElem? ha
 have hiN:=hlow a ham
 refine Nat.eq_of_testBit_eq fun q=>?_
 rw [Nat.testBit_and,Nat.testBit_two_pow_sub_one,Nat.testBit_two_pow]
 by_cases hq:q<N
 ·obtain ⟨b,hb⟩:∃b,P[q]?=some b:=⟨_,List.getElem?_eq_getElem (by omega)⟩
  have hbq:=hat q b hb
  by_cases hiq:i=q
  ·subst hiq
   have:=(hr.1 a ham).2.1
   rw [show a.1=i by omega] at this
   simp [this,hq]
  ·have:=hr.apart ham (List.mem_of_getElem? hb) (by omega)
   rw [show b.1=q by omega] at this
   simp [this,hiq]
 ·have:i≠q:=by omega
  simp [hq,this]
end Go.Abs
namespace Go.Abs
end Go.Abs
namespace Go.Abs
abbrev K.n:K:=.int .i64
abbrev K.il:K:=.sl (.int .i64)
abbrev AV.i(x:Int):AV:=.imm true (.int .i64) x
section
variable {R R' : Type} {r : R'} {g : R → Option R'}
theorem dM{k:K}{a:AV}{c:Bool→k.den→Tre R}{W:Prop}(h:∀z d,(c z d).run g=some r→a=.imm z k d→W)(e:(bG k a c).run g=some r):W:=
 let ⟨z,d,e1,e2⟩:=iV e
 h z d e2 e1
theorem aH{z0:Bool}{k:K}{a:AV}{c:k.den→Tre R}{W:Prop}(h:∀d,(c d).run g=some r→a=.imm z0 k d→W)(e:(aA z0 k a c).run g=some r):W:=
 let ⟨d,e1,e2⟩:=dJ e
 h d e2 e1
theorem aw2{k:K}{a:AV}{c:Bool→k.den→Tre R}{W:Prop}(h:∀z d,(c z d).run g=some r→a=.iptr z (.sl k) [d] [.idx 0]→W)(e:(ad8 k a c).run g=some r):W:=
 let ⟨z,d,e1,e2⟩:=akz e
 h z d e2 e1
theorem tNn{e:K}{a:AV}{c:Bool→List e.den→Tre R}{W:Prop}(h:∀z d,(c z d).run g=some r→a=.nn z e d→W)(e:(auI e a c).run g=some r):W:=
 let ⟨z,d,e1,e2⟩:=aqg e
 h z d e2 e1
theorem jk{q:au}{p:Path}{a:AV}{c:Tre R}{W:Prop}(h:(c).run g=some r→a=.ref q p→W)(e:(dW q p a c).run g=some r):W:=
 let ⟨e1,e2⟩:=aea e
 h e2 e1
theorem aqa{q:au}{t:Path}{a:AV}{c:Nat→Tre R}{W:Prop}(h:∀n,(c n).run g=some r→a=.ref q (apf t n)→W)(e:(VJ q t a c).run g=some r):W:=
 let ⟨n,e1,e2⟩:=akA e
 h n e2 e1
theorem fJ{q:au}{p:Path}{a:AV}{c:Tre R}{W:Prop}(h:(c).run g=some r→a=.ptr q p→W)(e:(dH q p a c).run g=some r):W:=
 let ⟨e1,e2⟩:=ad9 e
 h e2 e1
theorem tFn{f:Nat}{caps:List au}{a:AV}{c:Tre R}{W:Prop}(h:(c).run g=some r→a=.fn f caps→W)(e:(Pv f caps a c).run g=some r):W:=
 let ⟨e1,e2⟩:=AA e
 h e2 e1
theorem azy{a:AV}{c:Tre R}{W:Prop}(h:(c).run g=some r→a=.nil→W)(e:(ao6 a c).run g=some r):W:=
 let ⟨e1,e2⟩:=ane e
 h e2 e1
theorem aK{α:Type}{l:List α}{c:α→List α→Tre R}{W:Prop}(h:∀x y,(c x y).run g=some r→l=x::y→W)(e:(aD l c).run g=some r):W:=
 let ⟨x,y,e1,e2⟩:=abJ e
 h x y e2 e1
theorem bA{α:Type}{l:List α}{c:Tre R}{W:Prop}(h:(c).run g=some r→l=[]→W)(e:(aM l c).run g=some r):W:=
 let ⟨e1,e2⟩:=VI e
 h e2 e1
theorem tRt{mem:Bool}{k:K}{x:Root}{c:Mask→k.den→Tre R}{W:Prop}(h:∀m d,(c m d).run g=some r→x=⟨mem,k,m,d⟩→W)(e:(yx mem k x c).run g=some r):W:=
 let ⟨m,d,e1,e2⟩:=ahH e
 h m d e2 e1
theorem bN{mem:Bool}{k:K}{o:Option Root}{c:Mask→k.den→Tre R}{W:Prop}(h:∀m d,(c m d).run g=some r→o=some ⟨mem,k,m,d⟩→W)(e:(aX mem k o c).run g=some r):W:=
 let ⟨m,d,e1,e2⟩:=lT e
 h m d e2 e1
theorem tM{m0 m:Mask}{c:Tre R}{W:Prop}(h:(c).run g=some r→m=m0→W)(e:(asM m0 m c).run g=some r):W:=
 let ⟨e1,e2⟩:=Ck e
 h e2 e1
theorem ku{m:Mask}{c:Bool→Tre R}{W:Prop}(h:∀z,(c z).run g=some r→m=.imm z→W)(e:(fB m c).run g=some r):W:=
 let ⟨z,e1,e2⟩:=QB e
 h z e2 e1
end
theorem dh{V:Env}{A:List (Nat×bD)}{a:Code}{kp kx:Keep}{D:St→Tre (Ex×St)} (h:∀(s:St)(e:Ex)(s':St),(D (restrict kp s)).run some=some (e,s') →
  ∃(σ β:Type) (mk:σ→St) (out:β→Ex×St) (step:σ→Tre (σ ⊕ β)) (x:σ) (b:β),restrict kp s=mk x∧aO step x=some b∧out b=(e,s') ∧
   ∀(x:σ)(c:St→Option (Ex×St)),den V A a (mk x) (cu kp kx c)=(step x).run (cB mk out c)):bU V A a ⟨kp,kx,D⟩:=kS h
theorem bS{V:Env}{A:List (Nat×bD)}{a:Code}{kp kx:Keep}{σ β:Type}{mk:σ→St}{out:β→Ex×St}{step:σ→Tre (σ ⊕ β)}{s:St}{e:Ex×St}{x:σ}
  (h4:∀(x:σ)(c:St→Option (Ex×St)),den V A a (mk x) (cu kp kx c)=(step x).run (cB mk out c)) (h:(Tre.mat (aO step x) fun y=>Tre.ret (out y)).run some=some e) (h1:restrict kp s=mk x) :
  ∃(σ β:Type) (mk:σ→St) (out:β→Ex×St) (step:σ→Tre (σ ⊕ β)) (x:σ) (b:β),restrict kp s=mk x∧aO step x=some b∧out b=e ∧
   ∀(x:σ)(c:St→Option (Ex×St)),den V A a (mk x) (cu kp kx c)=(step x).run (cB mk out c):=by
 obtain ⟨y,hy,hz⟩:=adN h
 exact ⟨σ,β,mk,out,step,x,y,h1,hy,Option.some.inj hz,h4⟩
def fnI(fn:Func)(A:List (Nat×bD)):FnI:=⟨fn.body.getD .skip,fn.results.toList,fn.resultTypes.toList,A⟩
def dO(rw:List Nat)(G:List AV→List Root→Tre ay):Ctr:=⟨rw,fun ci=>G ci.args ci.roots,false⟩
theorem aC{P:Program}{V:Env}{Γ:Glb}{fn:Func}{A:List (Nat×bD)}{G:List AV→List Root→Tre ay}{f:FuncId}{rw:List Nat}(hT:gZ P V)(hE:ahB P Γ V)(hf:P.funcs[f]?=some fn)(hL:ru V A (fn.body.getD .skip))
  (h:∀av rs co,(G av rs).run some=some co→(Tre.mat (bR V (fnI fn A) ⟨av,rs⟩) Tre.ret).run some=some co) (hb:fn.body=some (fn.body.getD .skip):=by kernel_rfl)
  (hd:Cn fn.ntmps (fn.body.getD .skip)=true:=by kernel_rfl):Contract P Γ f (dO rw G):=
 (akI (F:=fnI fn A) hT hE hf hb rfl hd hL rw).weaken fun ci co h'=>h ci.args ci.roots co h'
theorem bP{V:Env}{A:List (Nat×bD)}{c:Code}(h:(fM c).length=0:=by kernel_rfl):ru V A c:=alU h
theorem bO{V:Env}{A:List (Nat×bD)}{a:Code}{id:Nat}{L:bD}(h:bU V A a L)(h1:eT a=some id:=by kernel_rfl)(h2:ig id A=some L:=by kernel_rfl):∀i L',eT a=some i→ig i A=some L'→bU V A a L':=arh h1 h2 h
theorem bL{V:Env}{A:List (Nat×bD)}{c:Code}{n:Nat}(h:∀k,k<n→∀i L,eT (aV c k)=some i→ig i A=some L→bU V A (aV c k) L)(hn:(fM c).length=n:=by kernel_rfl):ru V A c:=alT hn h
end Go.Abs
namespace Go.Abs
open Go.Sort
structure ao4 where
 g:List Int→List Int
 len:∀d,(g d).length=d.length
 cut:Option (List Int→Nat)
 le:∀n,cut=some n→∀d,n d≤d.length
def ao4.res(o:ao4)(d:List Int):AV:=match o.cut with
 |none=>.tnil
 |some n=>.slc (0,0) [] 0 (n d)
def ao4.val(o:ao4)(d:List Int)(a:Option Addr)(cap:Nat):Value:=match o.cut with
 |none=>.tuple #[]
 |some n=>.slice a (n d) cap
def asx(zs:List Int):Nat:=(Lib.compact zs).length
def jZ(zs:List Int):List Int:=Lib.compact zs++List.replicate (zs.length-(Lib.compact zs).length) 0
theorem asy(zs:List Int):asx zs≤zs.length:=by
 unfold asx Lib.compact Lib.compactUpTo
 rw [List.length_map]
 refine Nat.le_trans (List.length_filter_le _ _) ?_
 simp
theorem AJ(zs:List Int):(jZ zs).length=zs.length:=by
 have:=asy zs
 unfold asx at this
 unfold jZ
 rw [List.length_append,List.length_replicate];omega
end Go.Abs
namespace Go.Proofs.Ytmilokkchghpjaa
open Go Go.Abs Go.Proofs
abbrev aL:K:=(.pair .n (.pair .n .unit))
abbrev bQ:K:=(.pair .n (.pair .il .unit))
abbrev dz:K:=(.pair (.sl (.int .u8)) (.pair .n (.pair (.int .u64) .unit)))
abbrev bJ:K:=(.pair aL (.pair .il (.pair .n .unit)))
abbrev gI:K:=(.pair aL (.pair .n (.pair (.sl .il) .unit)))
def tau:List (Nat×TI):=[(26,⟨.il,24,2⟩),(2,⟨.n,8,0⟩),(25,⟨aL,16,0⟩),(28,⟨bJ,48,0⟩),(34,⟨bQ,32,0⟩),(79,⟨(.sl .il),24,26⟩),(3,⟨.n,8,0⟩),(91,⟨gI,48,0⟩),(71,⟨dz,40,0⟩),(22,⟨(.sl (.int .u8)),24,5⟩),(69,⟨(.int .u64),8,0⟩),(96,⟨.il,24,3⟩),(81,⟨(.sl aL),24,25⟩),(5,⟨(.int .u8),1,0⟩),(1,⟨.fn,8,0⟩),(4,⟨.bool,1,0⟩),(9,⟨.str,16,0⟩),(12,⟨(.int .u64),8,0⟩),(13,⟨(.pair .str (.pair (.int .u64) .unit)),24,0⟩),(21,⟨(.int .i32),4,0⟩),(23,⟨.fn,8,0⟩),(24,⟨aL,16,0⟩),(27,⟨bJ,48,0⟩),(29,⟨.fn,8,0⟩),(30,⟨.fn,8,0⟩),(32,⟨.fn,8,0⟩),(33,⟨bQ,32,0⟩),(35,⟨.fn,8,0⟩),(36,⟨.fn,8,0⟩),(37,⟨.fn,8,0⟩),(38,⟨.fn,8,0⟩),(39,⟨.fn,8,0⟩),(40,⟨.fn,8,0⟩),(41,⟨.fn,8,0⟩),(42,⟨.fn,8,0⟩),(43,⟨.fn,8,0⟩),(44,⟨.ptr,8,0⟩),(45,⟨.fn,8,0⟩),(46,⟨.fn,8,0⟩),(47,⟨.fn,8,0⟩),(48,⟨.ptr,8,0⟩),(49,⟨.fn,8,0⟩),(50,⟨.fn,8,0⟩),(51,⟨.fn,8,0⟩),(52,⟨(.int .u64),8,0⟩),(53,⟨.fn,8,0⟩),(54,⟨.fn,8,0⟩),(55,⟨.fn,8,0⟩),(56,⟨.fn,8,0⟩),(57,⟨.fn,8,0⟩),(59,⟨.fn,8,0⟩),(60,⟨.fn,8,0⟩),(61,⟨.fn,8,0⟩),(62,⟨.fn,8,0⟩),(63,⟨.fn,8,0⟩),(65,⟨.fn,8,0⟩),(66,⟨.fn,8,0⟩),(67,⟨.fn,8,0⟩),(68,⟨.fn,8,0⟩),(70,⟨dz,40,0⟩),(72,⟨.fn,8,0⟩),(73,⟨.fn,8,0⟩),(74,⟨.fn,8,0⟩),(75,⟨.fn,8,0⟩),(76,⟨.fn,8,0⟩),(77,⟨.fn,8,0⟩),(78,⟨.fn,8,0⟩),(80,⟨.fn,8,0⟩),(82,⟨.fn,8,0⟩),(83,⟨.fn,8,0⟩),(84,⟨.fn,8,0⟩),(85,⟨.fn,8,0⟩),(86,⟨.fn,8,0⟩),(87,⟨.fn,8,0⟩),(88,⟨.fn,8,0⟩),(89,⟨.fn,8,0⟩),(90,⟨gI,48,0⟩),(92,⟨.fn,8,0⟩),(93,⟨.fn,8,0⟩),(94,⟨.fn,8,0⟩),(95,⟨.fn,8,0⟩),(97,⟨.fn,8,0⟩),(98,⟨.fn,8,0⟩),(99,⟨.fn,8,0⟩),(100,⟨.fn,8,0⟩),(106,⟨.fn,8,0⟩),(107,⟨(.int .u32),4,0⟩),(110,⟨.fn,8,0⟩),(111,⟨.ptr,8,0⟩),(116,⟨.fn,8,0⟩)]
theorem aW{E:List (Nat×Ctr)}{Z:List (Nat×List Frz)}:gZ Try.prog ⟨tau,E,Z⟩:=auw (auv (by kernel_rfl)) (by kernel_rfl)
theorem azo:Go.Abs.Enters Try.prog 4:=⟨Try.f4,Try.func4,by kernel_rfl,by kernel_rfl⟩
theorem azp:Go.Abs.Enters Try.prog 5:=⟨Try.f5,Try.func5,by kernel_rfl,by kernel_rfl⟩
theorem azq:Go.Abs.Enters Try.prog 6:=⟨Try.f6,Try.func6,by kernel_rfl,by kernel_rfl⟩
theorem azr:Go.Abs.Enters Try.prog 7:=⟨Try.f7,Try.func7,by kernel_rfl,by kernel_rfl⟩
theorem azs:Go.Abs.Enters Try.prog 8:=⟨Try.f8,Try.func8,by kernel_rfl,by kernel_rfl⟩
theorem azt:Go.Abs.Enters Try.prog 9:=⟨Try.f9,Try.func9,by kernel_rfl,by kernel_rfl⟩
theorem ax7:Go.Abs.Enters Try.prog 10:=⟨Try.f10,Try.func10,by kernel_rfl,by kernel_rfl⟩
theorem ax8:Go.Abs.Enters Try.prog 11:=⟨Try.f11,Try.func11,by kernel_rfl,by kernel_rfl⟩
theorem ax9:Go.Abs.Enters Try.prog 12:=⟨Try.f12,Try.func12,by kernel_rfl,by kernel_rfl⟩
theorem aya:Go.Abs.Enters Try.prog 13:=⟨Try.f13,Try.func13,by kernel_rfl,by kernel_rfl⟩
theorem ayb:Go.Abs.Enters Try.prog 14:=⟨Try.f14,Try.func14,by kernel_rfl,by kernel_rfl⟩
theorem ayc:Go.Abs.Enters Try.prog 15:=⟨Try.f15,Try.func15,by kernel_rfl,by kernel_rfl⟩
theorem ayd:Go.Abs.Enters Try.prog 16:=⟨Try.f16,Try.func16,by kernel_rfl,by kernel_rfl⟩
theorem ahR:Go.Abs.Enters Try.prog 17:=⟨Try.f17,Try.func17,by kernel_rfl,by kernel_rfl⟩
theorem aye:Go.Abs.Enters Try.prog 18:=⟨Try.f18,Try.func18,by kernel_rfl,by kernel_rfl⟩
theorem ayf:Go.Abs.Enters Try.prog 19:=⟨Try.f19,Try.func19,by kernel_rfl,by kernel_rfl⟩
theorem awd:Go.Abs.Enters Try.prog 20:=⟨Try.f20,Try.func20,by kernel_rfl,by kernel_rfl⟩
theorem ayg:Go.Abs.Enters Try.prog 21:=⟨Try.f21,Try.func21,by kernel_rfl,by kernel_rfl⟩
theorem aep:Go.Abs.Enters Try.prog 22:=⟨Try.f22,Try.func22,by kernel_rfl,by kernel_rfl⟩
theorem awe:Go.Abs.Enters Try.prog 23:=⟨Try.f23,Try.func23,by kernel_rfl,by kernel_rfl⟩
theorem awf:Go.Abs.Enters Try.prog 24:=⟨Try.f24,Try.func24,by kernel_rfl,by kernel_rfl⟩
theorem abN:Go.Abs.Enters Try.prog 25:=⟨Try.f25,Try.func25,by kernel_rfl,by kernel_rfl⟩
theorem ayh:Go.Abs.Enters Try.prog 26:=⟨Try.f26,Try.func26,by kernel_rfl,by kernel_rfl⟩
theorem ayi:Go.Abs.Enters Try.prog 27:=⟨Try.f27,Try.func27,by kernel_rfl,by kernel_rfl⟩
theorem awg:Go.Abs.Enters Try.prog 28:=⟨Try.f28,Try.func28,by kernel_rfl,by kernel_rfl⟩
theorem akZ:Go.Abs.Enters Try.prog 29:=⟨Try.f29,Try.func29,by kernel_rfl,by kernel_rfl⟩
theorem awh:Go.Abs.Enters Try.prog 30:=⟨Try.f30,Try.func30,by kernel_rfl,by kernel_rfl⟩
theorem ayj:Go.Abs.Enters Try.prog 31:=⟨Try.f31,Try.func31,by kernel_rfl,by kernel_rfl⟩
theorem ayk:Go.Abs.Enters Try.prog 32:=⟨Try.f32,Try.func32,by kernel_rfl,by kernel_rfl⟩
theorem awi:Go.Abs.Enters Try.prog 33:=⟨Try.f33,Try.func33,by kernel_rfl,by kernel_rfl⟩
theorem awj:Go.Abs.Enters Try.prog 34:=⟨Try.f34,Try.func34,by kernel_rfl,by kernel_rfl⟩
theorem apb:Go.Abs.Enters Try.prog 35:=⟨Try.f35,Try.func35,by kernel_rfl,by kernel_rfl⟩
theorem asQ:Go.Abs.Enters Try.prog 36:=⟨Try.f36,Try.func36,by kernel_rfl,by kernel_rfl⟩
theorem ayl:Go.Abs.Enters Try.prog 37:=⟨Try.f37,Try.func37,by kernel_rfl,by kernel_rfl⟩
theorem awk:Go.Abs.Enters Try.prog 38:=⟨Try.f38,Try.func38,by kernel_rfl,by kernel_rfl⟩
theorem awl:Go.Abs.Enters Try.prog 39:=⟨Try.f39,Try.func39,by kernel_rfl,by kernel_rfl⟩
theorem aym:Go.Abs.Enters Try.prog 40:=⟨Try.f40,Try.func40,by kernel_rfl,by kernel_rfl⟩
theorem ayn:Go.Abs.Enters Try.prog 41:=⟨Try.f41,Try.func41,by kernel_rfl,by kernel_rfl⟩
theorem apc:Go.Abs.Enters Try.prog 42:=⟨Try.f42,Try.func42,by kernel_rfl,by kernel_rfl⟩
theorem ayo:Go.Abs.Enters Try.prog 43:=⟨Try.f43,Try.func43,by kernel_rfl,by kernel_rfl⟩
theorem ayp:Go.Abs.Enters Try.prog 44:=⟨Try.f44,Try.func44,by kernel_rfl,by kernel_rfl⟩
theorem awm:Go.Abs.Enters Try.prog 45:=⟨Try.f45,Try.func45,by kernel_rfl,by kernel_rfl⟩
theorem ayq:Go.Abs.Enters Try.prog 46:=⟨Try.f46,Try.func46,by kernel_rfl,by kernel_rfl⟩
theorem ayr:Go.Abs.Enters Try.prog 47:=⟨Try.f47,Try.func47,by kernel_rfl,by kernel_rfl⟩
theorem ak0:Go.Abs.Enters Try.prog 48:=⟨Try.f48,Try.func48,by kernel_rfl,by kernel_rfl⟩
theorem ays:Go.Abs.Enters Try.prog 49:=⟨Try.f49,Try.func49,by kernel_rfl,by kernel_rfl⟩
theorem ayt:Go.Abs.Enters Try.prog 50:=⟨Try.f50,Try.func50,by kernel_rfl,by kernel_rfl⟩
theorem ayu:Go.Abs.Enters Try.prog 51:=⟨Try.f51,Try.func51,by kernel_rfl,by kernel_rfl⟩
theorem ak1:Go.Abs.Enters Try.prog 52:=⟨Try.f52,Try.func52,by kernel_rfl,by kernel_rfl⟩
theorem ayv:Go.Abs.Enters Try.prog 53:=⟨Try.f53,Try.func53,by kernel_rfl,by kernel_rfl⟩
theorem ayw:Go.Abs.Enters Try.prog 54:=⟨Try.f54,Try.func54,by kernel_rfl,by kernel_rfl⟩
theorem ayx:Go.Abs.Enters Try.prog 55:=⟨Try.f55,Try.func55,by kernel_rfl,by kernel_rfl⟩
theorem ayy:Go.Abs.Enters Try.prog 56:=⟨Try.f56,Try.func56,by kernel_rfl,by kernel_rfl⟩
theorem awn:Go.Abs.Enters Try.prog 57:=⟨Try.f57,Try.func57,by kernel_rfl,by kernel_rfl⟩
theorem awo:Go.Abs.Enters Try.prog 58:=⟨Try.f58,Try.func58,by kernel_rfl,by kernel_rfl⟩
theorem apd:Go.Abs.Enters Try.prog 59:=⟨Try.f59,Try.func59,by kernel_rfl,by kernel_rfl⟩
theorem ahS:Go.Abs.Enters Try.prog 60:=⟨Try.f60,Try.func60,by kernel_rfl,by kernel_rfl⟩
theorem awp:Go.Abs.Enters Try.prog 61:=⟨Try.f61,Try.func61,by kernel_rfl,by kernel_rfl⟩
theorem ayz:Go.Abs.Enters Try.prog 62:=⟨Try.f62,Try.func62,by kernel_rfl,by kernel_rfl⟩
theorem ayA:Go.Abs.Enters Try.prog 63:=⟨Try.f63,Try.func63,by kernel_rfl,by kernel_rfl⟩
theorem ayB:Go.Abs.Enters Try.prog 64:=⟨Try.f64,Try.func64,by kernel_rfl,by kernel_rfl⟩
theorem ayC:Go.Abs.Enters Try.prog 65:=⟨Try.f65,Try.func65,by kernel_rfl,by kernel_rfl⟩
theorem asR:Go.Abs.Enters Try.prog 66:=⟨Try.f66,Try.func66,by kernel_rfl,by kernel_rfl⟩
theorem awq:Go.Abs.Enters Try.prog 67:=⟨Try.f67,Try.func67,by kernel_rfl,by kernel_rfl⟩
theorem ayD:Go.Abs.Enters Try.prog 68:=⟨Try.f68,Try.func68,by kernel_rfl,by kernel_rfl⟩
theorem ayE:Go.Abs.Enters Try.prog 69:=⟨Try.f69,Try.func69,by kernel_rfl,by kernel_rfl⟩
theorem ayF:Go.Abs.Enters Try.prog 70:=⟨Try.f70,Try.func70,by kernel_rfl,by kernel_rfl⟩
theorem ahT:Go.Abs.Enters Try.prog 71:=⟨Try.f71,Try.func71,by kernel_rfl,by kernel_rfl⟩
theorem ayG:Go.Abs.Enters Try.prog 72:=⟨Try.f72,Try.func72,by kernel_rfl,by kernel_rfl⟩
theorem ayH:Go.Abs.Enters Try.prog 73:=⟨Try.f73,Try.func73,by kernel_rfl,by kernel_rfl⟩
theorem awr:Go.Abs.Enters Try.prog 74:=⟨Try.f74,Try.func74,by kernel_rfl,by kernel_rfl⟩
theorem ape:Go.Abs.Enters Try.prog 75:=⟨Try.f75,Try.func75,by kernel_rfl,by kernel_rfl⟩
theorem ayI:Go.Abs.Enters Try.prog 76:=⟨Try.f76,Try.func76,by kernel_rfl,by kernel_rfl⟩
theorem awt:Go.Abs.Enters Try.prog 77:=⟨Try.f77,Try.func77,by kernel_rfl,by kernel_rfl⟩
theorem ayJ:Go.Abs.Enters Try.prog 78:=⟨Try.f78,Try.func78,by kernel_rfl,by kernel_rfl⟩
theorem ayK:Go.Abs.Enters Try.prog 79:=⟨Try.f79,Try.func79,by kernel_rfl,by kernel_rfl⟩
theorem awu:Go.Abs.Enters Try.prog 80:=⟨Try.f80,Try.func80,by kernel_rfl,by kernel_rfl⟩
theorem ayL:Go.Abs.Enters Try.prog 81:=⟨Try.f81,Try.func81,by kernel_rfl,by kernel_rfl⟩
theorem ayM:Go.Abs.Enters Try.prog 82:=⟨Try.f82,Try.func82,by kernel_rfl,by kernel_rfl⟩
theorem awv:Go.Abs.Enters Try.prog 83:=⟨Try.f83,Try.func83,by kernel_rfl,by kernel_rfl⟩
theorem aww:Go.Abs.Enters Try.prog 84:=⟨Try.f84,Try.func84,by kernel_rfl,by kernel_rfl⟩
theorem awx:Go.Abs.Enters Try.prog 85:=⟨Try.f85,Try.func85,by kernel_rfl,by kernel_rfl⟩
theorem ayN:Go.Abs.Enters Try.prog 86:=⟨Try.f86,Try.func86,by kernel_rfl,by kernel_rfl⟩
theorem ayO:Go.Abs.Enters Try.prog 87:=⟨Try.f87,Try.func87,by kernel_rfl,by kernel_rfl⟩
theorem ayP:Go.Abs.Enters Try.prog 88:=⟨Try.f88,Try.func88,by kernel_rfl,by kernel_rfl⟩
theorem ayQ:Go.Abs.Enters Try.prog 89:=⟨Try.f89,Try.func89,by kernel_rfl,by kernel_rfl⟩
theorem awy:Go.Abs.Enters Try.prog 90:=⟨Try.f90,Try.func90,by kernel_rfl,by kernel_rfl⟩
theorem ayR:Go.Abs.Enters Try.prog 91:=⟨Try.f91,Try.func91,by kernel_rfl,by kernel_rfl⟩
theorem ayS:Go.Abs.Enters Try.prog 92:=⟨Try.f92,Try.func92,by kernel_rfl,by kernel_rfl⟩
theorem ayT:Go.Abs.Enters Try.prog 93:=⟨Try.f93,Try.func93,by kernel_rfl,by kernel_rfl⟩
theorem awz:Go.Abs.Enters Try.prog 94:=⟨Try.f94,Try.func94,by kernel_rfl,by kernel_rfl⟩
theorem ayU:Go.Abs.Enters Try.prog 95:=⟨Try.f95,Try.func95,by kernel_rfl,by kernel_rfl⟩
theorem ayV:Go.Abs.Enters Try.prog 96:=⟨Try.f96,Try.func96,by kernel_rfl,by kernel_rfl⟩
theorem ayW:Go.Abs.Enters Try.prog 97:=⟨Try.f97,Try.func97,by kernel_rfl,by kernel_rfl⟩
theorem asS:Go.Abs.Enters Try.prog 98:=⟨Try.f98,Try.func98,by kernel_rfl,by kernel_rfl⟩
theorem ayX:Go.Abs.Enters Try.prog 99:=⟨Try.f99,Try.func99,by kernel_rfl,by kernel_rfl⟩
theorem aw9:Go.Abs.Enters Try.prog 100:=⟨Try.f100,Try.func100,by kernel_rfl,by kernel_rfl⟩
theorem axa:Go.Abs.Enters Try.prog 101:=⟨Try.f101,Try.func101,by kernel_rfl,by kernel_rfl⟩
abbrev aZ:=(Int×((List Int)×Unit))
abbrev aY:=((List Int)×(Int×(Int×Unit)))
abbrev aS:=((Int×(Int×Unit))×((List Int)×(Int×Unit)))
abbrev eF:=((Int×(Int×Unit))×(Int×((List (List Int))×Unit)))
def apr (p0:List Int):Tre Bool:=
 .ret (decide ((p0.length:Int)>4096))
def aq8 (p0:List Int):Option Bool:=(apr p0).run some
def xV(p0:List Int):Bool:=
 decide ((p0.length:Int)>4096)
theorem ajB(p0:List Int):aq8 p0=some (xV p0):=rfl
def aif:Env:=⟨tau,[],[]⟩
def ara:FnI:=fnI Try.f4 []
def ab4 (_:Bool) (_:List Int):Bool→ay:=fun r=>⟨(.imm true .bool r),[],[]⟩
theorem aoi:∀(zp0:Bool)(p0:List Int),bR aif ara ⟨[(.imm zp0 (.sl (.int .u8)) p0)],[]⟩=(apr p0).run fun r=>some (ab4 zp0 p0 r):=fun _ _=>by kernel_rfl
def aq9 (av:List AV) (rs:List Root):Tre ay:=
 aD av fun a0_ av0=>
 aM av0<|
 aM rs<|
 bG (.sl (.int .u8)) a0_ fun z2 d1=>
 .ret (ab4 z2 d1 (xV d1))
def aii:Ctr:=dO [] aq9
theorem aoj:Contract Try.prog .none 4 aii:=aC (V:=aif) aW aJ Try.func4 bP fun _ _ _=>aK fun _ _=>bA<|bA<|dM fun _ _=>fun h=>by intros;subst_vars;exact Bw (aoi _ _) (ajB _) h
def aiu (p0:List Int):Tre aY:=
 .ret (p0,(0,(0,())))
def amu (p0:List Int):Option aY:=(aiu p0).run some
theorem afT(p0:List Int):amu p0=some (p0,(0,(0,()))):=rfl
def aci:Env:=⟨tau,[],[]⟩
def amw:FnI:=fnI Try.f17 []
def Vq (zp0:Bool) (_:List Int):aY→ay:=fun r=>⟨(.ptr (1,0) []),[],[⟨true,dz,(.imm zp0),r⟩]⟩
theorem aj0:∀(zp0:Bool)(p0:List Int),bR aci amw ⟨[(.imm zp0 (.sl (.int .u8)) p0)],[]⟩=(aiu p0).run fun r=>some (Vq zp0 p0 r):=fun _ _=>by kernel_rfl
def amv (av:List AV) (rs:List Root):Tre ay:=
 aD av fun a0_ av0=>
 aM av0<|
 aM rs<|
 bG (.sl (.int .u8)) a0_ fun z2 d1=>
 .ret (Vq z2 d1 (d1,(0,(0,()))))
def sU:Ctr:=dO [] amv
theorem uy:Contract Try.prog .none 17 sU:=aC (V:=aci) aW aJ Try.func17 bP fun _ _ _=>aK fun _ _=>bA<|bA<|dM fun _ _=>fun h=>by intros;subst_vars;exact Bw (aj0 _ _) (afT _) h
def wX (p0:aY):Tre (Int×aY):=
 .cond (decide (p0.2.1<(p0.1.length:Int)))
  (.ite (0≤p0.2.1∧p0.2.1<(p0.1.length:Int))<|
  .mat (p0.1[p0.2.1.toNat]?) fun x1=>
  let v2:=aF .u64 (p0.2.2.1*6364136223846793005)
  let v3:=aF .u64 (aF .i64 x1)
  let v4:=aF .u64 ((aF .u64 (v2+v3))+1442695040888963407)
  .cond (decide (aF .i64 (p0.2.1+1)≤(p0.1.length:Int)))
   (.ret (aF .i64 x1,(p0.1,(aF .i64 (p0.2.1+1),(v4,p0.2.2.2)))))
   (let v5:=Gw .u64 (Kl .u64 v4 40) 255
   .ret (aF .i64 v5,(p0.1,(aF .i64 (p0.2.1+1),(v4,p0.2.2.2))))))
  (let v6:=aF .u64 (p0.2.2.1*6364136223846793005)
  let v7:=aF .u64 ((aF .u64 (v6+0))+1442695040888963407)
  .cond (decide (aF .i64 (p0.2.1+1)≤(p0.1.length:Int)))
   (.ret (0,(p0.1,(aF .i64 (p0.2.1+1),(v7,p0.2.2.2)))))
   (let v8:=Gw .u64 (Kl .u64 v7 40) 255
   .ret (aF .i64 v8,(p0.1,(aF .i64 (p0.2.1+1),(v7,p0.2.2.2))))))
def kg (p0:aY):Option (Int×aY):=(wX p0).run some
def Dm:Env:=⟨tau,[],[]⟩
def SB:FnI:=fnI Try.f44 []
def zI (zp0:Bool) (_:aY):(Int×aY)→ay:=fun r=>⟨(.i r.1),[⟨true,dz,(.imm zp0),r.2⟩],[]⟩
theorem Qf:∀(zp0:Bool)(p0:aY),bR Dm SB ⟨[(.ptr (0,0) [])],[⟨true,dz,(.imm zp0),p0⟩]⟩=(wX p0).run fun r=>some (zI zp0 p0 r):=fun _ _=>by kernel_rfl
def SA (av:List AV) (rs:List Root):Tre ay:=
 aD av fun a0_ av0=>
 aM av0<|
 aD rs fun r0_ rs0=>
 aM rs0<|
 dH (0,0) [] a0_<|
 yx true dz r0_ fun m1 d2=>
 fB m1 fun z3=>
 .mat (kg d2) fun r=>.ret (zI z3 d2 r)
def Dn:Ctr:=dO [] SA
theorem Qg:Contract Try.prog .none 44 Dn:=aC (V:=Dm) aW aJ Try.func44 bP fun _ _ _=>aK fun _ _=>bA<|aK fun _ _=>bA<|fJ<|tRt fun _ _=>ku fun _=>fun h=>by intros;subst_vars;exact bB (Qf _ _) h
def wY (p0:Int) (p1:aY):Tre (Int×aY):=
 .cond (decide (p0≤1))
  (.ret (0,p1))
  (.mat (kg p1) fun r1=>
  .cond (decide (p0>200))
   (.mat (kg r1.2) fun r2=>
   let v3:=aF .i64 ((aF .i64 (r1.1*256))+r2.1)
   .ifn (p0=0)<|
   .ret (Int.tmod v3 p0,r2.2))
   (.ifn (p0=0)<|
   .ret (Int.tmod r1.1 p0,r1.2)))
def dn (p0:Int) (p1:aY):Option (Int×aY):=(wY p0 p1).run some
def Dp:Env:=⟨tau,[(44,Dn)],[]⟩
def SF:FnI:=fnI Try.f22 []
def zK (zp0:Bool) (_:Int) (_:aY):(Int×aY)→ay:=fun r=>⟨(.i r.1),[⟨true,dz,(.imm zp0),r.2⟩],[]⟩
theorem Qh:∀(zp0:Bool)(p0:Int)(p1:aY),bR Dp SF ⟨[(.ptr (0,0) []),(.i p0)],[⟨true,dz,(.imm zp0),p1⟩]⟩=(wY p0 p1).run fun r=>some (zK zp0 p0 p1 r):=fun _ _ _=>by kernel_rfl
def SE (av:List AV) (rs:List Root):Tre ay:=
 aD av fun a0_ av0=>
 aD av0 fun a1_ av1=>
 aM av1<|
 aD rs fun r0_ rs0=>
 aM rs0<|
 dH (0,0) [] a0_<|
 aA true .n a1_ fun d1=>
 yx true dz r0_ fun m2 d3=>
 fB m2 fun z4=>
 .mat (dn d1 d3) fun r=>.ret (zK z4 d1 d3 r)
def fF:Ctr:=dO [] SE
theorem fO:Contract Try.prog .none 22 fF:=aC (V:=Dp) aW (ak Qg ayp aJ) Try.func22 bP fun _ _ _=>aK fun _ _=>aK fun _ _=>bA<|aK fun _ _=>bA<|fJ<|aH fun _=>tRt fun _ _=>ku fun _=>fun h=>by intros;subst_vars;exact bB (Qh _ _ _) h
def GK:(Int×Int)→Tre ((Int×Int) ⊕ Int):=fun s2=>
 .cond (decide (s2.1>0))
  (let v1:=aF .i64 (Int.tdiv s2.1 2)
  .ret (.inl (v1,aF .i64 (s2.2+1))))
  (.ret (.inr s2.2))
def aco (p0:Int):Tre Int:=
 .mat (aO GK (p0,-1)) fun l2=>
 .ret l2
def nW (p0:Int):Option Int:=(aco p0).run some
def BU:Env:=⟨tau,[],[]⟩
def Vr:Code:=(Try.f66.body).getD .skip
def JH:(Int×Int)→St:=fun x=>bX [(0,(.i x.1)),(3,(.i x.2))] []
def GL:Int→Ex×St:=fun x=>(.exit 0,bX [(3,(.i x))] [])
def abl (s:St):Tre (Ex×St):=
 aA true .n (s.tmps 0) fun d2=>
 aA true .n (s.tmps 3) fun d4=>
 .mat (aO GK (d2,d4)) fun x=>.ret (GL x)
def uz:bD:=⟨([0,3],[]),([3],[]),abl⟩
def Kr:List (Nat×bD):=[(2,uz)]
theorem UD:∀(x:(Int×Int))(c:St→Option (Ex×St)),den BU Kr (aV Vr 0) (JH x) (cu uz.kp uz.kx c)=(GK x).run (cB (JH) (GL) c):=fun _ _=>by
 kernel_rfl
theorem Ze:bU BU Kr (aV Vr 0) uz:=dh fun _ _ _=>aH fun _=>aH fun _=>fun h e3 e1=>bS UD h (by subst_vars;exact aP rfl rfl ⟨e1,e3,trivial⟩ trivial)
def ahn:FnI:=fnI Try.f66 Kr
def Pj (_:Int):Int→ay:=fun r=>⟨(.i r),[],[]⟩
theorem afX:∀(p0:Int),bR BU ahn ⟨[(.i p0)],[]⟩=(aco p0).run fun r=>some (Pj p0 r):=fun _=>by kernel_rfl
def ahm (av:List AV) (rs:List Root):Tre ay:=
 aD av fun a0_ av0=>
 aM av0<|
 aM rs<|
 aA true .n a0_ fun d1=>
 .mat (nW d1) fun r=>.ret (Pj d1 r)
def BX:Ctr:=dO [] ahm
theorem GN:Contract Try.prog .none 66 BX:=aC (V:=BU) aW aJ Try.func66 (bL (n:=1) fun k hk=>by
 match k,hk with
 |0,_=>exact bO (id:=2) Ze) fun _ _ _=>aK fun _ _=>bA<|bA<|aH fun _=>fun h=>by intros;subst_vars;exact bB (afX _) h
def Oh (bH:Int) (dA:Int):Int→Tre (Int ⊕ Int):=fun s2=>
 .mat (nW s2) fun r2=>
 .cond (decide (r2 ≥ dA))
  (.mat (nW s2) fun r3=>
  let v4:=aF .u64 (aF .i64 (r3-dA))
  .ite (0≤v4)<|
  let v5:=iF .i64 s2 (yu .i64 bH v4)
  .ret (.inl v5))
  (.ret (.inr s2))
def aiz (p0:Int) (p1:Int):Tre Int:=
 .mat (nW p1) fun r1=>
 .mat (aO (Oh p1 r1) p0) fun l6=>
 .ret l6
def SK (p0:Int) (p1:Int):Option Int:=(aiz p0 p1).run some
def JJ:Env:=⟨tau,[(66,BX)],[]⟩
def acu:Code:=(Try.f85.body).getD .skip
def Pn (bH:Int) (dA:Int):Int→St:=fun x=>bX [(0,(.i x)),(1,(.i bH)),(5,(.i dA))] []
def LZ (_:Int) (_:Int):Int→Ex×St:=fun x=>(.exit 0,bX [(0,(.i x))] [])
def af3 (s:St):Tre (Ex×St):=
 aA true .n (s.tmps 0) fun d2=>
 aA true .n (s.tmps 1) fun d4=>
 aA true .n (s.tmps 5) fun d6=>
 .mat (aO (Oh d4 d6) d2) fun x=>.ret (LZ d4 d6 x)
def zL:bD:=⟨([0,1,5],[]),([0],[]),af3⟩
def SI:List (Nat×bD):=[(2,zL)]
theorem Zh:∀(bH dA x:Int)(c:St→Option (Ex×St)),den JJ SI (aV acu 0) (Pn bH dA x) (cu zL.kp zL.kx c)=(Oh bH dA x).run (cB (Pn bH dA) (LZ bH dA) c):=fun _ _ _ _=>by
 kernel_rfl
theorem adv:bU JJ SI (aV acu 0) zL:=dh fun _ _ _=>aH fun _=>aH fun _=>aH fun _=>fun h e5 e3 e1=>bS (Zh _ _) h (by subst_vars;exact aP rfl rfl ⟨e1,e3,e5,trivial⟩ trivial)
def amC:FnI:=fnI Try.f85 SI
def Vu (_:Int) (_:Int):Int→ay:=fun r=>⟨(.i r),[],[]⟩
theorem aj3:∀(p0 p1:Int),bR JJ amC ⟨[(.i p0),(.i p1)],[]⟩=(aiz p0 p1).run fun r=>some (Vu p0 p1 r):=fun _ _=>by kernel_rfl
def amB (av:List AV) (rs:List Root):Tre ay:=
 aD av fun a0_ av0=>
 aD av0 fun a1_ av1=>
 aM av1<|
 aM rs<|
 aA true .n a0_ fun d1=>
 aA true .n a1_ fun d2=>
 .mat (SK d1 d2) fun r=>.ret (Vu d1 d2 r)
def SL:Ctr:=dO [] amB
theorem Zi:Contract Try.prog .none 85 SL:=aC (V:=JJ) aW (ak GN asR aJ) Try.func85 (bL (n:=1) fun k hk=>by
 match k,hk with
 |0,_=>exact bO (id:=2) adv) fun _ _ _=>aK fun _ _=>aK fun _ _=>bA<|bA<|aH fun _=>aH fun _=>fun h=>by intros;subst_vars;exact bB (aj3 _ _) h
def oG (qR:Int) (qU:Int):Int→Tre (Int ⊕ (Bool ⊕ Unit)):=fun s5=>
 .mat (nW s5) fun r2=>
 .cond (decide (r2<qU))
  (.mat (SK qR s5) fun r3=>
  .cond (decide (r3=0))
   (.ret (.inr (.inl false)))
   (.ret (.inl (aF .i64 (s5+1)))))
  (.ret (.inr (.inr ())))
def LX (p0:Int):Tre Bool:=
 .mat (nW p0) fun r1=>
 .cond (decide (r1<1))
  (.ret false)
  (.cond (decide (r1>5))
   (.ret false)
   (.mat (aO (oG p0 r1) 2) fun l4=>
   .alt l4
    (fun a5=>
     .ret a5)
    (fun _=>
     .ret true)))
def w9 (p0:Int):Option Bool:=(LX p0).run some
def qg:Env:=⟨tau,[(66,BX),(85,SL)],[]⟩
def GV:Code:=(Try.f84.body).getD .skip
def qh (qR:Int) (qU:Int):Int→St:=fun x=>bX [(0,(.i qR)),(3,(.i qU)),(4,(.i x))] []
def kV (_:Int) (_:Int):(Bool ⊕ Unit)→Ex×St
 |.inl x=>(.ret,bX [(2,(.imm true .bool x))] [])
 |.inr _=>(.exit 0,bX [(2,.dead)] [])
def Al (s:St):Tre (Ex×St):=
 aA true .n (s.tmps 0) fun d2=>
 aA true .n (s.tmps 3) fun d4=>
 aA true .n (s.tmps 4) fun d6=>
 .mat (aO (oG d2 d4) d6) fun x=>.alt x (fun a0=>.ret (kV d2 d4 (.inl a0))) (fun b0=>.ret (kV d2 d4 (.inr b0)))
def jC:bD:=⟨([0,3,4],[]),([2],[]),Al⟩
def wZ:List (Nat×bD):=[(5,jC)]
theorem Ku:∀(qR qU x:Int)(c:St→Option (Ex×St)),den qg wZ (aV GV 0) (qh qR qU x) (cu jC.kp jC.kx c)=(oG qR qU x).run (cB (qh qR qU) (kV qR qU) c):=fun _ _ _ _=>by
 kernel_rfl
theorem Oe:bU qg wZ (aV GV 0) jC:=kS fun s e s' h=>by
 generalize hs:restrict jC.kp s=s1 at h
 have h:(Al s1).run some=some (e,s'):=h
 obtain ⟨d2,e1,h_0⟩:=dJ h
 obtain ⟨d4,e3,h_1⟩:=dJ h_0
 obtain ⟨d6,e5,h_2⟩:=dJ h_1
 obtain ⟨y,hy,hz⟩:=mF h_2
 refine ⟨_,_,qh d2 d4,kV d2 d4,oG d2 d4,d6,y,?_,hy,?_,Ku d2 d4⟩
 ·subst hs;exact aP (T:=[(0,(.i d2)),(3,(.i d4)),(4,(.i d6))]) (U:=[]) rfl rfl ⟨e1,e3,e5,trivial⟩ trivial
 ·rcases y with x|x<;>exact Option.some.inj hz
def Xh:FnI:=fnI Try.f84 wZ
def Dq (_:Int):Bool→ay:=fun r=>⟨(.imm true .bool r),[],[]⟩
theorem UF:∀(p0:Int),bR qg Xh ⟨[(.i p0)],[]⟩=(LX p0).run fun r=>some (Dq p0 r):=fun _=>by kernel_rfl
def Xg (av:List AV) (rs:List Root):Tre ay:=
 aD av fun a0_ av0=>
 aM av0<|
 aM rs<|
 aA true .n a0_ fun d1=>
 .mat (w9 d1) fun r=>.ret (Dq d1 r)
def xg:Ctr:=dO [] Xg
theorem Eu:Contract Try.prog .none 84 xg:=aC (V:=qg) aW (ak GN asR (ak Zi awx aJ)) Try.func84 (bL (n:=1) fun k hk=>by
 match k,hk with
 |0,_=>exact bO (id:=5) Oe) fun _ _ _=>aK fun _ _=>bA<|bA<|aH fun _=>fun h=>by intros;subst_vars;exact bB (UF _) h
-- shared
def allI{α:Type}(p:Nat→α→Bool):Nat→List α→Bool
 |_,[]=>true
 |i,x::l=>p i x&&allI p (i+1) l
theorem am7{α:Type}{p:α→Bool}:∀(l:List α)(i:Nat),allI (fun _ x=>p x) i l=l.all p:=by
 intro l
 induction l with
 |nil=>intro i;rfl
 |cons x l ih=>intro i;simp only [allI,List.all_cons,ih]
theorem anP{α β:Type}{p:Nat→α→Bool}{b0 b1:β}:∀(l:List α)(i:Nat),uJ (γ:=Unit) (fun i _ x=>cond (p i x) (.inl ()) (.inr b0)) (fun _=>b1) i () l=cond (allI p i l) b1 b0:=by
 intro l
 induction l with
 |nil=>intro i;rfl
 |cons x l ih=>
  intro i
  simp only [uJ,allI]
  cases p i x with
  |true=>simp only [cond_true,Bool.true_and];exact ih _
  |false=>rfl
theorem asi{α β:Type}{step:Int→Tre (Int ⊕ β)}{xs:List α}(p:Nat→α→Bool)(b0 b1:β)
  (hs:∀i x,xs[i]?=some x→(∀j y,j<i→xs[j]?=some y→p j y=true)→(step (i:Int)).run some=some (cond (p i x) (.inl ((i+1:Nat):Int)) (.inr b0)))
  (he:(step (xs.length:Int)).run some=some (.inr b1)):aO step 0=some (cond (allI p 0 xs) b1 b0):=by
 have:=xE (xs:=xs) (step:=step) (γ:=Unit) (fun i _=>(i:Int)) (fun i _ x=>cond (p i x) (.inl ()) (.inr b0)) (fun _=>b1) (fun i _=>∀j y,j<i→xs[j]?=some y→p j y=true)
  (by
   intro i acc x hx hI
   refine ⟨?_,?_⟩
   ·rw [hs i x hx hI]
    cases p i x<;>rfl
   ·intro a ha j y hj hy
    cases hp:p i x with
    |false=>rw [hp] at ha;cases ha
    |true=>
     by_cases hji:j=i
     ·subst hji;rw [hx] at hy;cases hy;exact hp
     ·exact hI j y (by omega) hy)
  (fun _ _=>he) xs 0 () rfl (Nat.zero_le _) (by intro j y h;omega)
 rw [←anP xs 0]
 exact this
theorem ahD{α β:Type}{step:Int→Tre (Int ⊕ β)}{xs:List α}(p:α→Bool)(b0 b1:β)
  (hs:∀(i:Nat) x,xs[i]?=some x→(step (i:Int)).run some=some (cond (p x) (.inl ((i+1:Nat):Int)) (.inr b0)))
  (he:(step (xs.length:Int)).run some=some (.inr b1)):aO step 0=some (cond (xs.all p) b1 b0):=by
 rw [←am7 xs 0]
 exact asi (fun _ x=>p x) b0 b1 (fun i x hx _=>hs i x hx) he
theorem atg{α:Type}{p:α→Bool}(l:List α):(!decide (qA (fun x=>!p x) 0 l ≥ 0))=l.all p:=by
 rw [alx]
 induction l with
 |nil=>rfl
 |cons x l ih=>simp only [List.any_cons,List.all_cons,←ih,Bool.not_or,Bool.not_not]
def atQ{α β:Type}(f:Nat→α→Option β):Nat→List α→List β
 |_,[]=>[]
 |i,x::l=>match f i x with
  |some y=>y::atQ f (i+1) l
  |none=>atQ f (i+1) l
theorem qd{i:Nat}(h0:0<i)(h:i<4611686018427387904):aF .i64 ((i:Int)-1)=((i-1:Nat):Int):=by
 rw [dG (by omega) (by omega)];omega
theorem len2{e:List Int}(h:e.length=2):∃a b,e=[a,b]:=by
 match e,h with
 |[a,b],_=>exact ⟨a,b,rfl⟩
-- shared
abbrev TF3:=Int×Int×Unit
def aeu:List (Int×Int):=[(1,2),(1,3),(2,7),(3,11),(3,13),(4,19),(4,25),(4,31),(5,37),(5,41),(5,47),(5,55),(5,59),(5,61)]
def aG(f:TF3):Bool:=aeu.contains (f.1,f.2.1)
theorem QG{f:TF3}(h:aG f=true):(f.1,f.2.1)∈aeu:=by simpa [aG] using h
theorem iH{f:TF3}(h:aG f=true):1≤f.1∧f.1≤5:=by
 have h:=QG h
 have:∀x∈aeu,1≤x.1∧x.1≤5:=by decide
 exact this _ h
theorem ai4{f:TF3}(h:aG f=true):2≤f.2.1∧f.2.1≤61:=by
 have h:=QG h
 have:∀x∈aeu,2≤x.2∧x.2≤61:=by decide
 exact this _ h
theorem ak2{F:TF3→Option Bool}(hd:∀f:TF3,inR f.1 1 5=false→F f=some false)
  (hb:∀f:TF3,(f.2.1<0∨64≤f.2.1)→F f=some false)
  (hk:((List.range' 1 5).all fun d=>(List.range 64).all fun p=>F ((d:Int),(p:Int),()) == some (aG ((d:Int),(p:Int),())))=true) (f:TF3):F f=some (aG f):=by
 have hno:∀g:TF3,(¬(1≤g.1∧g.1≤5)∨¬(0≤g.2.1∧g.2.1<64))→aG g=false:=by
  intro g hg
  cases h:aG g with
  |false=>rfl
  |true=>
   have h1:=iH h
   have h2:=ai4 h
   omega
 obtain ⟨d,p,⟨⟩⟩:=f
 by_cases h1:1≤d∧d≤5
 ·by_cases h2:0≤p∧p<64
  ·obtain ⟨n,rfl⟩:=Int.eq_ofNat_of_zero_le (show 0≤d by omega)
   obtain ⟨m,rfl⟩:=Int.eq_ofNat_of_zero_le h2.1
   have h3:=List.all_eq_true.1 (List.all_eq_true.1 hk n (List.mem_range'_1.2 (by omega))) m (List.mem_range.2 (by omega))
   exact eq_of_beq h3
  ·rw [hb _ (by show p<0∨64≤p;omega),hno _ (.inr h2)]
 ·rw [hd _ (aq3.2 (by show d<1∨5<d;omega)),hno _ (.inl h1)]
-- shared
def ax0:Nat→Nat→Nat→Nat
 |0,_,_=>0
 |n+1,a,b=>Nat.xor (bif Nat.beq (b%2) 1 then a else 0) (ax0 n (2*a) (b/2))
def awZ:Nat→Nat→Nat→Nat
 |0,c,_=>c
 |n+1,c,p=>bif Nat.ble (Nat.log2 p) (Nat.log2 c) then awZ n (Nat.xor c (Nat.shiftLeft p (Nat.log2 c-Nat.log2 p))) p else c
def mulN(p a b:Nat):Nat:=awZ 6 (ax0 6 a b) p
def iL(f:TF3)(a b:Int):Int:=((mulN f.2.1.toNat a.toNat b.toNat:Nat):Int)
def inF(f:TF3)(a:Int):Prop:=0≤a∧a<((2 ^ f.1.toNat:Nat):Int)
def iW:List (Nat×Nat):=[(1,2),(1,3),(2,7),(3,11),(3,13),(4,19),(4,25),(4,31),(5,37),(5,41),(5,47),(5,55),(5,59),(5,61)]
def yA(F:TF3→Int→Int→Option Int)(G:Nat→Nat→Nat→Nat)(d p:Nat):Bool:=(List.range (2 ^ d)).all fun a=>(List.range (2 ^ d)).all fun b=>F ((d:Int),(p:Int),()) (a:Int) (b:Int) == some ((G p a b:Nat):Int)
theorem AP{f:TF3}(h:aG f=true):∃d p:Nat,(d,p)∈iW∧f=((d:Int),(p:Int),()):=by
 have h1:=QG h
 obtain ⟨a,b,⟨⟩⟩:=f
 have key:∀x∈aeu,∃q∈iW,x=((q.1:Int),(q.2:Int)):=by decide
 obtain ⟨q,h2,h3⟩:=key _ h1
 simp only [Prod.mk.injEq] at h3
 exact ⟨q.1,q.2,h2,by rw [h3.1,h3.2]⟩
theorem aut{F:TF3→Int→Int→Option Int}{G:Nat→Nat→Nat→Nat}(h:∀q∈iW,yA F G q.1 q.2=true){f:TF3}(hf:aG f=true){a b:Int}(ha:inF f a)(hb:inF f b):F f a b=some ((G f.2.1.toNat a.toNat b.toNat:Nat):Int):=by
 obtain ⟨d,p,hq,rfl⟩:=AP hf
 obtain ⟨ha0,ha1⟩:=ha
 obtain ⟨hb0,hb1⟩:=hb
 simp only [Int.toNat_natCast] at ha1 hb1
 obtain ⟨m,rfl⟩:=Int.eq_ofNat_of_zero_le ha0
 obtain ⟨n,rfl⟩:=Int.eq_ofNat_of_zero_le hb0
 have h1:=List.all_eq_true.1 (List.all_eq_true.1 (h _ hq) m (List.mem_range.2 (by exact_mod_cast ha1))) n (List.mem_range.2 (by exact_mod_cast hb1))
 exact eq_of_beq h1
def GQ (aQ:Int):(Int×(List (Int×(Int×Unit))))→Tre ((Int×(List (Int×(Int×Unit)))) ⊕ (List (Int×(Int×Unit)))):=fun s3=>
 .ite (0≤aF .u64 aQ)<|
 let v2:=yu .i64 2 (aF .u64 aQ)
 .cond (decide (s3.1<v2))
  (.mat (w9 s3.1) fun r3=>
  .cond r3
   (.ite ((s3.2.length+1)*16≤bE∧1≤16)<|
   let v4:=s3.2++([(aQ,(s3.1,()))])
   .ret (.inl (aF .i64 (s3.1+1),v4)))
   (.ret (.inl (aF .i64 (s3.1+1),s3.2))))
  (.ret (.inr s3.2))
def acp (p0:Int):Tre (List (Int×(Int×Unit))):=
 .ite (0≤aF .u64 p0)<|
 let v1:=yu .i64 1 (aF .u64 p0)
 .mat (aO (GQ p0) (v1,[])) fun l5=>
 .ret l5
def BZ (p0:Int):Option (List (Int×(Int×Unit))):=(acp p0).run some
-- more
def II(d:Nat):List TF3:=(iW.filter fun q=>q.1 == d).map fun q=>((q.1:Int),(q.2:Int),())
theorem anM:((List.range' 1 5).all fun d=>BZ (d:Int) == some (II d))=true:=by kernel_rfl
theorem aqG{d:Nat}(h1:1≤d)(h2:d≤5):BZ (d:Int)=some (II d):=by
 have:=List.all_eq_true.1 anM d (List.mem_range'_1.2 (by omega))
 exact eq_of_beq this
theorem anL{d:Nat}(h1:1≤d)(h2:d≤5):1≤(II d).length∧(II d).length≤6∧∀f∈II d,aG f=true∧f.1=(d:Int):=by
 have:∀d∈List.range' 1 5,1≤(II d).length∧(II d).length≤6∧∀f∈II d,aG f=true∧f.1=(d:Int):=by decide
 exact this d (List.mem_range'_1.2 (by omega))
def Ca:Env:=⟨tau,[(84,xg)],[]⟩
def Vs:Code:=(Try.f64.body).getD .skip
def JI (aQ:Int):(Int×(List (Int×(Int×Unit))))→St:=fun x=>bX [(0,(.i aQ)),(3,(.ref (5,0) [])),(4,(.i x.1))] [((5,0),some ⟨false,(.sl aL),.own,x.2⟩)]
def GU (_:Int):(List (Int×(Int×Unit)))→Ex×St:=fun x=>(.exit 0,bX [(3,(.ref (5,0) []))] [((5,0),some ⟨false,(.sl aL),.own,x⟩)])
def abm (s:St):Tre (Ex×St):=
 aA true .n (s.tmps 0) fun d2=>
 dW (5,0) [] (s.tmps 3)<|
 aA true .n (s.tmps 4) fun d5=>
 aX false (.sl aL) (s.roots (5,0)) fun m7 d8=>
 asM .own m7<|
 .mat (aO (GQ d2) (d5,d8)) fun x=>.ret (GU d2 x)
def uD:bD:=⟨([0,3,4],[(5,0)]),([3],[(5,0)]),abm⟩
def Kt:List (Nat×bD):=[(3,uD)]
theorem UE:∀(aQ:Int)(x:(Int×(List (Int×(Int×Unit)))))(c:St→Option (Ex×St)),den Ca Kt (aV Vs 0) (JI aQ x) (cu uD.kp uD.kx c)=(GQ aQ x).run (cB (JI aQ) (GU aQ) c):=fun _ _ _=>by
 kernel_rfl
theorem Zf:bU Ca Kt (aV Vs 0) uD:=dh fun _ _ _=>aH fun _=>jk<|aH fun _=>bN fun _ _=>tM<|fun h _ e6 e4 e3 e1=>bS (UE _) h (by subst_vars;exact aP rfl rfl ⟨e1,e3,e4,trivial⟩ ⟨e6,trivial⟩)
def ahp:FnI:=fnI Try.f64 Kt
def Pk (_:Int):(List (Int×(Int×Unit)))→ay:=fun r=>⟨(.ref (1,0) []),[],[⟨false,(.sl aL),.own,r⟩]⟩
theorem afY:∀(p0:Int),bR Ca ahp ⟨[(.i p0)],[]⟩=(acp p0).run fun r=>some (Pk p0 r):=fun _=>by kernel_rfl
def aho (av:List AV) (rs:List Root):Tre ay:=
 aD av fun a0_ av0=>
 aM av0<|
 aM rs<|
 aA true .n a0_ fun d1=>
 .mat (BZ d1) fun r=>.ret (Pk d1 r)
def Vt:Ctr:=dO [] aho
theorem afZ:Contract Try.prog .none 64 Vt:=aC (V:=Ca) aW (ak Eu aww aJ) Try.func64 (bL (n:=1) fun k hk=>by
 match k,hk with
 |0,_=>exact bO (id:=3) Zf) fun _ _ _=>aK fun _ _=>bA<|bA<|aH fun _=>fun h=>by intros;subst_vars;exact bB (afY _) h
def zJ (p0:Int) (p1:aY):Tre (Bool×aY):=
 .mat (dn p0 p1) fun r1=>
 .ret (decide (r1.1=0),r1.2)
def jr (p0:Int) (p1:aY):Option (Bool×aY):=(zJ p0 p1).run some
def Et:Env:=⟨tau,[(22,fF)],[]⟩
def UC:FnI:=fnI Try.f36 []
def Ak (zp0:Bool) (_:Int) (_:aY):(Bool×aY)→ay:=fun r=>⟨(.imm true .bool r.1),[⟨true,dz,(.imm zp0),r.2⟩],[]⟩
theorem SC:∀(zp0:Bool)(p0:Int)(p1:aY),bR Et UC ⟨[(.ptr (0,0) []),(.i p0)],[⟨true,dz,(.imm zp0),p1⟩]⟩=(zJ p0 p1).run fun r=>some (Ak zp0 p0 p1 r):=fun _ _ _=>by kernel_rfl
def UA (av:List AV) (rs:List Root):Tre ay:=
 aD av fun a0_ av0=>
 aD av0 fun a1_ av1=>
 aM av1<|
 aD rs fun r0_ rs0=>
 aM rs0<|
 dH (0,0) [] a0_<|
 aA true .n a1_ fun d1=>
 yx true dz r0_ fun m2 d3=>
 fB m2 fun z4=>
 .mat (jr d1 d3) fun r=>.ret (Ak z4 d1 d3 r)
def oF:Ctr:=dO [] UA
theorem sV:Contract Try.prog .none 36 oF:=aC (V:=Et) aW (ak fO aep aJ) Try.func36 bP fun _ _ _=>aK fun _ _=>aK fun _ _=>bA<|aK fun _ _=>bA<|fJ<|aH fun _=>tRt fun _ _=>ku fun _=>fun h=>by intros;subst_vars;exact bB (SC _ _ _) h
-- shared
def eX{α:Type}(t:Tre α)(Q:α→Prop):Prop:=∃a,t.run some=some a∧Q a
theorem eX.ret{α:Type}{a:α}{Q:α→Prop}(h:Q a):eX (.ret a) Q:=⟨a,rfl,h⟩
theorem eX.cond{α:Type}{b:Bool}{t f:Tre α}{Q:α→Prop}(ht:b=true→eX t Q)(hf:b=false→eX f Q):eX (.cond b t f) Q:=by
 cases b
 ·exact hf rfl
 ·exact ht rfl
theorem eX.ahN{α:Type}{p:Prop} [Decidable p] {t f:Tre α} {Q:α→Prop} (ht:p→eX t Q) (hf:¬p→eX f Q):eX (.cond (decide p) t f) Q:=
 eX.cond (fun h=>ht (of_decide_eq_true h)) (fun h=>hf (of_decide_eq_false h))
theorem eX.ite{α:Type}{p:Prop} [h:Decidable p] {t:Tre α} {Q:α→Prop} (hp:p) (ht:p→eX t Q):eX (.ite p t) Q:=by
 obtain ⟨a,h1,h2⟩:=ht hp
 exact ⟨a,by rw [Tre.run_ite,if_pos hp];exact h1,h2⟩
theorem eX.ifn{α:Type}{p:Prop} [h:Decidable p] {t:Tre α} {Q:α→Prop} (hp:¬p) (ht:eX t Q):eX (.ifn p t) Q:=by
 obtain ⟨a,h1,h2⟩:=ht
 exact ⟨a,by rw [Tre.Jy,if_neg hp];exact h1,h2⟩
theorem eX.mat{α β:Type}{o:Option β}{k:β→Tre α}{P:β→Prop}{Q:α→Prop}(h:∃x,o=some x∧P x)(hk:∀x,P x→eX (k x) Q):eX (.mat o k) Q:=by
 obtain ⟨x,rfl,hx⟩:=h
 exact hk x hx
theorem eX.get{α β:Type}{o:Option β}{x:β}{k:β→Tre α}{Q:α→Prop}(h:o=some x)(hk:eX (k x) Q):eX (.mat o k) Q:=by
 subst h;exact hk
theorem eX.at{α β:Type}{xs:List β}{i:Int}{k:β→Tre α}{Q:α→Prop}(hi:0≤i∧i<(xs.length:Int))(hk:∀x,x∈xs→eX (k x) Q):eX (.mat xs[i.toNat]? k) Q:=by
 have hl:i.toNat<xs.length:=by omega
 exact .get (List.getElem?_eq_getElem hl) (hk _ (List.getElem_mem hl))
theorem eX.at0{α β:Type}{xs:List β}{k:β→Tre α}{Q:α→Prop}(hi:0<xs.length)(hk:∀x,x∈xs→eX (k x) Q):eX (.mat xs[0]? k) Q:=
 .get (List.getElem?_eq_getElem hi) (hk _ (List.getElem_mem hi))
theorem eX.run{α:Type}{t:Tre α}{Q:α→Prop}(h:eX t Q):∃a,t.run some=some a∧Q a:=h
abbrev Src:=List Int×Int×Int×Unit
def lg(c:Nat)(s:Src):Prop:=s.1.length≤5000∧(∀x∈s.1,0≤x∧x≤255)∧0≤s.2.1∧s.2.1≤(c:Int)
theorem lg.mono{c c':Nat}{s:Src}(h:lg c s)(hc:c≤c'):lg c' s:=⟨h.1,h.2.1,h.2.2.1,by have:=h.2.2.2;omega⟩
theorem aw7(a:Int):0≤Gw .u64 a 255∧Gw .u64 a 255≤255:=by
 have h:(BitVec.ofInt 64 a&&&BitVec.ofInt 64 255).toNat≤255:=by
  rw [BitVec.toNat_and]
  exact Nat.le_trans Nat.and_le_right (by decide)
 unfold Gw
 show 0≤aF .u64 (((BitVec.ofInt 64 a&&&BitVec.ofInt 64 255).toNat:Nat):Int)∧aF .u64 (((BitVec.ofInt 64 a&&&BitVec.ofInt 64 255).toNat:Nat):Int)≤255
 rw [TJ (by omega) (by omega)]
 omega
theorem apx{c:Nat}{s:Src}(h:lg c s)(hc:c≤100000):∃r,kg s=some r∧((0≤r.1∧r.1≤255)∧lg (c+1) r.2):=by
 obtain ⟨h1,h2,h3,h4⟩:=h
 have hw:aF .i64 (s.2.1+1)=s.2.1+1:=dG (by omega) (by omega)
 have hsrc:∀v:Int,lg (c+1) (s.1,aF .i64 (s.2.1+1),v,s.2.2.2):=fun v=>⟨h1,h2,by show 0≤aF .i64 (s.2.1+1);omega,by show aF .i64 (s.2.1+1)≤((c+1:Nat):Int);omega⟩
 have hand:∀a:Int,0≤aF .i64 (Gw .u64 a 255)∧aF .i64 (Gw .u64 a 255)≤255:=fun a=>by
  have:=aw7 a
  rw [dG (by omega) (by omega)];exact this
 unfold kg wX
 refine eX.run (eX.ahN (fun hlt=>eX.ite ⟨h3,hlt⟩ fun hi=>eX.at hi fun x hx=>?_) (fun _=>?_))
 ·have hb:=h2 x hx
  have hx1:aF .i64 x=x:=dG (by omega) (by omega)
  exact eX.ahN (fun _=>.ret ⟨by rw [hx1];exact hb,hsrc _⟩) (fun _=>.ret ⟨hand _,hsrc _⟩)
 ·exact eX.ahN (fun _=>.ret ⟨⟨Int.le_refl 0,by show (0:Int)≤255;omega⟩,hsrc _⟩) (fun _=>.ret ⟨hand _,hsrc _⟩)
theorem amW{x n:Int}(hx:0≤x)(hn:0<n):0≤Int.tmod x n∧Int.tmod x n<n:=⟨Int.tmod_nonneg n hx,Int.tmod_lt_of_pos x hn⟩
theorem zA{n:Int}{c:Nat}{s:Src}(h:lg c s)(hc:c≤90000):∃r,dn n s=some r∧((0≤r.1∧(r.1=0∨r.1<n))∧lg (c+2) r.2):=by
 unfold dn wY
 refine eX.run (eX.ahN (fun _=>.ret ⟨⟨Int.le_refl _,.inl rfl⟩,h.mono (by omega)⟩) (fun hn=>eX.mat (apx h (by omega)) fun x hx=>eX.ahN (fun _=>eX.mat (apx hx.2 (by omega)) fun y hy=>?_) (fun _=>?_)))
 ·refine eX.ifn (by omega) (.ret ⟨?_,hy.2⟩)
  have h1:aF .i64 (x.1*256)=x.1*256:=dG (by omega) (by omega)
  have h2:aF .i64 (aF .i64 (x.1*256)+y.1)=x.1*256+y.1:=by rw [h1];exact dG (by omega) (by omega)
  show 0≤Int.tmod (aF .i64 (aF .i64 (x.1*256)+y.1)) n∧(Int.tmod (aF .i64 (aF .i64 (x.1*256)+y.1)) n=0∨Int.tmod (aF .i64 (aF .i64 (x.1*256)+y.1)) n<n)
  rw [h2]
  have:=amW (x:=x.1*256+y.1) (n:=n) (by omega) (by omega)
  exact ⟨this.1,.inr this.2⟩
 ·refine eX.ifn (by omega) (.ret ⟨?_,hx.2.mono (by omega)⟩)
  have:=amW (x:=x.1) (n:=n) (by omega) (by omega)
  exact ⟨this.1,.inr this.2⟩
theorem aow{n:Int}{c:Nat}{s:Src}(h:lg c s)(hc:c≤90000):∃r,jr n s=some r∧lg (c+2) r.2:=by
 unfold jr zJ
 exact eX.run (eX.mat (zA h hc) fun x hx=>.ret hx.2)
def vC (p0:Int) (p1:aY):Tre ((Int×(Int×Unit))×aY):=
 .mat (dn p0 p1) fun r1=>
 .mat (BZ (aF .i64 (1+r1.1))) fun r2=>
 .mat (dn (r2.length:Int) r1.2) fun r3=>
 .ite (0≤r3.1∧r3.1<(r2.length:Int))<|
 .mat (r2[r3.1.toNat]?) fun x4=>
 .ret (x4,r3.2)
def mR (p0:Int) (p1:aY):Option ((Int×(Int×Unit))×aY):=(vC p0 p1).run some
-- more
theorem aiZ{m:Nat}(h1:1≤m)(h2:m≤5){c:Nat}{s:Src}(h:lg c s)(hc:c≤80000):∃r,mR (m:Int) s=some r∧((aG r.1=true∧1≤r.1.1∧r.1.1≤(m:Int))∧lg (c+4) r.2):=by
 unfold mR vC
 refine eX.run (eX.mat (zA h (by omega)) fun a ha=>?_)
 obtain ⟨d,hd⟩:∃d:Nat,a.1=(d:Int):=⟨a.1.toNat,by omega⟩
 have hw:aF .i64 (1+a.1)=((d+1:Nat):Int):=by rw [dG (by omega) (by omega)];omega
 have hf:=anL (d:=d+1) (by omega) (by omega)
 rw [hw]
 refine eX.get (aqG (by omega) (by omega)) (eX.mat (zA ha.2 (by omega)) fun b hb=>eX.ite ⟨hb.1.1,by omega⟩ fun hi=>eX.at hi fun x hx=>.ret ?_)
 have:=hf.2.2 x hx
 exact ⟨⟨this.1,by show 1≤x.1;omega,by show x.1≤_;omega⟩,hb.2⟩
def Am:Env:=⟨tau,[(22,fF),(64,Vt)],[]⟩
def Ql:FnI:=fnI Try.f37 []
def yc (zp0:Bool) (_:Int) (_:aY):((Int×(Int×Unit))×aY)→ay:=fun r=>⟨(.imm true aL r.1),[⟨true,dz,(.imm zp0),r.2⟩],[]⟩
theorem Oj:∀(zp0:Bool)(p0:Int)(p1:aY),bR Am Ql ⟨[(.ptr (0,0) []),(.i p0)],[⟨true,dz,(.imm zp0),p1⟩]⟩=(vC p0 p1).run fun r=>some (yc zp0 p0 p1 r):=fun _ _ _=>by kernel_rfl
def Qk (av:List AV) (rs:List Root):Tre ay:=
 aD av fun a0_ av0=>
 aD av0 fun a1_ av1=>
 aM av1<|
 aD rs fun r0_ rs0=>
 aM rs0<|
 dH (0,0) [] a0_<|
 aA true .n a1_ fun d1=>
 yx true dz r0_ fun m2 d3=>
 fB m2 fun z4=>
 .mat (mR d1 d3) fun r=>.ret (yc z4 d1 d3 r)
def Ao:Ctr:=dO [] Qk
theorem Ol:Contract Try.prog .none 37 Ao:=aC (V:=Am) aW (ak fO aep (ak afZ ayB aJ)) Try.func37 bP fun _ _ _=>aK fun _ _=>aK fun _ _=>bA<|aK fun _ _=>bA<|fJ<|aH fun _=>tRt fun _ _=>ku fun _=>fun h=>by intros;subst_vars;exact bB (Oj _ _ _) h
def TS (p0:(Int×(Int×Unit))):Tre Int:=
 .ite (0≤aF .u64 p0.1)<|
 let v1:=yu .i64 1 (aF .u64 p0.1)
 .ret v1
def iO (p0:(Int×(Int×Unit))):Option Int:=(TS p0).run some
def acv:Env:=⟨tau,[],[]⟩
def amE:FnI:=fnI Try.f29 []
def Vv (_:(Int×(Int×Unit))):Int→ay:=fun r=>⟨(.i r),[],[]⟩
theorem aj4:∀(p0:(Int×(Int×Unit))),bR acv amE ⟨[(.imm true aL p0)],[]⟩=(TS p0).run fun r=>some (Vv p0 r):=fun _=>by kernel_rfl
def amD (av:List AV) (rs:List Root):Tre ay:=
 aD av fun a0_ av0=>
 aM av0<|
 aM rs<|
 aA true aL a0_ fun d1=>
 .mat (iO d1) fun r=>.ret (Vv d1 r)
def xZ:Ctr:=dO [] amD
theorem zM:Contract Try.prog .none 29 xZ:=aC (V:=acv) aW aJ Try.func29 bP fun _ _ _=>aK fun _ _=>bA<|bA<|aH fun _=>fun h=>by intros;subst_vars;exact bB (aj4 _) h
def afU (p0:List Int):Tre (List Int):=
 .ite ((0+p0.length)*8≤bE∧1≤8)<|
 .ret ([]++p0)
def afV (p0:List Int):Option (List Int):=(afU p0).run some
theorem ahl(p0 y:List Int)(h:oM p0=some y):afV p0=some y:=by
 obtain ⟨hl,rfl⟩:=YF h
 have hb:(0+p0.length)*8≤bE∧1≤8:=by unfold bE;omega
 unfold afV afU
 rw [Tre.run_ite,if_pos hb]
 rfl
def afW:Env:=⟨tau,[],[]⟩
def aoF:FnI:=fnI Try.f39 []
def Zd (_:Bool) (_:List Int):(List Int)→ay:=fun r=>⟨(.ref (1,0) []),[],[⟨false,.il,.own,r⟩]⟩
theorem amx:∀(zp0:Bool)(p0:List Int),bR afW aoF ⟨[(.imm zp0 .il p0)],[]⟩=(afU p0).run fun r=>some (Zd zp0 p0 r):=fun _ _=>by kernel_rfl
def aoE (av:List AV) (rs:List Root):Tre ay:=
 aD av fun a0_ av0=>
 aM av0<|
 aM rs<|
 bG .il a0_ fun z2 d1=>
 .mat (oM d1) fun r=>.ret (Zd z2 d1 r)
def Xf:Ctr:=dO [] aoE
theorem acn:Contract Try.prog .none 39 Xf:=aC (V:=afW) aW aJ Try.func39 bP fun _ _ _=>aK fun _ _=>bA<|bA<|dM fun _ _=>fun h=>by intros;subst_vars;exact yC (amx _ _) (ahl _) h
def af6 (p0:Int) (p1:Int):Tre Int:=
 .ite (0≤aF .u64 p1)<|
 let v1:=Kl .i64 p0 (aF .u64 p1)
 .ret (Gw .i64 v1 1)
def af7 (p0:Int) (p1:Int):Option Int:=(af6 p0 p1).run some
def aiP(x j:Int):Option Int:=agD (inR j 0 9223372036854775807) (Gw .i64 (Kl .i64 x j) 1)
theorem aht(p0 p1 y:Int)(h:aiP p0 p1=some y):af7 p0 p1=some y:=by
 obtain ⟨hl,rfl⟩:=xC h
 rw [iR] at hl
 unfold af7 af6
 rw [TJ hl.1 (by omega),Tre.run_ite,if_pos hl.1]
 rfl
theorem aec{x:Int}{j:Nat}(h:j≤1048576):aiP x (j:Int)=some (Gw .i64 (Kl .i64 x j) 1):=kG (by rw [iR];omega)
def af8:Env:=⟨tau,[],[]⟩
def aoM:FnI:=fnI Try.f30 []
def Zk (_:Int) (_:Int):Int→ay:=fun r=>⟨(.i r),[],[]⟩
theorem amF:∀(p0 p1:Int),bR af8 aoM ⟨[(.i p0),(.i p1)],[]⟩=(af6 p0 p1).run fun r=>some (Zk p0 p1 r):=fun _ _=>by kernel_rfl
def aoL (av:List AV) (rs:List Root):Tre ay:=
 aD av fun a0_ av0=>
 aD av0 fun a1_ av1=>
 aM av1<|
 aM rs<|
 aA true .n a0_ fun d1=>
 aA true .n a1_ fun d2=>
 .mat (aiP d1 d2) fun r=>.ret (Zk d1 d2 r)
def Xk:Ctr:=dO [] aoL
theorem acw:Contract Try.prog .none 30 Xk:=aC (V:=af8) aW aJ Try.func30 bP fun _ _ _=>aK fun _ _=>aK fun _ _=>bA<|bA<|aH fun _=>aH fun _=>fun h=>by intros;subst_vars;exact yC (amF _ _) (aht _ _) h
def lF (eu:Int) (eB:List Int):(Int×Int)→Tre ((Int×Int) ⊕ Int):=fun s8=>
 .cond (decide (s8.2<(eB.length:Int)))
  (.cond (decide (s8.1<0))
   (.ite (0≤s8.2∧s8.2<(eB.length:Int))<|
   .mat (eB[s8.2.toNat]?) fun x2=>
   .mat (aiP x2 eu) fun r3=>
   .cond (decide (r3=1))
    (.ret (.inl (s8.2,aF .i64 (s8.2+1))))
    (.ret (.inl (s8.1,aF .i64 (s8.2+1)))))
   (.ret (.inr s8.1)))
  (.ret (.inr s8.1))
def iP (BF:Int) (BG:Int):(Int×(List Int))→Tre ((Int×(List Int)) ⊕ (List Int)):=fun s16=>
 .cond (decide (s16.1<(s16.2.length:Int)))
  (.ite (0≤s16.1∧s16.1<(s16.2.length:Int))<|
  .mat (s16.2[s16.1.toNat]?) fun x7=>
  .mat (aiP x7 BF) fun r8=>
  .cond (decide (r8=1))
   (.ite (0≤s16.1∧s16.1<(s16.2.length:Int))<|
   .mat (s16.2[s16.1.toNat]?) fun x9=>
   .ite (0≤s16.1∧s16.1<(s16.2.length:Int))<|
   .mat (s16.2[s16.1.toNat]?) fun _=>
   let v11:=s16.2.set s16.1.toNat (iF .i64 x9 BG)
   .ret (.inl (aF .i64 (s16.1+1),v11)))
   (.ret (.inl (aF .i64 (s16.1+1),s16.2))))
  (.ret (.inr s16.2))
def pz (BK:Int) (BL:Int):(Int×(List Int))→Tre ((Int×(List Int)) ⊕ (List Int)):=fun s21=>
 .cond (decide (s21.1<(s21.2.length:Int)))
  (.ite (0≤s21.1∧s21.1<(s21.2.length:Int))<|
  .mat (s21.2[s21.1.toNat]?) fun x13=>
  .mat (aiP x13 BK) fun r14=>
  .cond (decide (r14=1))
   (.ite (0≤s21.1∧s21.1<(s21.2.length:Int))<|
   .mat (s21.2[s21.1.toNat]?) fun x15=>
   .ite (0≤s21.1∧s21.1<(s21.2.length:Int))<|
   .mat (s21.2[s21.1.toNat]?) fun _=>
   let v17:=s21.2.set s21.1.toNat (iF .i64 x15 BL)
   .ret (.inl (aF .i64 (s21.1+1),v17)))
   (.ret (.inl (aF .i64 (s21.1+1),s21.2))))
  (.ret (.inr s21.2))
def gB (bT:Int):(Int×(List Int)×(List Int))→Tre ((Int×(List Int)×(List Int)) ⊕ (List Int)):=fun s4=>
 .cond (decide (s4.1<bT))
  (.mat (aO (lF s4.1 s4.2.1) (-1,0)) fun l4=>
  .cond (decide (l4<0))
   (.ret (.inl (aF .i64 (s4.1+1),s4.2.1,s4.2.2)))
   (.ite (0≤l4∧l4<(s4.2.1.length:Int))<|
   .mat (s4.2.1[l4.toNat]?) fun x5=>
   .ite (0≤l4∧l4<(s4.2.1.length:Int))<|
   .mat (s4.2.1[l4.toNat]?) fun _=>
   .mat (aO (iP s4.1 x5) (0,s4.2.1.set l4.toNat 0)) fun l12=>
   .mat (aO (pz s4.1 x5) (0,s4.2.2)) fun l18=>
   .ite ((l18.length+1)*8≤bE∧1≤8)<|
   .ret (.inl (aF .i64 (s4.1+1),l12,l18++([x5])))))
  (.ret (.inr s4.2.2))
def Oi (p0:Int) (p1:List Int):Tre (List Int):=
 .mat (oM p1) fun r1=>
 .mat (aO (gB p0) (0,r1,[])) fun l19=>
 .ret l19
def SQ (p0:Int) (p1:List Int):Option (List Int):=(Oi p0 p1).run some
def anH (m:Int) (xs:List Int):Option (List Int):=agD (inR m 0 62&&Bp m.toNat xs) (JV xs)
theorem Zl(c:Nat)(hc:c≤62)(xs:List Int)(hl:xs.length≤1048576):aO (lF (c:Int) xs) (-1,0)=some (qA (fun x=>oL x (c:Int)) 0 xs):=by
 have:=xE (xs:=xs) (step:=lF (c:Int) xs) (fun i acc=>(acc,(i:Int))) (fun i acc x=>cond (decide (acc<0)) (.inl (cond (oL x (c:Int)) (i:Int) acc)) (.inr acc)) id (fun _ _=>True) (by
  intro i acc x hx _
  refine ⟨?_,fun _ _=>trivial⟩
  have hi:i<xs.length:=(List.getElem?_eq_some_iff.1 hx).1
  unfold lF
  rw [Tre.aB,show decide (((acc,(i:Int)):Int×Int).2<(xs.length:Int))=true from by simpa using hi,cond_true,Tre.aB]
  by_cases h0:acc<0
  ·rw [show decide (acc<0)=true from by simpa using h0]
   rw [cond_true,jg hx,ah (aec (by omega):aiP x (c:Int)=_),Tre.aB]
   show cond (oL x (c:Int)) _ _=_
   cases oL x (c:Int)
   ·rw [cond_false,Tre.aI,aU (by omega)];rfl
   ·rw [cond_true,Tre.aI,aU (by omega)];rfl
  ·rw [show decide (acc<0)=false from by simpa using h0]
   rfl)
  (by
  intro acc _
  unfold lF
  exact eY) xs 0 (-1) rfl (Nat.zero_le _) trivial
 rw [show (((-1:Int),(0:Int)):Int×Int)=(-1,((0:Nat):Int)) from rfl,this]
 have key:∀(l:List Int)(i:Nat),uJ (β:=Int) (fun (i:Nat) (acc:Int) x=>cond (decide (acc<0)) (.inl (cond (oL x (c:Int)) (i:Int) acc)) (.inr acc)) id i (-1) l=qA (fun x=>oL x (c:Int)) i l:=by
  intro l
  induction l with
  |nil=>intro i;rfl
  |cons x l ih=>
   intro i
   simp only [uJ,qA,show decide ((-1:Int)<0)=true from rfl,cond_true]
   cases oL x (c:Int)
   ·exact ih (i+1)
   ·have hn:decide ((i:Int)<0)=false:=by simp
    cases l with
    |nil=>rfl
    |cons y l=>simp only [uJ,cond_true,hn,cond_false]
 rw [key]
theorem JL(c r:Nat)(hc:c≤62)(hr:r<2 ^ 62)(l:List Nat)(hb:∀n∈l,n<2 ^ 62)(hl:l.length≤1048576):aO (iP (c:Int) (r:Int)) (0,up l)=some (up (l.map (gP c r))):=by
 have:=aiq (step:=iP (c:Int) (r:Int)) (fun _ x=>gP c r x) l id (by
  intro i x hx
  have hi:i<l.length:=(List.getElem?_eq_some_iff.1 hx).1
  have hx2:=VD (adQ (g:=fun _ x=>gP c r x) (i:=i) hx)
  rw [if_neg (Nat.lt_irrefl i)] at hx2
  have hlen:(up (xX (fun _ x=>gP c r x) i l)).length=l.length:=by rw [fC,YT]
  have hxb:=hb x (List.mem_of_getElem? hx)
  rw [←amf hx]
  unfold iP
  rw [fU hx2,ah (aec (by omega):aiP (x:Int) (c:Int)=_),Tre.aB]
  show cond (oL (x:Int) (c:Int)) _ _=_
  rw [qE (by omega) (by omega)]
  have he:gP c r x=cond (x.testBit c) (x^^^r) x:=rfl
  rw [he]
  cases x.testBit c
  ·rw [cond_false,Tre.aI,aU (by omega)]
   refine congrArg (fun z=>some (Sum.inl (((i+1:Nat):Int),z))) ?_
   rw [cond_false,←Tm]
   exact (List.ext_getElem? fun j=>by
    rw [List.getElem?_set]
    by_cases hj:i=j
    ·subst hj;rw [if_pos rfl,hx2,if_pos (List.getElem?_eq_some_iff.1 hx2).1]
    ·rw [if_neg hj]).symm
  ·rw [cond_true,jg hx2,jg hx2,Tre.aI,aU (by omega),lH (by omega) (by omega),Int.toNat_natCast,cond_true,←Tm])
  (by
  unfold iP
  have:((xX (fun _ x=>gP c r x) l.length l).length:Int)=(l.length:Int):=by rw [YT]
  show (Tre.cond (decide ((l.length:Int)<((up (xX (fun _ x=>gP c r x) l.length l)).length:Int))) _ _).run some=_
  rw [fC,YT]
  exact eY)
 rw [this,ajE]
 rfl
theorem UJ:pz=iP:=rfl
theorem JM(m:Nat)(hm:m≤62)(orig:List Nat):∀(n c:Nat)(E:List (Nat×Nat))(R:List Nat),c+n=m→Inv orig c E R→E.length≤c→R.length≤1048576→(∀x∈R,x<2 ^ m)→(∀a∈E,a.2<2 ^ m) →
  ∃E':List Nat,aO (gB (m:Int)) ((c:Int),up R,up (E.map (·.2)))=some (up E')∧iG orig E':=by
 intro n
 have hp:=ajL hm
 induction n with
 |zero=>
  intro c E R hc hI _ _ hR _
  have:c=m:=hc
  subst this
  refine ⟨E.map (·.2),dY ?_,hI.done fun x hx=>E8 (hR x hx) (hI.low x hx)⟩
  unfold gB
  exact eY
 |succ n ih=>
  intro c E R hc hI hE hl hR hEb
  have hcm:c<m:=by omega
  have hstep:∀E2 R2,Inv orig (c+1) E2 R2→E2.length≤c+1→R2.length≤1048576→(∀x∈R2,x<2 ^ m)→(∀a∈E2,a.2<2 ^ m)→(gB (m:Int) ((c:Int),up R,up (E.map (·.2)))).run some=some (.inl (((c+1:Nat):Int),up R2,up (E2.map (·.2)))) →
    ∃E':List Nat,aO (gB (m:Int)) ((c:Int),up R,up (E.map (·.2)))=some (up E')∧iG orig E':=by
   intro E2 R2 h1 h2 h3 h4 h5 h6
   rw [gy h6]
   exact ih (c+1) E2 R2 (by omega) h1 h2 h3 h4 h5
  have hfind:=Zl c (by omega) (up R) (by rw [fC];exact hl)
  have hw:aF .i64 ((c:Int)+1)=((c+1:Nat):Int):=aU (by omega)
  have hdec:decide ((c:Int)<(m:Int))=true:=by simpa using hcm
  rcases Bl (fun x=>oL x (c:Int)) (up R) 0 with ⟨h1,h2⟩|⟨k,x,h1,h2,h3⟩
  ·refine hstep E R (hI.skip fun x hx=>?_) (by omega) hl hR hEb ?_
   ·have:=h2 (x:Int) (List.mem_map.2 ⟨x,hx,rfl⟩)
    have hxb:=hR x hx
    rwa [qE (by omega) (by omega)] at this
   ·unfold gB
    rw [Tre.aB]
    show cond (decide ((c:Int)<(m:Int))) _ _=_
    rw [hdec,cond_true,ah (hfind.trans (by rw [h1])),Tre.aB]
    simp only [show decide ((-1:Int)<0)=true from rfl,cond_true,Tre.aI,hw]
  ·obtain ⟨r,hr1,rfl⟩:∃r:Nat,R[k]?=some r∧(r:Int)=x:=by
    simp only [up,List.getElem?_map,Option.map_eq_some_iff] at h1
    exact h1
   have hrm:r∈R:=List.mem_of_getElem? hr1
   have hrb:=hR r hrm
   rw [qE (by omega) (by omega)] at h2
   rw [Nat.zero_add] at h3
   have hk:k<R.length:=(List.getElem?_eq_some_iff.1 hr1).1
   have hE2:((E.map fun a=>(a.1,gP c r a.2))++[(c,r)]).map (·.2)=(E.map (·.2)).map (gP c r)++[r]:=by simp [List.map_map,Function.comp_def]
   refine hstep (E.map (fun a=>(a.1,gP c r a.2))++[(c,r)]) ((R.set k 0).map (gP c r)) (hI.step hrm h2 ?_ ?_) (by simp;omega) (by simpa using hl) ?_ ?_ ?_
   ·intro y hy
    obtain ⟨x,hx,rfl⟩:=List.mem_map.1 hy
    rcases List.mem_or_eq_of_mem_set hx with hx|rfl
    ·exact .inr ⟨x,hx,rfl⟩
    ·exact .inl (by unfold gP;simp)
   ·intro x hx
    obtain ⟨j,hj⟩:=List.getElem?_of_mem hx
    by_cases hjk:k=j
    ·subst hjk;rw [hr1] at hj;exact .inl (Option.some.inj hj).symm
    ·refine .inr (List.mem_map.2 ⟨x,List.mem_of_getElem? (i:=j) ?_,rfl⟩)
     rw [List.getElem?_set,if_neg hjk,hj]
   ·intro y hy
    obtain ⟨x,hx,rfl⟩:=List.mem_map.1 hy
    refine XG hrb ?_
    rcases List.mem_or_eq_of_mem_set hx with hx|rfl
    ·exact hR x hx
    ·exact Nat.two_pow_pos m
   ·intro a ha
    rcases List.mem_append.1 ha with ha|ha
    ·obtain ⟨b,hb,rfl⟩:=List.mem_map.1 ha
     exact XG hrb (hEb b hb)
    ·simp only [List.mem_singleton] at ha;subst ha;exact hrb
   ·have e1:=JL c r (by omega) (by omega) (R.set k 0) (fun x hx=>by
     rcases List.mem_or_eq_of_mem_set hx with hx|rfl
     ·have:=hR x hx;omega
     ·decide) (by simpa using hl)
    have e2:aO (pz (c:Int) (r:Int)) (0,up (E.map (·.2)))=some (up ((E.map (·.2)).map (gP c r))):=by
     rw [UJ]
     exact JL c r (by omega) (by omega) (E.map (·.2)) (fun x hx=>by
     obtain ⟨a,ha,rfl⟩:=List.mem_map.1 hx
     have:=hEb a ha
     omega) (by simp;omega)
    unfold gB
    rw [Tre.aB]
    show cond (decide ((c:Int)<(m:Int))) _ _=_
    rw [hdec,cond_true,ah (hfind.trans (by rw [h3])),Tre.aB]
    rw [show decide ((k:Int)<0)=false from by simp,cond_false,jg h1,jg h1,Int.toNat_natCast]
    rw [show (up R).set k 0=up (R.set k 0) from Tm R k 0,ah e1,ah e2]
    rw [Tre.run_ite,if_pos (by unfold bE;rw [fC];simp;omega),Tre.aI,hw,hE2]
    simp [up]
theorem Zo(p0:Int)(p1 y:List Int)(h:anH p0 p1=some y):SQ p0 p1=some y:=by
 obtain ⟨hl,rfl⟩:=xC h
 rw [Bool.and_eq_true,iR] at hl
 obtain ⟨m,rfl⟩:∃m:Nat,p0=(m:Int):=⟨p0.toNat,by omega⟩
 obtain ⟨ns,rfl,hlen,hb,hn⟩:=aa4 hl.2
 rw [Int.toNat_natCast] at hb
 obtain ⟨E,h1,h2⟩:=JM m (by omega) ns m 0 [] ns (by omega) (Inv.start ns) (Nat.zero_le _) hlen hb (fun a ha=>by cases ha)
 unfold SQ Oi
 have e1:oM (up ns)=some (up ns):=NP (by rw [fC];exact hlen)
 have h1:aO (gB (m:Int)) (0,up ns,[])=some (up E):=h1
 rw [ah e1,ah h1]
 unfold JV
 rw [hn,Z6 h2]
 rfl
def iy:Env:=⟨tau,[(39,Xf),(30,Xk)],[]⟩
def ko:Code:=(Try.f23.body).getD .skip
def G5 (fV:Int) (eu:Int) (eB:List Int) (mq:List Int):(Int×Int)→St:=fun x=>bX [(0,(.i fV)),(5,(.ref (7,0) [])),(6,(.ref (8,0) [])),(7,(.i eu)),(8,(.i x.1)),(9,(.i x.2))] [((7,0),some ⟨false,.il,.own,eB⟩),((8,0),some ⟨false,.il,.own,mq⟩)]
def Ez (fV:Int) (eu:Int) (eB:List Int) (mq:List Int):Int→Ex×St:=fun x=>(.exit 2,bX [(0,(.i fV)),(5,(.ref (7,0) [])),(6,(.ref (8,0) [])),(7,(.i eu)),(8,(.i x))] [((7,0),some ⟨false,.il,.own,eB⟩),((8,0),some ⟨false,.il,.own,mq⟩)])
def Zn (s:St):Tre (Ex×St):=
 aA true .n (s.tmps 0) fun d2=>
 dW (7,0) [] (s.tmps 5)<|
 dW (8,0) [] (s.tmps 6)<|
 aA true .n (s.tmps 7) fun d6=>
 aA true .n (s.tmps 8) fun d8=>
 aA true .n (s.tmps 9) fun d10=>
 aX false .il (s.roots (7,0)) fun m12 d13=>
 asM .own m12<|
 aX false .il (s.roots (8,0)) fun m15 d16=>
 asM .own m15<|
 .mat (aO (lF d6 d13) (d8,d10)) fun x=>.ret (Ez d2 d6 d13 d16 x)
def rQ:bD:=⟨([0,5,6,7,8,9],[(7,0),(8,0)]),([0,5,6,7,8],[(7,0),(8,0)]),Zn⟩
def Ev (MZ:Int) (BF:Int) (BG:Int) (M4:List Int):(Int×(List Int))→St:=fun x=>bX [(0,(.i MZ)),(5,(.ref (7,0) [])),(6,(.ref (8,0) [])),(7,(.i BF)),(10,(.i BG)),(11,(.i x.1))] [((7,0),some ⟨false,.il,.own,x.2⟩),((8,0),some ⟨false,.il,.own,M4⟩)]
def Dr (MZ:Int) (BF:Int) (BG:Int) (M4:List Int):(List Int)→Ex×St:=fun x=>(.exit 4,bX [(0,(.i MZ)),(5,(.ref (7,0) [])),(6,(.ref (8,0) [])),(7,(.i BF)),(10,(.i BG))] [((7,0),some ⟨false,.il,.own,x⟩),((8,0),some ⟨false,.il,.own,M4⟩)])
def Xl (s:St):Tre (Ex×St):=
 aA true .n (s.tmps 0) fun d2=>
 dW (7,0) [] (s.tmps 5)<|
 dW (8,0) [] (s.tmps 6)<|
 aA true .n (s.tmps 7) fun d6=>
 aA true .n (s.tmps 10) fun d8=>
 aA true .n (s.tmps 11) fun d10=>
 aX false .il (s.roots (7,0)) fun m12 d13=>
 asM .own m12<|
 aX false .il (s.roots (8,0)) fun m15 d16=>
 asM .own m15<|
 .mat (aO (iP d6 d8) (d10,d13)) fun x=>.ret (Dr d2 d6 d8 d16 x)
def qj:bD:=⟨([0,5,6,7,10,11],[(7,0),(8,0)]),([0,5,6,7,10],[(7,0),(8,0)]),Xl⟩
def Ew (M7:Int) (BK:Int) (BL:Int) (M8:List Int):(Int×(List Int))→St:=fun x=>bX [(0,(.i M7)),(5,(.ref (7,0) [])),(6,(.ref (8,0) [])),(7,(.i BK)),(10,(.i BL)),(12,(.i x.1))] [((7,0),some ⟨false,.il,.own,M8⟩),((8,0),some ⟨false,.il,.own,x.2⟩)]
def Dt (M7:Int) (BK:Int) (BL:Int) (M8:List Int):(List Int)→Ex×St:=fun x=>(.exit 6,bX [(0,(.i M7)),(5,(.ref (7,0) [])),(6,(.ref (8,0) [])),(7,(.i BK)),(10,(.i BL))] [((7,0),some ⟨false,.il,.own,M8⟩),((8,0),some ⟨false,.il,.own,x⟩)])
def Xm (s:St):Tre (Ex×St):=
 aA true .n (s.tmps 0) fun d2=>
 dW (7,0) [] (s.tmps 5)<|
 dW (8,0) [] (s.tmps 6)<|
 aA true .n (s.tmps 7) fun d6=>
 aA true .n (s.tmps 10) fun d8=>
 aA true .n (s.tmps 12) fun d10=>
 aX false .il (s.roots (7,0)) fun m12 d13=>
 asM .own m12<|
 aX false .il (s.roots (8,0)) fun m15 d16=>
 asM .own m15<|
 .mat (aO (pz d6 d8) (d10,d16)) fun x=>.ret (Dt d2 d6 d8 d13 x)
def ql:bD:=⟨([0,5,6,7,10,12],[(7,0),(8,0)]),([0,5,6,7,10],[(7,0),(8,0)]),Xm⟩
def GZ (bT:Int):(Int×(List Int)×(List Int))→St:=fun x=>bX [(0,(.i bT)),(5,(.ref (7,0) [])),(6,(.ref (8,0) [])),(7,(.i x.1))] [((7,0),some ⟨false,.il,.own,x.2.1⟩),((8,0),some ⟨false,.il,.own,x.2.2⟩)]
def Ey (_:Int):(List Int)→Ex×St:=fun x=>(.exit 0,bX [(6,(.ref (8,0) []))] [((8,0),some ⟨false,.il,.own,x⟩)])
def Zm (s:St):Tre (Ex×St):=
 aA true .n (s.tmps 0) fun d2=>
 dW (7,0) [] (s.tmps 5)<|
 dW (8,0) [] (s.tmps 6)<|
 aA true .n (s.tmps 7) fun d6=>
 aX false .il (s.roots (7,0)) fun m8 d9=>
 asM .own m8<|
 aX false .il (s.roots (8,0)) fun m11 d12=>
 asM .own m11<|
 .mat (aO (gB d2) (d6,d9,d12)) fun x=>.ret (Ey d2 x)
def rP:bD:=⟨([0,5,6,7],[(7,0),(8,0)]),([6],[(8,0)]),Zm⟩
def jh:List (Nat×bD):=[(8,rQ),(16,qj),(21,ql),(4,rP)]
theorem SV:∀(fV eu:Int)(eB mq:List Int)(x:(Int×Int))(c:St→Option (Ex×St)),den iy jh (aV ko 1) (G5 fV eu eB mq x) (cu rQ.kp rQ.kx c)=(lF eu eB x).run (cB (G5 fV eu eB mq) (Ez fV eu eB mq) c):=fun _ _ _ _ _ _=>by
 kernel_rfl
theorem Xo:bU iy jh (aV ko 1) rQ:=dh fun _ _ _=>aH fun _=>jk<|jk<|aH fun _=>aH fun _=>aH fun _=>bN fun _ _=>tM<|bN fun _ _=>tM<|fun h _ e14 _ e11 e9 e7 e5 e4 e3 e1=>bS (SV _ _ _ _) h (by subst_vars;exact aP rfl rfl ⟨e1,e3,e4,e5,e7,e9,trivial⟩ ⟨e11,e14,trivial⟩)
theorem Qi:∀(MZ BF BG:Int)(M4:List Int)(x:(Int×(List Int)))(c:St→Option (Ex×St)),den iy jh (aV ko 2) (Ev MZ BF BG M4 x) (cu qj.kp qj.kx c)=(iP BF BG x).run (cB (Ev MZ BF BG M4) (Dr MZ BF BG M4) c):=fun _ _ _ _ _ _=>by
 kernel_rfl
theorem UH:bU iy jh (aV ko 2) qj:=dh fun _ _ _=>aH fun _=>jk<|jk<|aH fun _=>aH fun _=>aH fun _=>bN fun _ _=>tM<|bN fun _ _=>tM<|fun h _ e14 _ e11 e9 e7 e5 e4 e3 e1=>bS (Qi _ _ _ _) h (by subst_vars;exact aP rfl rfl ⟨e1,e3,e4,e5,e7,e9,trivial⟩ ⟨e11,e14,trivial⟩)
theorem Qj:∀(M7 BK BL:Int)(M8:List Int)(x:(Int×(List Int)))(c:St→Option (Ex×St)),den iy jh (aV ko 3) (Ew M7 BK BL M8 x) (cu ql.kp ql.kx c)=(pz BK BL x).run (cB (Ew M7 BK BL M8) (Dt M7 BK BL M8) c):=fun _ _ _ _ _ _=>by
 kernel_rfl
theorem UK:bU iy jh (aV ko 3) ql:=dh fun _ _ _=>aH fun _=>jk<|jk<|aH fun _=>aH fun _=>aH fun _=>bN fun _ _=>tM<|bN fun _ _=>tM<|fun h _ e14 _ e11 e9 e7 e5 e4 e3 e1=>bS (Qj _ _ _ _) h (by subst_vars;exact aP rfl rfl ⟨e1,e3,e4,e5,e7,e9,trivial⟩ ⟨e11,e14,trivial⟩)
theorem SS:∀(bT:Int)(x:(Int×(List Int)×(List Int)))(c:St→Option (Ex×St)),den iy jh (aV ko 0) (GZ bT x) (cu rP.kp rP.kx c)=(gB bT x).run (cB (GZ bT) (Ey bT) c):=fun _ _ _=>by
 kernel_rfl
theorem Xn:bU iy jh (aV ko 0) rP:=dh fun _ _ _=>aH fun _=>jk<|jk<|aH fun _=>bN fun _ _=>tM<|bN fun _ _=>tM<|fun h _ e10 _ e7 e5 e4 e3 e1=>bS (SS _) h (by subst_vars;exact aP rfl rfl ⟨e1,e3,e4,e5,trivial⟩ ⟨e7,e10,trivial⟩)
def aga:FnI:=fnI Try.f23 jh
def L6 (_:Bool) (_:Int) (_:List Int):(List Int)→ay:=fun r=>⟨(.ref (1,0) []),[],[⟨false,.il,.own,r⟩]⟩
theorem adw:∀(zp0:Bool)(p0:Int)(p1:List Int),bR iy aga ⟨[(.i p0),(.imm zp0 .il p1)],[]⟩=(Oi p0 p1).run fun r=>some (L6 zp0 p0 p1 r):=fun _ _ _=>by kernel_rfl
def af9 (av:List AV) (rs:List Root):Tre ay:=
 aD av fun a0_ av0=>
 aD av0 fun a1_ av1=>
 aM av1<|
 aM rs<|
 aA true .n a0_ fun d1=>
 bG .il a1_ fun z3 d2=>
 .mat (anH d1 d2) fun r=>.ret (L6 z3 d1 d2 r)
def GY:Ctr:=dO [] af9
theorem Pq:Contract Try.prog .none 23 GY:=aC (V:=iy) aW (ak acn awl (ak acw awh aJ)) Try.func23 (bL (n:=4) fun k hk=>by
 match k,hk with
 |0,_=>exact bO (id:=4) Xn
 |1,_=>exact bO (id:=8) Xo
 |2,_=>exact bO (id:=16) UH
 |3,_=>exact bO (id:=21) UK) fun _ _ _=>aK fun _ _=>aK fun _ _=>bA<|bA<|aH fun _=>dM fun _ _=>fun h=>by intros;subst_vars;exact yC (adw _ _ _) (Zo _ _) h
def abp (p0:Int) (p1:List Int):Tre Int:=
 .mat (anH p0 p1) fun r1=>
 .ret (r1.length:Int)
def acy (p0:Int) (p1:List Int):Option Int:=(abp p0 p1).run some
def afH (m:Int) (xs:List Int):Option Int:=agD (inR m 0 62&&Bp m.toNat xs) ((JV xs).length:Int)
theorem agb(p0:Int)(p1:List Int)(y:Int)(h:afH p0 p1=some y):acy p0 p1=some y:=by
 obtain ⟨hl,rfl⟩:=xC h
 unfold acy abp
 rw [ah (show anH p0 p1=some _ from kG hl)]
 rfl
def acz:Env:=⟨tau,[(23,GY)],[]⟩
def amH:FnI:=fnI Try.f38 []
def Vy (_:Bool) (_:Int) (_:List Int):Int→ay:=fun r=>⟨(.i r),[],[]⟩
theorem aj6:∀(zp0:Bool)(p0:Int)(p1:List Int),bR acz amH ⟨[(.i p0),(.imm zp0 .il p1)],[]⟩=(abp p0 p1).run fun r=>some (Vy zp0 p0 p1 r):=fun _ _ _=>by kernel_rfl
def amG (av:List AV) (rs:List Root):Tre ay:=
 aD av fun a0_ av0=>
 aD av0 fun a1_ av1=>
 aM av1<|
 aM rs<|
 aA true .n a0_ fun d1=>
 bG .il a1_ fun z3 d2=>
 .mat (afH d1 d2) fun r=>.ret (Vy z3 d1 d2 r)
def SX:Ctr:=dO [] amG
theorem Zp:Contract Try.prog .none 38 SX:=aC (V:=acz) aW (ak Pq awe aJ) Try.func38 bP fun _ _ _=>aK fun _ _=>aK fun _ _=>bA<|bA<|aH fun _=>dM fun _ _=>fun h=>by intros;subst_vars;exact yC (aj6 _ _ _) (agb _ _) h
-- shared
def azl(p a:Nat):Nat→Nat
 |0=>1
 |n+1=>mulN p (azl p a n) a
def Gx(d p a:Nat):Nat:=azl p a (2 ^ d-2)
def DZ(f:TF3)(a:Int):Int:=((Gx f.1.toNat f.2.1.toNat a.toNat:Nat):Int)
def VO(F:TF3→Int→Option Int)(G:Nat→Nat→Nat→Nat)(d p:Nat):Bool:=(List.range (2 ^ d)).all fun a=>F ((d:Int),(p:Int),()) (a:Int) == some ((G d p a:Nat):Int)
theorem axF{F:TF3→Int→Option Int}{G:Nat→Nat→Nat→Nat}(h:∀q∈iW,VO F G q.1 q.2=true){f:TF3}(hf:aG f=true){a:Int}(ha:inF f a):F f a=some ((G f.1.toNat f.2.1.toNat a.toNat:Nat):Int):=by
 obtain ⟨d,p,hq,rfl⟩:=AP hf
 obtain ⟨ha0,ha1⟩:=ha
 simp only [Int.toNat_natCast] at ha1
 obtain ⟨m,rfl⟩:=Int.eq_ofNat_of_zero_le ha0
 have h1:=List.all_eq_true.1 (h _ hq) m (List.mem_range.2 (by exact_mod_cast ha1))
 exact eq_of_beq h1
def aty(d p:Nat):Bool:=(List.range (2 ^ d)).all fun a=>(List.range (2 ^ d)).all fun b=>Nat.blt (mulN p a b) (2 ^ d)&&Nat.beq (mulN p a b) (mulN p b a)
def atm(d p:Nat):Bool:=(List.range (2 ^ d)).all fun a=>Nat.blt (Gx d p a) (2 ^ d)&&(Nat.beq a 0||Nat.beq (mulN p a (Gx d p a)) 1)
theorem YK:(iW.all fun q=>aty q.1 q.2)=true:=by kernel_rfl
theorem Yy:(iW.all fun q=>atm q.1 q.2)=true:=by kernel_rfl
theorem NT{f:TF3}(hf:aG f=true){a b:Int}(ha:inF f a)(hb:inF f b):inF f (iL f a b)∧iL f a b=iL f b a:=by
 obtain ⟨d,p,hq,rfl⟩:=AP hf
 obtain ⟨ha0,ha1⟩:=ha
 obtain ⟨hb0,hb1⟩:=hb
 simp only [Int.toNat_natCast] at ha1 hb1
 obtain ⟨m,rfl⟩:=Int.eq_ofNat_of_zero_le ha0
 obtain ⟨n,rfl⟩:=Int.eq_ofNat_of_zero_le hb0
 have h0:=List.all_eq_true.1 YK _ hq
 have h1:=List.all_eq_true.1 (List.all_eq_true.1 h0 m (List.mem_range.2 (by exact_mod_cast ha1))) n (List.mem_range.2 (by exact_mod_cast hb1))
 rw [Bool.and_eq_true] at h1
 have h2:mulN p m n<2 ^ d:=Nat.le_of_ble_eq_true h1.1
 have h3:mulN p m n=mulN p n m:=Nat.eq_of_beq_eq_true h1.2
 refine ⟨⟨Int.natCast_nonneg _,?_⟩,?_⟩
 ·show ((mulN p m n:Nat):Int)<_
  simp only [Int.toNat_natCast]
  exact_mod_cast h2
 ·show ((mulN p m n:Nat):Int)=((mulN p n m:Nat):Int)
  rw [h3]
theorem wT{f:TF3}(hf:aG f=true){a:Int}(ha:inF f a):inF f (DZ f a)∧(a≠0→iL f a (DZ f a)=1):=by
 obtain ⟨d,p,hq,rfl⟩:=AP hf
 obtain ⟨ha0,ha1⟩:=ha
 simp only [Int.toNat_natCast] at ha1
 obtain ⟨m,rfl⟩:=Int.eq_ofNat_of_zero_le ha0
 have h0:=List.all_eq_true.1 Yy _ hq
 have h1:=List.all_eq_true.1 h0 m (List.mem_range.2 (by exact_mod_cast ha1))
 rw [Bool.and_eq_true,Bool.or_eq_true] at h1
 have h2:Gx d p m<2 ^ d:=Nat.le_of_ble_eq_true h1.1
 refine ⟨⟨Int.natCast_nonneg _,?_⟩,fun hne=>?_⟩
 ·show ((Gx d p m:Nat):Int)<_
  simp only [Int.toNat_natCast]
  exact_mod_cast h2
 ·rcases h1.2 with h|h
  ·exact absurd (by rw [Nat.eq_of_beq_eq_true h];rfl) hne
  ·show ((mulN p m (Gx d p m):Nat):Int)=1
   rw [Nat.eq_of_beq_eq_true h];rfl
-- shared
def am3(f:TF3)(u w:List Int)(x:Int):List Int:=(u.zip w).map fun p=>iF .i64 p.1 (iL f p.2 x)
theorem ahX{α β γ:Type}(g:α→γ)(fin:List γ→β):∀(l:List α)(i:Nat)(acc:List γ),uJ (fun _ acc x=>(.inl (acc++[g x]):List γ ⊕ β)) fin i acc l=fin (acc++l.map g):=by
 intro l
 induction l with
 |nil=>intro i acc;simp only [uJ,List.map_nil,List.append_nil]
 |cons y l ih=>intro i acc;simp only [uJ];rw [ih];simp
-- shared
theorem rA{f:TF3}(hf:aG f=true):1≤f.1.toNat∧f.1.toNat≤5:=by
 obtain ⟨d,p,hq,rfl⟩:=AP hf
 have:∀q∈iW,1≤q.1∧q.1≤5:=by decide
 exact this _ hq
theorem BQ{f:TF3}(hf:aG f=true){a:Int}(h:inF f a):∃n:Nat,a=(n:Int)∧n<2 ^ f.1.toNat∧n<2 ^ 63:=by
 obtain ⟨h0,h1⟩:=h
 have hd:=(rA hf).2
 have hp:2 ^ f.1.toNat≤2 ^ 5:=Nat.pow_le_pow_right (by omega) hd
 refine ⟨a.toNat,by omega,by omega,by omega⟩
theorem gM{f:TF3}:inF f 0:=⟨Int.le_refl 0,by exact_mod_cast Nat.two_pow_pos _⟩
theorem ajt{f:TF3}(hf:aG f=true):inF f 1:=by
 have:2 ^ 1≤2 ^ f.1.toNat:=Nat.pow_le_pow_right (by omega) (rA hf).1
 exact ⟨by omega,by omega⟩
theorem Jt{f:TF3}(hf:aG f=true){a b:Int}(ha:inF f a)(hb:inF f b):inF f (iF .i64 a b):=by
 obtain ⟨m,rfl,hm,hm2⟩:=BQ hf ha
 obtain ⟨n,rfl,hn,hn2⟩:=BQ hf hb
 rw [lH hm2 hn2]
 exact ⟨Int.natCast_nonneg _,by exact_mod_cast Nat.xor_lt_two_pow hm hn⟩
theorem qQ{f:TF3}(hf:aG f=true){a:Int}(ha:inF f a):iF .i64 0 a=a:=by
 obtain ⟨m,rfl,hm,hm2⟩:=BQ hf ha
 have:=lH (a:=0) (b:=m) (by omega) hm2
 rw [show ((0:Nat):Int)=0 from rfl] at this
 rw [this,Nat.zero_xor]
def GR(f:TF3)(n:Nat)(L:List (List Int)):Prop:=∀r∈L,r.length=n∧∀y∈r,inF f y
def Oa(c:Nat)(r:List Int):Bool:=match r[c]? with
 |some x=>!decide (x=0)
 |none=>false
def wH(f:TF3)(c k:Nat)(own:List Int)(i:Nat)(r:List Int):List Int:=match r[c]? with
 |some x=>bif decide (i=k)||decide (x=0) then r else (r.zip own).map fun p=>iF .i64 p.1 (iL f x p.2)
 |none=>r
def aby(f:TF3)(c:Nat)(row:List Int):List Int:=match row[c]? with
 |some x=>row.map fun y=>iL f y (DZ f x)
 |none=>row
def Uv(f:TF3)(c k a:Nat)(L:List (List Int)):List (List Int):=match L[k]?,L[a]? with
 |some row,some r0=>(L.set k r0).set a (aby f c row)
 |_,_=>L
def Fw(f:TF3)(c a:Nat)(L:List (List Int)):List (List Int):=match L[a]? with
 |some own=>L.mapIdx (wH f c a own)
 |none=>L
def kH(f:TF3)(c:Nat)(s:Nat×List (List Int)):Nat×List (List Int):=
 bif decide (qA (Oa c) s.1 (s.2.drop s.1)<0) then s else (s.1+1,Fw f c s.1 (Uv f c (qA (Oa c) s.1 (s.2.drop s.1)).toNat s.1 s.2))
def jQ(f:TF3):Nat→Nat→Nat×List (List Int)→Nat×List (List Int)
 |_,0,s=>s
 |c,m+1,s=>jQ f (c+1) m (kH f c s)
def JW(f:TF3)(n:Nat)(L:List (List Int)):List (List Int):=(jQ f 0 n (0,L)).2.take (jQ f 0 n (0,L)).1
theorem apV{c:Nat}{r:List Int}(h:Oa c r=true):∃x,r[c]?=some x∧x≠0:=by
 unfold Oa at h
 split at h
 ·exact ⟨_,by assumption,by simpa using h⟩
 ·cases h
theorem Iw{f:TF3}{n:Nat}{L:List (List Int)}(h:GR f n L){i:Nat}{r:List Int}(hi:L[i]?=some r):r.length=n∧∀y∈r,inF f y:=h r (List.mem_of_getElem? hi)
theorem asa{f:TF3}{n:Nat}{L:List (List Int)}(h:GR f n L){i:Nat}{r:List Int}(hr:r.length=n∧∀y∈r,inF f y):GR f n (L.set i r):=by
 intro x hx
 rcases List.mem_or_eq_of_mem_set hx with hx|rfl
 ·exact h x hx
 ·exact hr
theorem arT{f:TF3}(hf:aG f=true){n c:Nat}{r:List Int}(h:r.length=n∧∀y∈r,inF f y):(aby f c r).length=n∧∀y∈aby f c r,inF f y:=by
 unfold aby
 split
 ·rename_i x hx
  refine ⟨by simpa using h.1,fun y hy=>?_⟩
  obtain ⟨z,hz,rfl⟩:=List.mem_map.1 hy
  exact (NT hf (h.2 z hz) (wT hf (h.2 x (List.mem_of_getElem? hx))).1).1
 ·exact h
theorem aqk{f:TF3}(hf:aG f=true){n c k i:Nat}{own r:List Int}(ho:own.length=n∧∀y∈own,inF f y)(h:r.length=n∧∀y∈r,inF f y):(wH f c k own i r).length=n∧∀y∈wH f c k own i r,inF f y:=by
 unfold wH
 split
 ·rename_i x hx
  cases decide (i=k)||decide (x=0)
  ·rw [cond_false]
   refine ⟨by simp [h.1,ho.1],fun y hy=>?_⟩
   obtain ⟨p,hp,rfl⟩:=List.mem_map.1 hy
   have h1:=List.of_mem_zip (a:=p.1) (b:=p.2) hp
   exact Jt hf (h.2 _ h1.1) (NT hf (h.2 x (List.mem_of_getElem? hx)) (ho.2 _ h1.2)).1
  ·exact h
 ·exact h
theorem ajK{f:TF3}(hf:aG f=true){n c k a:Nat}{L:List (List Int)}(h:GR f n L):GR f n (Uv f c k a L)∧(Uv f c k a L).length=L.length:=by
 unfold Uv
 split
 ·rename_i row r0 h1 h2
  exact ⟨asa (asa h (Iw h h2)) (arT hf (Iw h h1)),by simp⟩
 ·exact ⟨h,rfl⟩
theorem ahM{f:TF3}(hf:aG f=true){n c a:Nat}{L:List (List Int)}(h:GR f n L):GR f n (Fw f c a L)∧(Fw f c a L).length=L.length:=by
 unfold Fw
 split
 ·rename_i own h1
  refine ⟨fun r hr=>?_,by simp⟩
  obtain ⟨i,hi,rfl⟩:=List.mem_mapIdx.1 hr
  exact aqk hf (Iw h h1) (h _ (List.getElem_mem hi))
 ·exact ⟨h,rfl⟩
theorem MG{f:TF3}(hf:aG f=true){n c:Nat}{s:Nat×List (List Int)}(h:GR f n s.2)(ha:s.1≤s.2.length):GR f n (kH f c s).2∧(kH f c s).2.length=s.2.length∧(kH f c s).1≤s.2.length:=by
 unfold kH
 rcases Bl (Oa c) (s.2.drop s.1) s.1 with ⟨h1,_⟩|⟨k,x,h1,_,h3⟩
 ·rw [h1];exact ⟨h,rfl,ha⟩
 ·rw [h3,decide_eq_false (by omega),cond_false]
  have hlt:=(List.getElem?_eq_some_iff.1 h1).1
  rw [List.length_drop] at hlt
  have hp:=ajK (c:=c) (k:=((s.1+k:Nat):Int).toNat) (a:=s.1) hf h
  have hc:=ahM (c:=c) (a:=s.1) hf hp.1
  exact ⟨hc.1,by rw [hc.2,hp.2],by show s.1+1≤_;omega⟩
theorem VX{f:TF3}(hf:aG f=true){n:Nat}:∀(m c:Nat)(s:Nat×List (List Int)),GR f n s.2→s.1≤s.2.length→GR f n (jQ f c m s).2∧(jQ f c m s).2.length=s.2.length∧(jQ f c m s).1≤s.2.length:=by
 intro m
 induction m with
 |zero=>intro c s h ha;exact ⟨h,rfl,ha⟩
 |succ m ih=>
  intro c s h ha
  have h1:=MG (c:=c) hf h ha
  have h2:=ih (c+1) _ h1.1 (by rw [h1.2.1];exact h1.2.2)
  rw [h1.2.1] at h2
  exact h2
theorem auT{f:TF3}(hf:aG f=true){n m:Nat}{L:List (List Int)}(h:GR f n L):GR f n (JW f m L):=fun r hr=>(VX hf m 0 (0,L) h (Nat.zero_le _)).1 r (List.mem_of_mem_take hr)
theorem aeo{f:TF3}(hf:aG f=true){n m:Nat}{L:List (List Int)}(h:GR f n L):(JW f m L).length=(jQ f 0 m (0,L)).1:=by
 have:=VX hf m 0 (0,L) h (Nat.zero_le _)
 unfold JW
 rw [List.length_take,this.2.1]
 exact Nat.min_eq_left this.2.2
theorem alv{α:Type}(p:α→Bool):∀(l:List α)(i j:Nat),qA p (i+j) l=if qA p j l<0 then -1 else (i:Int)+qA p j l:=by
 intro l
 induction l with
 |nil=>intro i j;rfl
 |cons x l ih=>
  intro i j
  rcases Bool.eq_false_or_eq_true (p x) with hp|hp
  ·have e1:qA p (i+j) (x::l)=((i+j:Nat):Int):=by simp only [qA,hp,cond_true]
   have e2:qA p j (x::l)=(j:Int):=by simp only [qA,hp,cond_true]
   rw [e1,e2,if_neg (by omega)]
   omega
  ·have e1:qA p (i+j) (x::l)=qA p (i+(j+1)) l:=by simp only [qA,hp,cond_false];rfl
   have e2:qA p j (x::l)=qA p (j+1) l:=by simp only [qA,hp,cond_false]
   rw [e1,e2]
   exact ih i (j+1)
theorem anQ{α β γ:Type}(g:Nat→α→γ)(fin:List γ→β):∀(l:List α)(i:Nat)(acc:List γ),acc.length=i+l.length→uJ (fun i acc x=>(.inl (acc.set i (g i x)):List γ ⊕ β)) fin i acc l=fin (acc.take i++l.mapIdx fun j x=>g (i+j) x):=by
 intro l
 induction l with
 |nil=>intro i acc h;simp only [uJ,List.mapIdx_nil,List.append_nil];rw [List.take_of_length_le (by simp at h;omega)]
 |cons x l ih=>
  intro i acc h
  simp only [List.length_cons] at h
  simp only [uJ]
  rw [ih (i+1) _ (by simp;omega),List.take_add_one,List.mapIdx_cons]
  simp [show i<acc.length by omega,List.take_set_of_le (Nat.le_refl i),Nat.add_assoc,Nat.add_comm 1]
-- shared
theorem auh{n d:Nat}(h0:n≠0)(hn:n<2 ^ d):∃i m,i<d∧m<n∧n=m^^^2 ^ i:=by
 have hl:=Nat.log2_lt (n:=n) (k:=d) h0 |>.2 hn
 have hself:=Nat.log2_self_le h0
 have hup:=Nat.lt_log2_self (n:=n)
 have hb1:n^^^2 ^ n.log2<2 ^ n.log2:=by
  apply Nat.lt_pow_two_of_testBit
  intro i hi
  rw [Nat.testBit_xor,Nat.testBit_two_pow]
  by_cases hi2:n.log2=i
  ·subst hi2
   rw [Nat.testBit_log2 h0]
   simp
  ·have:n.testBit i=false:=Nat.testBit_lt_two_pow (Nat.lt_of_lt_of_le hup (Nat.pow_le_pow_right (by omega) (by omega)))
   rw [this]
   simp [hi2]
 exact ⟨n.log2,n^^^2 ^ n.log2,hl,by omega,by rw [Nat.xor_assoc,Nat.xor_self,Nat.xor_zero]⟩
def am1(d:Nat)(g:Nat→Nat):Prop:=∀a b,a<2 ^ d→b<2 ^ d→g (a^^^b)=g a^^^g b
theorem am1.zero{d:Nat}{g:Nat→Nat}(h:am1 d g):g 0=0:=by
 have e1:=h 0 0 (Nat.two_pow_pos d) (Nat.two_pow_pos d)
 rw [Nat.xor_self] at e1
 rw [Nat.xor_self] at e1
 exact e1
theorem aw6{d:Nat}{g:Nat→Nat}(h0:g 0=0)(h:∀b i,b<2 ^ d→i<d→g (b^^^2 ^ i)=g b^^^g (2 ^ i)):am1 d g:=by
 intro b c
 induction c using Nat.strongRecOn generalizing b with
 |ind c ih=>
  intro hb hc
  by_cases hz:c=0
  ·subst hz;rw [Nat.xor_zero,h0,Nat.xor_zero]
  ·obtain ⟨i,m,hi,hm,he⟩:=auh hz hc
   have hp:2 ^ i<2 ^ d:=Nat.pow_lt_pow_right (by omega) hi
   have hm2:m<2 ^ d:=by omega
   rw [he,←Nat.xor_assoc,h _ _ (Nat.xor_lt_two_pow hb hm2) hi,ih m hm b hb hm2,h _ _ hm2 hi,Nat.xor_assoc]
theorem apu{d:Nat}{g h:Nat→Nat}(hg:am1 d g)(hh:am1 d h)(hb:∀i,i<d→g (2 ^ i)=h (2 ^ i)):∀n,n<2 ^ d→g n=h n:=by
 intro n
 induction n using Nat.strongRecOn with
 |ind n ih=>
  intro hn
  by_cases h0:n=0
  ·subst h0;rw [hg.zero,hh.zero]
  ·obtain ⟨i,m,hi,hm,he⟩:=auh h0 hn
   have hp:2 ^ i<2 ^ d:=Nat.pow_lt_pow_right (by omega) hi
   rw [he,hg _ _ (by omega) hp,hh _ _ (by omega) hp,ih m hm (by omega),hb i hi]
def ax1(d p:Nat):Bool:=(List.range (2 ^ d)).all fun a=>(List.range (2 ^ d)).all fun b=>(List.range d).all fun i=>Nat.beq (mulN p a (Nat.xor b (2 ^ i))) (Nat.xor (mulN p a b) (mulN p a (2 ^ i)))
def ig(d p:Nat):Bool:=(List.range (2 ^ d)).all fun a=>(List.range d).all fun j=>(List.range d).all fun i=>Nat.beq (mulN p (mulN p a (2 ^ j)) (2 ^ i)) (mulN p a (mulN p (2 ^ j) (2 ^ i)))
def azx(d p:Nat):Bool:=(List.range (2 ^ d)).all fun a=>Nat.beq (mulN p a 1) a&&Nat.beq (mulN p a 0) 0
theorem aqp:(iW.all fun q=>ax1 q.1 q.2)=true:=by kernel_rfl
theorem ang:(iW.all fun q=>ig q.1 q.2)=true:=by kernel_rfl
theorem atL:(iW.all fun q=>azx q.1 q.2)=true:=by kernel_rfl
theorem nM{d p a b:Nat}(hq:(d,p)∈iW)(ha:a<2 ^ d)(hb:b<2 ^ d):mulN p a b<2 ^ d∧mulN p a b=mulN p b a:=by
 have h1:=List.all_eq_true.1 (List.all_eq_true.1 (List.all_eq_true.1 YK _ hq) a (List.mem_range.2 ha)) b (List.mem_range.2 hb)
 rw [Bool.and_eq_true] at h1
 exact ⟨Nat.le_of_ble_eq_true h1.1,Nat.eq_of_beq_eq_true h1.2⟩
theorem YM{d p a:Nat}(hq:(d,p)∈iW)(ha:a<2 ^ d):mulN p a 1=a∧mulN p a 0=0:=by
 have h1:=List.all_eq_true.1 (List.all_eq_true.1 atL _ hq) a (List.mem_range.2 ha)
 rw [Bool.and_eq_true] at h1
 exact ⟨Nat.eq_of_beq_eq_true h1.1,Nat.eq_of_beq_eq_true h1.2⟩
theorem Di{d p a:Nat}(hq:(d,p)∈iW)(ha:a<2 ^ d):am1 d (mulN p a):=by
 refine aw6 (YM hq ha).2 fun b i hb hi=>?_
 have h1:=List.all_eq_true.1 (List.all_eq_true.1 (List.all_eq_true.1 (List.all_eq_true.1 aqp _ hq) a (List.mem_range.2 ha)) b (List.mem_range.2 hb)) i (List.mem_range.2 hi)
 exact Nat.eq_of_beq_eq_true h1
theorem Vk{d p b:Nat}(hq:(d,p)∈iW)(hb:b<2 ^ d):am1 d (fun a=>mulN p a b):=by
 intro x y hx hy
 show mulN p (x^^^y) b=mulN p x b^^^mulN p y b
 rw [(nM hq (Nat.xor_lt_two_pow hx hy) hb).2,Di hq hb x y hx hy,(nM hq hx hb).2,(nM hq hy hb).2]
theorem afw{d p a b c:Nat}(hq:(d,p)∈iW)(ha:a<2 ^ d)(hb:b<2 ^ d)(hc:c<2 ^ d):mulN p (mulN p a b) c=mulN p a (mulN p b c):=by
 have hpow:∀i,i<d→2 ^ i<2 ^ d:=fun i hi=>Nat.pow_lt_pow_right (by omega) hi
 have k1:∀i,i<d→∀b,b<2 ^ d→mulN p (mulN p a b) (2 ^ i)=mulN p a (mulN p b (2 ^ i)):=by
  intro i hi
  refine apu (g:=fun b=>mulN p (mulN p a b) (2 ^ i)) (h:=fun b=>mulN p a (mulN p b (2 ^ i))) ?_ ?_ ?_
  ·intro x y hx hy
   show mulN p (mulN p a (x^^^y)) (2 ^ i)=_
   rw [Di hq ha x y hx hy]
   exact Vk hq (hpow i hi) _ _ (nM hq ha hx).1 (nM hq ha hy).1
  ·intro x y hx hy
   show mulN p a (mulN p (x^^^y) (2 ^ i))=_
   rw [show mulN p (x^^^y) (2 ^ i)=_ from Vk hq (hpow i hi) x y hx hy]
   exact Di hq ha _ _ (nM hq hx (hpow i hi)).1 (nM hq hy (hpow i hi)).1
  ·intro j hj
   have h1:=List.all_eq_true.1 (List.all_eq_true.1 (List.all_eq_true.1 (List.all_eq_true.1 ang _ hq) a (List.mem_range.2 ha)) j (List.mem_range.2 hj)) i (List.mem_range.2 hi)
   exact Nat.eq_of_beq_eq_true h1
 refine apu (g:=fun c=>mulN p (mulN p a b) c) (h:=fun c=>mulN p a (mulN p b c)) ?_ ?_ (fun i hi=>k1 i hi b hb) c hc
 ·exact Di hq (nM hq ha hb).1
 ·intro x y hx hy
  show mulN p a (mulN p b (x^^^y))=_
  rw [Di hq hb x y hx hy]
  exact Di hq ha _ _ (nM hq hb hx).1 (nM hq hb hy).1
theorem ajs{f:TF3}(hf:aG f=true):∃d p:Nat,(d,p)∈iW∧f=((d:Int),(p:Int),())∧∀a,inF f a→∃m:Nat,a=(m:Int)∧m<2 ^ d∧m<2 ^ 63:=by
 obtain ⟨d,p,hq,rfl⟩:=AP hf
 refine ⟨d,p,hq,rfl,fun a ha=>?_⟩
 obtain ⟨m,e,h1,h2⟩:=BQ hf ha
 exact ⟨m,e,by simpa using h1,h2⟩
theorem zy{d p m n:Nat}:iL ((d:Int),(p:Int),()) (m:Int) (n:Int)=((mulN p m n:Nat):Int):=by
 unfold iL
 simp only [Int.toNat_natCast]
theorem tZ{f:TF3}(hf:aG f=true){a b:Int}(ha:inF f a)(hb:inF f b):inF f (iL f a b):=(NT hf ha hb).1
theorem iM{f:TF3}(hf:aG f=true){a b:Int}(ha:inF f a)(hb:inF f b):iL f a b=iL f b a:=(NT hf ha hb).2
theorem awY{d p:Nat}(hq:(d,p)∈iW){x:Nat}(h:x<2 ^ d):x<2 ^ 63:=by
 have:∀q∈iW,q.1≤5:=by decide
 have h5:=this _ hq
 have:2 ^ d≤2 ^ 5:=Nat.pow_le_pow_right (by omega) h5
 omega
theorem afv{f:TF3}(hf:aG f=true){a b c:Int}(ha:inF f a)(hb:inF f b)(hc:inF f c):iL f a (iF .i64 b c)=iF .i64 (iL f a b) (iL f a c):=by
 obtain ⟨d,p,hq,rfl,hn⟩:=ajs hf
 obtain ⟨x,rfl,hx,hx6⟩:=hn a ha
 obtain ⟨y,rfl,hy,hy6⟩:=hn b hb
 obtain ⟨z,rfl,hz,hz6⟩:=hn c hc
 rw [lH hy6 hz6,zy,zy,zy,lH (awY hq (nM hq hx hy).1) (awY hq (nM hq hx hz).1),Di hq hx y z hy hz]
theorem WU{f:TF3}(hf:aG f=true){a b c:Int}(ha:inF f a)(hb:inF f b)(hc:inF f c):iL f (iL f a b) c=iL f a (iL f b c):=by
 obtain ⟨d,p,hq,rfl,hn⟩:=ajs hf
 obtain ⟨x,rfl,hx,hx6⟩:=hn a ha
 obtain ⟨y,rfl,hy,hy6⟩:=hn b hb
 obtain ⟨z,rfl,hz,hz6⟩:=hn c hc
 rw [zy,zy,zy,zy,afw hq hx hy hz]
theorem YL{f:TF3}(hf:aG f=true){a:Int}(ha:inF f a):iL f a 1=a:=by
 obtain ⟨d,p,hq,rfl,hn⟩:=ajs hf
 obtain ⟨x,rfl,hx,hx6⟩:=hn a ha
 rw [show (1:Int)=((1:Nat):Int) from rfl,zy,(YM hq hx).1]
theorem qJ{f:TF3}(hf:aG f=true){a:Int}(ha:inF f a):iL f a 0=0:=by
 obtain ⟨d,p,hq,rfl,hn⟩:=ajs hf
 obtain ⟨x,rfl,hx,hx6⟩:=hn a ha
 rw [show (0:Int)=((0:Nat):Int) from rfl,zy,(YM hq hx).2]
theorem TW{f:TF3}(hf:aG f=true){a b:Int}(ha:inF f a)(hb:inF f b):iF .i64 a b=iF .i64 b a:=by
 obtain ⟨x,rfl,_,hx⟩:=BQ hf ha
 obtain ⟨y,rfl,_,hy⟩:=BQ hf hb
 rw [lH hx hy,lH hy hx,Nat.xor_comm]
theorem xB{f:TF3}(hf:aG f=true){a b c:Int}(ha:inF f a)(hb:inF f b)(hc:inF f c):iF .i64 (iF .i64 a b) c=iF .i64 a (iF .i64 b c):=by
 obtain ⟨x,rfl,hx1,hx⟩:=BQ hf ha
 obtain ⟨y,rfl,hy1,hy⟩:=BQ hf hb
 obtain ⟨z,rfl,hz1,hz⟩:=BQ hf hc
 rw [lH hx hy,lH hy hz,lH (Nat.xor_lt_two_pow hx hy) hz,lH hx (Nat.xor_lt_two_pow hy hz),Nat.xor_assoc]
theorem Mq{f:TF3}(hf:aG f=true){a:Int}(ha:inF f a):iF .i64 a 0=a:=by
 rw [TW hf ha gM,qQ hf ha]
theorem Ml{f:TF3}(hf:aG f=true){a:Int}(ha:inF f a):iF .i64 a a=0:=by
 obtain ⟨x,rfl,_,hx⟩:=BQ hf ha
 rw [lH hx hx,Nat.xor_self]
 rfl
end Go.Proofs.Ytmilokkchghpjaa
