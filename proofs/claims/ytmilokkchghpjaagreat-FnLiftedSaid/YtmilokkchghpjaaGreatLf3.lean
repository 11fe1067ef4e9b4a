/- Part 3 of the proof of FnLifted. -/
import Derived.WalkKit
import Derived.ProofKit
import Derived.OpenShut
import Derived.ShutString
import Derived.ChangeOld
import Derived.Below
import Derived.SizedLaws
import Derived.Carry
import Derived.IntWalk
import Derived.Deep.RegionLaw
import Derived.KernelRfl
import Derived.Sort.OwnSortedInts
import Derived.Lib.SlicesCompact
import Derived.Test.YtmilokkchghpjaaGreatProg
import Derived.Test.YtmilokkchghpjaaGreatLf2
set_option maxRecDepth 100000
noncomputable section
namespace Go.Abs
theorem Mask.as7{m:Mask}(h:m.done=true):m.fst.done=true:=by
 cases m<;>simp_all [Mask.done,Mask.fst]
theorem Mask.as8{m:Mask}(h:m.done=true):m.snd.done=true:=by
 cases m<;>simp_all [Mask.done,Mask.snd]
theorem Mask.arn{m:Mask}(h:m.done=true):m.elem.done=true:=by
 cases m<;>simp_all [Mask.done,Mask.elem]
theorem Enc.toZ{w:World}{θ:ay→Nat}{Z S:BS}:∀{k:K}{m:Mask}{d:k.den}{vs:List Value}{F Z':BS},Enc w θ Z S k m d vs F→m.done=true→Sub Z Z'→Sub F Z'→Enc w θ Z' S k (.imm true) d vs noB:=by
 intro k
 induction k with
 |pair a b iha ihb=>
  intro m d vs F Z' h hd hZ hF
  obtain ⟨v1,v2,F1,F2,rfl,s1,s2,dj,h1,h2⟩:=h
  exact ⟨v1,v2,noB,noB,rfl,fun _ x=>x.elim,fun _ x=>x.elim,fun _ x=>x.elim,iha h1 (Mask.as7 hd) hZ (s1.trans hF),ihb h2 (Mask.as8 hd) hZ (s2.trans hF)⟩
 |sl e ih=>
  intro m d vs F Z' h hd hZ hF
  rcases h with ⟨rfl,_⟩|⟨_,h⟩|⟨hm,b,off,cap,c,T,fz,rfl,hc,hle,hs,hok,G',hG,hdj,he⟩
  ·simp [Mask.done] at hd
  ·exact .inr (.inl ⟨by simp,h⟩)
  ·refine .inr (.inr ⟨by simp,b,off,cap,c,T,fz,rfl,hc,hle,hs,?_,fun _=>noB,fun _=>⟨fun _ x=>x.elim,fun x=>x⟩,fun _ _ _ _ x=>x.elim,fun i x hx=>?_⟩)
   ·refine .inl ?_
    cases m with
    |own=>exact hF _ hok.1
    |sl _=>exact hF _ hok.1
    |imm z=>
     simp only [Mask.done] at hd
     subst hd
     rcases hok with h|h
     ·exact hZ _ h
     ·cases h.1
    |gone=>exact hok.elim
    |pair _ _=>exact hok.elim
   ·exact ih (he i x hx) (Mask.arn hd) hZ ((hG i).1.trans hF)
 |_=>intro m d vs F Z' h _ _ _;exact h
theorem aeb{z:Bool}:∀(q:Path){k:K}{d:k.den}{m:Mask},dh k d m q→dh k d (.imm z) q:=by
 intro q
 induction q with
 |nil=>intro k d m _;exact dS _ _ _
 |cons st q ih=>
  intro k d m h
  cases st with
  |fst=>
   cases k with
   |pair a b=>exact ih (k:=a) (m:=m.fst) h
   |_=>exact h.elim
  |snd=>
   cases k with
   |pair a b=>exact ih (k:=b) (m:=m.snd) h
   |_=>exact h.elim
  |idx i=>
   cases k with
   |sl e=>
    obtain ⟨_,x,hx,h⟩:=h
    exact ⟨by simp,x,hx,ih (k:=e) (m:=m.elem) h⟩
   |_=>exact h.elim
theorem Enc.frz{w:World}{θ:ay→Nat}{Z S:BS}{el:Bool}:∀(p:Path){k:K}{m m':Mask}{d:k.den}{vs:List Value}{F:BS},alT k m p el=some m'→Enc w θ Z S k m d vs F →
  ∃F' FZ:BS,Sub F' F∧Sub FZ F∧Em F' FZ∧(∀Z':BS,Sub Z Z'→Sub FZ Z'→Enc w θ Z' S k m' d vs F')∧∀q,dh k d m q→dh k d m' q:=by
 intro p
 induction p with
 |nil=>
  intro k m m' d vs F h he
  have hid:(some m=some m')→∃F' FZ:BS,Sub F' F∧Sub FZ F∧Em F' FZ∧(∀Z':BS,Sub Z Z'→Sub FZ Z'→Enc w θ Z' S k m' d vs F')∧∀q,dh k d m q→dh k d m' q:=by
   intro h
   simp only [Option.some.injEq] at h
   subst h
   exact ⟨F,noB,.refl _,fun _ h=>h.elim,fun _ _ h=>h,fun Z' hZ _=>he.mono hZ (.refl _) (.refl _) (fun _ _=>rfl) (fun _ _=>rfl),fun _ h=>h⟩
  cases el with
  |false=>
   have h':(bif m.done then some (bif k.flat then m else .imm true) else none)=some m':=by cases k<;>exact h
   cases hd:m.done with
   |false=>rw [hd] at h';cases h'
   |true=>
    rw [hd,cond_true] at h'
    cases hf:k.flat with
    |true=>rw [hf,cond_true] at h';exact hid h'
    |false=>
     rw [hf,cond_false,Option.some.injEq] at h'
     subst h'
     exact ⟨noB,F,fun _ h=>h.elim,.refl _,fun _ h=>h.elim,fun Z' hZ hF=>he.toZ hd hZ hF,fun q h=>aeb q h⟩
  |true=>
   cases k with
   |sl e=>
    simp only [alT] at h
    cases hd:(m.dV&&m.elem.done) with
    |false=>rw [hd] at h;cases h
    |true=>
     rw [hd,cond_true] at h
     cases hf:e.flat with
     |true=>rw [hf,cond_true] at h;exact hid h
     |false=>
      rw [hf,cond_false,Option.some.injEq] at h
      subst h
      simp only [Bool.and_eq_true] at hd
      have hcg:∀q,dh (.sl e) d m q→dh (.sl e) d (Mask.Yi (.imm true)) q:=by
       intro q hq
       cases q with
       |nil=>exact dS _ _ _
       |cons st q=>
        cases st with
        |idx i=>
         obtain ⟨_,x,hx,hq⟩:=hq
         exact ⟨by simp [Mask.Yi],x,hx,aeb q hq⟩
        |fst=>exact hq.elim
        |snd=>exact hq.elim
      rcases he with ⟨rfl,_⟩|⟨hm,h⟩|⟨hm,b,off,cap,c,T,fz,rfl,hc,hle,hs,hok,G',hG,hdj,hel⟩
      ·simp [Mask.dV] at hd
      ·exact ⟨noB,noB,fun _ h=>h.elim,fun _ h=>h.elim,fun _ h=>h.elim,fun Z' _ _=>.inr (.inl ⟨by simp [Mask.Yi],h⟩),hcg⟩
      ·have hb:F b∧fz=(0,0):=by cases m<;>simp_all [Mask.dV,P7]
       refine ⟨fun x=>x=b,fun x=>∃i,G' i x,fun x hx=>by rw [hx];exact hb.1,fun x ⟨i,hx⟩=>(hG i).1 x hx,fun x hx ⟨i,hy⟩=>(hG i).2 (by rw [←hx];exact hy),fun Z' hZ hF=>?_,hcg⟩
       refine .inr (.inr ⟨by simp [Mask.Yi],b,off,cap,c,T,fz,rfl,hc,hle,hs,⟨rfl,hb.2⟩,fun _=>noB,fun _=>⟨fun _ x=>x.elim,fun x=>x⟩,fun _ _ _ _ x=>x.elim,fun i x hx=>?_⟩)
       exact (hel i x hx).toZ hd.2 hZ (fun y hy=>hF y ⟨i,hy⟩)
   |_=>cases h
 |cons st p ih=>
  intro k m m' d vs F h he
  cases st with
  |fst=>
   cases k with
   |pair a b=>
    simp only [alT,Option.map_eq_some_iff] at h
    obtain ⟨m1,h,rfl⟩:=h
    obtain ⟨v1,v2,F1,F2,rfl,s1,s2,dj,h1,h2⟩:=he
    obtain ⟨F',FZ,g1,g2,g3,g4,g5⟩:=ih h h1
    have hm0:(m.DF m1).fst=m1∧(m.DF m1).snd=m.snd:=⟨Cn _ _,Co _ _⟩
    refine ⟨fun x=>F' x∨F2 x,FZ,fun x hx=>hx.elim (fun h=>s1 x (g1 x h)) (s2 x),g2.trans s1,fun x hx hz=>hx.elim (fun h=>g3 x h hz) (fun h=>dj x (g2 x hz) h),fun Z' hZ hF=>?_,fun q hq=>?_⟩
    ·exact ⟨v1,v2,F',F2,rfl,fun _=>.inl,fun _=>.inr,dj.sub g1 (.refl _),by rw [hm0.1];exact g4 Z' hZ hF,by rw [hm0.2];exact h2.mono hZ (.refl _) (.refl _) (fun _ _=>rfl) (fun _ _=>rfl)⟩
    ·cases q with
     |nil=>trivial
     |cons st q=>
      cases st with
      |fst=>show dh a d.1 (m.DF m1).fst q;rw [hm0.1];exact g5 q hq
      |snd=>show dh b d.2 (m.DF m1).snd q;rw [hm0.2];exact hq
      |idx i=>exact hq.elim
   |_=>cases h
  |snd=>
   cases k with
   |pair a b=>
    simp only [alT,Option.map_eq_some_iff] at h
    obtain ⟨m1,h,rfl⟩:=h
    obtain ⟨v1,v2,F1,F2,rfl,s1,s2,dj,h1,h2⟩:=he
    obtain ⟨F',FZ,g1,g2,g3,g4,g5⟩:=ih h h2
    have hm0:(m.DI m1).fst=m.fst∧(m.DI m1).snd=m1:=⟨Cn _ _,Co _ _⟩
    refine ⟨fun x=>F1 x∨F' x,FZ,fun x hx=>hx.elim (s1 x) (fun h=>s2 x (g1 x h)),g2.trans s2,fun x hx hz=>hx.elim (fun h=>dj x h (g2 x hz)) (fun h=>g3 x h hz),fun Z' hZ hF=>?_,fun q hq=>?_⟩
    ·exact ⟨v1,v2,F1,F',rfl,fun _=>.inl,fun _=>.inr,dj.sub (.refl _) g1,by rw [hm0.1];exact h1.mono hZ (.refl _) (.refl _) (fun _ _=>rfl) (fun _ _=>rfl),by rw [hm0.2];exact g4 Z' hZ hF⟩
    ·cases q with
     |nil=>trivial
     |cons st q=>
      cases st with
      |fst=>show dh a d.1 (m.DI m1).fst q;rw [hm0.1];exact hq
      |snd=>show dh b d.2 (m.DI m1).snd q;rw [hm0.2];exact g5 q hq
      |idx i=>exact hq.elim
   |_=>cases h
  |idx i=>cases k<;>cases h
theorem AVC.ay8{w:World}{C C':Ctx}{rs rs':RF}(hZ:Sub C.Z C'.Z)(hS:C'.S=C.S)(hθ:C'.θ=C.θ)(hρ:C'.ρ=C.ρ)
  (hrs:∀q y,rs' q=some y→∃x m',rs q=some x∧y=⟨x.mem,x.k,m',x.d⟩∧∀p,dh x.k x.d x.m p→dh x.k x.d m' p) :
  ∀(av:AV)(vs:List Value),AVC w C rs av vs→AVC w C' rs' av vs:=by
 have himm:∀{z:Bool}{k:K}{d:k.den}{vs:List Value}{F:BS},Enc w C.θ C.Z C.S k (.imm z) d vs F→Enc w C'.θ C'.Z C'.S k (.imm z) d vs F:=by
  intro z k d vs F h
  rw [hS,hθ]
  exact h.mono hZ (.refl _) (.refl _) (fun _ _=>rfl) (fun _ _=>rfl)
 have hbase:∀q (x:Root) m',bN C' q ⟨x.mem,x.k,m',x.d⟩=bN C q x:=by intro q x m';unfold bN;rw [hθ]
 have href:∀r p (vs:List Value),AVC w C rs (.ref r p) vs→AVC w C' rs' (.ref r p) vs:=by
  rintro r p vs ⟨v,rfl,h⟩
  refine ⟨v,rfl,fun y hy=>?_⟩
  obtain ⟨x,m',hx,rfl,hc⟩:=hrs r y hy
  obtain ⟨e,base,g1,g2,g3⟩:=h x hx
  exact ⟨e,base,g1,hc p g2,by rw [hρ,hbase];exact g3⟩
 have hptr:∀r p (vs:List Value),AVC w C rs (.ptr r p) vs→AVC w C' rs' (.ptr r p) vs:=by
  rintro r p vs ⟨b,off,rfl,h0,h⟩
  refine ⟨b,off,rfl,fun hp=>by rw [hθ];exact h0 hp,fun y hy=>?_⟩
  obtain ⟨x,m',hx,rfl,hc⟩:=hrs r y hy
  obtain ⟨k',cs,g1,g2,g3⟩:=h x hx
  exact ⟨k',cs,g1,hc p g2,by rw [hρ,hbase];exact g3⟩
 intro av
 induction av with
 |dead=>intro vs _;trivial
 |imm z k d=>intro vs h;exact ⟨h.1,himm h.2⟩
 |nn z e d=>intro vs h;exact ⟨h.1,himm h.2.1,h.2.2⟩
 |nil=>intro vs h;exact h
 |emp=>intro vs h;exact h
 |nilp=>intro vs h;exact h
 |ptr r p=>intro vs h;exact hptr r p vs h
 |ref r p=>intro vs h;exact href r p vs h
 |vw r p L=>intro vs h;exact AVC.ak9 (fun i=>hptr _ _ _ i) (fun e _ v=>⟨fun i=>href _ _ _ i,fun i=>href _ _ _ i⟩) h
 |iptr z k d p=>
  rintro vs ⟨vs0,b,off,cs,k',h1,h2,h3⟩
  exact ⟨vs0,b,off,cs,k',h1,himm h2,h3⟩
 |slc r p lo n=>
  rintro vs ⟨v,v0,rfl,h⟩
  refine ⟨v,v0,rfl,fun y hy=>?_⟩
  obtain ⟨x,m',hx,rfl,hc⟩:=hrs r y hy
  obtain ⟨e,base,g1,g2,g3,g4⟩:=h x hx
  exact ⟨e,base,g1,hc p g2,by rw [hρ,hbase];exact g3,g4⟩
 |pair a b iha ihb=>
  rintro vs ⟨v1,v2,rfl,h1,h2⟩
  exact ⟨v1,v2,rfl,iha v1 h1,ihb v2 h2⟩
 |fn f caps=>
  rintro vs ⟨rfl,hc⟩
  refine ⟨by rw [hθ],fun q hq y hy=>?_⟩
  obtain ⟨x,m',hx,rfl,_⟩:=hrs q y hy
  exact hc q hq x hx
 |tnil=>intro vs h;exact h.elim
 |tcons a b _ _=>intro vs h;exact h.elim
section
variable {w0 w : World} {M0 : BS} {n : Nat} {C0 C : Ctx} {s s' : St} {a : Act}
theorem Rel.aAn(R:Rel w0 M0 n C0 C s a w){q:ay}{x:Root}{p:Path}{el:Bool}{m':Mask}(hx:s.roots q=some x)(hm:alT x.k x.m p el=some m') :
  ∃C',Rel w0 M0 n C0 C' ⟨s.tmps,fun r=>bif req r q then some ⟨x.mem,x.k,m',x.d⟩ else s.roots r,s.pins⟩ a w:=by
 obtain ⟨G,hG,hGs,hGm⟩:=R.mem.ok q x hx
 obtain ⟨F',FZ,s1,s2,dj,henc,hcg⟩:=hG.frz p hm
 have hFZ:∀b,FZ b→C.F q b:=fun b hb=>hGs b (s2 b hb)
 have hrs:∀r y,(bif req r q then some (⟨x.mem,x.k,m',x.d⟩:Root) else s.roots r)=some y→(r=q∧y=⟨x.mem,x.k,m',x.d⟩)∨(r≠q∧s.roots r=some y):=by
  intro r y hy
  by_cases h:r=q
  ·rw [bX.2 h] at hy;exact .inl ⟨h,(Option.some.inj hy).symm⟩
  ·rw [gT h] at hy;exact .inr ⟨h,hy⟩
 have hZ:Sub C.Z (fun b=>C.Z b∨FZ b):=fun _=>.inl
 let C':Ctx:=⟨C.θ,C.ρ,fun r=>if r=q then (fun b=>F' b∨(x.mem=true∧b=C.θ q)) else C.F r,fun b=>C.Z b∨FZ b,C.S⟩
 have hFq:C'.F q=fun b=>F' b∨(x.mem=true∧b=C.θ q):=if_pos rfl
 have hFr:∀r,r≠q→C'.F r=C.F r:=fun r h=>if_neg h
 have hFsub:∀b,C'.F q b→C.F q b:=by
  intro b hb
  rw [hFq] at hb
  rcases hb with hb|⟨hmem,rfl⟩
  ·exact hGs b (s1 b hb)
  ·exact (hGm hmem).2.1
 have hFall:∀r b,C'.F r b→C.F r b:=by
  intro r b hb
  by_cases h:r=q
  ·subst h;exact hFsub b hb
  ·rw [hFr r h] at hb;exact hb
 have hother:∀r y,r≠q→s.roots r=some y→∀b,C.F r b→¬FZ b:=fun r y h hy b hb hz=>R.mem.disj r q y x hy hx h b hb (hFZ b hz)
 have hM:Mem w C' (fun r=>bif req r q then some ⟨x.mem,x.k,m',x.d⟩ else s.roots r):=by
  refine ⟨?_,?_,?_,?_,?_⟩
  ·intro r y hr
   rcases hrs r y hr with ⟨rfl,rfl⟩|⟨h1,h2⟩
   ·refine ⟨F',henc _ hZ (fun _=>.inr),fun b hb=>by rw [hFq];exact .inl hb,fun hmem=>?_⟩
    obtain ⟨k1,k2,k3⟩:=hGm hmem
    exact ⟨fun h=>k1 (s1 _ h),by rw [hFq];exact .inr ⟨hmem,rfl⟩,k3⟩
   ·exact (R.mem.ok r y h2).atK hZ rfl rfl rfl (hFr r h1) (fun _ _=>rfl) (fun _ _=>rfl)
  ·intro r r' y y' hr hr' hne b hb hb'
   have h1:∃z,s.roots r=some z:=by rcases hrs r y hr with ⟨rfl,_⟩|⟨_,h⟩<;>exact ⟨_,by assumption⟩
   have h2:∃z,s.roots r'=some z:=by rcases hrs r' y' hr' with ⟨rfl,_⟩|⟨_,h⟩<;>exact ⟨_,by assumption⟩
   obtain ⟨z,hz⟩:=h1
   obtain ⟨z',hz'⟩:=h2
   exact R.mem.disj r r' z z' hz hz' hne b (hFall r b hb) (hFall r' b hb')
  ·intro r y b hr hb
   rcases hrs r y hr with ⟨rfl,rfl⟩|⟨h1,h2⟩
   ·have h:=R.mem.apart r x b hx (hFsub b hb)
    refine ⟨fun hz=>hz.elim h.1 fun hz=>?_,h.2.1,h.2.2⟩
    rw [hFq] at hb
    rcases hb with hb|⟨hmem,rfl⟩
    ·exact dj b hb hz
    ·exact (hGm hmem).1 (s2 _ hz)
   ·rw [hFr r h1] at hb
    have h:=R.mem.apart r y b h2 hb
    exact ⟨fun hz=>hz.elim h.1 (hother r y h1 h2 b hb),h.2.1,h.2.2⟩
  ·intro b hb
   rcases hb with (hb|hb)|hb
   ·exact R.mem.ro b (.inl hb)
   ·exact (R.mem.apart q x b hx (hFZ b hb)).2.2
   ·exact R.mem.ro b (.inr hb)
  ·intro r y hr p' hp' y2 hr2
   have h1:∃z,s.roots r=some z∧p'∈aU z.k z.d:=by
    rcases hrs r y hr with ⟨rfl,rfl⟩|⟨_,h⟩
    ·exact ⟨x,hx,hp'⟩
    ·exact ⟨y,h,hp'⟩
   obtain ⟨z,hz,hp2⟩:=h1
   rcases hrs p' y2 hr2 with ⟨rfl,rfl⟩|⟨_,h⟩
   ·exact R.mem.ptr r z hz p' hp2 x hx
   ·exact R.mem.ptr r z hz p' hp2 y2 h
 refine ⟨C',⟨fun b hb=>.inl (R.ext.Z b hb),R.ext.S,R.ext.θ⟩,hM,fun t=>?_,R.kept,?_,?_,R.defers,R.room,?_,?_⟩
 ·show bL w C' _ (a.tmps.getD t undef) (s.tmps t)
  rw [←Tz (s.tmps t)]
  refine bL.step (C':=C') (xs:=[]) (fun av vs _ _ hav=>AVC.ay8 (C':=C') hZ rfl rfl rfl (fun r y hr=>?_) av vs hav) (R.tm t)
  rcases hrs r y hr with ⟨rfl,rfl⟩|⟨_,h⟩
  ·exact ⟨x,m',hx,rfl,hcg⟩
  ·exact ⟨y,y.m,h,rfl,fun _ h=>h⟩
 ·intro r y b hr hb
  have hb2:=hFall r b hb
  rcases hrs r y hr with ⟨rfl,rfl⟩|⟨_,h⟩
  ·exact R.foot r x b hx hb2
  ·exact R.foot r y b h hb2
 ·intro r y hr p' hp' h2
  rcases hrs r y hr with ⟨rfl,rfl⟩|⟨_,h⟩
  ·exact R.pins r x hx p' hp' h2
  ·exact R.pins r y h p' hp' h2
 ·intro i y hr hmem
  rcases hrs (0,i) y hr with ⟨h1,rfl⟩|⟨_,h⟩
  ·exact R.parρ i x (by rw [h1];exact hx) hmem
  ·exact R.parρ i y h hmem
 ·intro b hb
  rcases hb with hb|hb
  ·exact R.zn b hb
  ·exact .inr (R.foot q x b hx (hFZ b hb))
theorem Rel.atw:∀(l:List Frz){C:Ctx}{s:St},Rel w0 M0 n C0 C s a w→∃C',Rel w0 M0 n C0 C' (aey l s) a w:=by
 intro l
 induction l with
 |nil=>intro C s R;exact ⟨C,R⟩
 |cons f l ih=>
  intro C s R
  obtain ⟨q,p,el⟩:=f
  simp only [aey]
  split
  ·exact ih R
  ·rename_i x hx
   split
   ·exact ih R
   ·rename_i m' hm
    obtain ⟨C1,R1⟩:=R.aAn hx hm
    exact ih R1
end
end Go.Abs
namespace Go.Abs
variable {Γ : Glb}
section
variable {P : Program} {V : Env} {w0 w : World} {M0 : BS} {n : Nat} {C0 C : Ctx} {s : St} {a : Act}
variable {R' : Type} {r : R'} {o : Oper}
def BJ(n:Nat):Code→Bool
 |.region _ ops _=>ops.toList.all fun o=>match o.dst with
  |some d=>Nat.blt d n
  |none=>true
 |.seq a b=>BJ n a&&BJ n b
 |.cond _ a b=>BJ n a&&BJ n b
 |.block _ a=>BJ n a
 |.loop a=>BJ n a
 |_=>true
def bU(V:Env)(A:List (Nat×bF))(a:Code)(L:bF):Prop:=
 ∀s e s',(L.sm (restrict L.kp s)).run some=some (e,s')→∃m,iter L (fun s (c:Ex→St→Option (Ex×St))=>den V A a s c) m (restrict L.kp s) (fun e s'=>some (e,s'))=some (e,s')
def qU(V:Env)(A:List (Nat×bF)):Code→Prop
 |.seq a b=>qU V A a∧qU V A b
 |.cond _ a b=>qU V A a∧qU V A b
 |.block _ a=>qU V A a
 |.loop a=>qU V A a∧∀i L,dZ a=some i→gK i A=some L→bU V A a L
 |_=>True
def Ex.exit':Ex→Exit
 |.normal=>.normal
 |.exit id=>.exit id
 |.ret=>.ret
theorem aq9(hT:gF P V)(hE:Zx P Γ V w0 M0 C0){A:List (Nat×bF)}:∀(cd:Code),BJ n cd=true→qU V A cd→∀{R':Type}{r:R'}{c:Ex→St→Option R'}{Q:Exit→Act→World→Prop},
  (∀e s' a' w' C',c e s'=some r→Rel w0 M0 n C0 C' s' a' w'→Q e.exit' a' w')→∀{C:Ctx}{s:St}{a:Act}{w:World},Rel w0 M0 n C0 C s a w→den V A cd s c=some r→cd.wp P Q a w:=by
 intro cd
 induction cd with
 |skip=>intro _ _ R' r c Q hq C s a w R h;exact wp_skip (hq .normal s a w C h R)
 |label l=>intro _ _ R' r c Q hq C s a w R h;exact wp_label (hq .normal s a w C h R)
 |region id ops draw=>
  intro hd _ R' r c Q hq C s a w R h
  simp only [BJ,List.all_eq_true] at hd
  have hd':∀o∈ops.toList,∀d,o.dst=some d→d<n:=fun o ho d hod=>by
   have h2:=hd o ho
   rw [hod] at h2
   have h3:Nat.blt d n=true:=h2
   exact Nat.le_of_ble_eq_true h3
  have go:∀{C:Ctx}{s:St},Rel w0 M0 n C0 C s a w→Ak V ops.toList draw s (fun s'=>c .normal s')=some r→(Code.region id ops draw).wp P Q a w:=by
   intro C s R h
   cases draw with
   |false=>exact alb hT hE hd' (fun s' a' w' C' h R=>hq .normal s' a' w' C' h R) R h
   |true=>exact aio hT hE hd' (fun s' a' w' C' h R=>hq .normal s' a' w' C' h R) R h
  unfold den at h
  split at h
  ·exact go R h
  ·obtain ⟨C1,R1⟩:=Rel.atw _ R
   exact go R1 h
 |seq x y ihx ihy=>
  intro hd hL R' r c Q hq C s a w R h
  simp only [BJ,Bool.and_eq_true] at hd
  refine wp_seq (ihx hd.1 hL.1 (fun e s' a' w' C' hc R'=>?_) R h)
  cases e with
  |normal=>exact ihy hd.2 hL.2 hq R' hc
  |exit id=>exact hq (.exit id) s' a' w' C' hc R'
  |ret=>exact hq .ret s' a' w' C' hc R'
 |cond x y z ihy ihz=>
  intro hd hL R' r c Q hq C s a w R h
  simp only [BJ,Bool.and_eq_true] at hd
  simp only [den] at h
  split at h
  case h_2=>simp at h
  case h_1 zz t ht=>
  have hv:=R.eval x
  rw [ht] at hv
  refine wp_cond hv.bool ?_
  cases t with
  |true=>exact ihy hd.1 hL.1 hq R h
  |false=>exact ihz hd.2 hL.2 hq R h
 |block id x ih=>
  intro hd hL R' r c Q hq C s a w R h
  refine wp_block (ih hd hL (fun e s' a' w' C' hc R'=>?_) R h)
  cases e with
  |normal=>exact hq .normal s' a' w' C' hc R'
  |exit i=>
   simp only [Ex.exit',Exit.inBlock]
   by_cases hi:i=id
   ·rw [if_pos hi]
    simp only [beq_iff.2 hi,cond_true] at hc
    exact hq .normal s' a' w' C' hc R'
   ·rw [if_neg hi]
    simp only [gL hi,cond_false] at hc
    exact hq (.exit i) s' a' w' C' hc R'
  |ret=>exact hq .ret s' a' w' C' hc R'
 |loop x ih=>
  intro hd hL R' r c Q hq C s a w R h
  simp only [den] at h
  split at h
  case h_2=>simp at h
  case h_1 L hfl=>
  obtain ⟨⟨e,s'⟩,hsm,h⟩:=Tre.YF h
  have hfl':∃i,dZ x=some i∧gK i A=some L:=by
   cases hf:dZ x with
   |none=>rw [hf] at hfl;simp at hfl
   |some i=>rw [hf] at hfl;exact ⟨i,rfl,hfl⟩
  obtain ⟨i,hi1,hi2⟩:=hfl'
  obtain ⟨m,hm⟩:=hL.2 i L hi1 hi2 _ _ _ hsm
  refine wp_loop_rounds m ?_
  have key:∀(m:Nat){C:Ctx}{s1:St}{a:Act}{w:World},Rel w0 M0 n C0 C s1 a w→iter L (fun s (c:Ex→St→Option (Ex×St))=>den V A x s c) m s1 (fun e s'=>some (e,s'))=some (e,s')→Code.rounds P x Q m a w:=by
   intro m
   induction m with
   |zero=>intro C s1 a w _ h;simp [iter] at h
   |succ m ihm=>
    intro C s1 a w R1 h1
    rw [rounds_succ]
    simp only [iter] at h1
    refine ih hd hL.1 (fun e1 s2 a' w' C' hc R'=>?_) R1 h1
    cases e1 with
    |normal=>exact ihm (R'.restrict L.kp) hc
    |exit id=>
     simp only [Option.some.injEq,Prod.mk.injEq] at hc
     refine hq (.exit id) s' a' w' C' ?_ (by rw [←hc.2];exact R'.restrict L.kx)
     rw [hc.1];exact h
    |ret=>
     simp only [Option.some.injEq,Prod.mk.injEq] at hc
     refine hq .ret s' a' w' C' ?_ (by rw [←hc.2];exact R'.restrict L.kx)
     rw [hc.1];exact h
  exact key m (R.restrict L.kp) hm
 |exit id=>intro _ _ R' r c Q hq C s a w R h;exact wp_exit (hq (.exit id) s a w C h R)
 |ret=>intro _ _ R' r c Q hq C s a w R h;exact wp_ret (hq .ret s a w C h R)
 |_=>intro _ _ R' r c Q hq C s a w R h;simp [den] at h
end
end Go.Abs
namespace Go.Abs
def cmb(rs:RF)(fs:List Root):RF:=fun q=>if q.1=1 then fs[q.2]? else rs q
structure Moved(w:World)(C0:Ctx)(rs0:RF)(C:Ctx)(rs:RF)(fs:List Root)(ks:List Kill):Prop where
 Z:C.Z=C0.Z
 S:C.S=C0.S
 pars:∀i,C.θ (par i)=C0.θ (par i)∧C.ρ (par i)=C0.ρ (par i)
 mem:Mem w C (cmb rs fs)
 leaf:∀b vs,b.dU=true→hit ks b=false→(∀q∈b.names,q.1≠1)→AVC w C0 rs0 b vs→AVC w C (cmb rs fs) b vs
 foot:∀q y b,cmb rs fs q=some y→C.F q b→∃q0 y0,rs0 q0=some y0∧C0.F q0 b
 ptr1:∀q y,cmb rs fs q=some y→∀p∈aU y.k y.d,p.1≠1
 rs1:∀i,rs (par i)=rs0 (par i)
structure Qc(w:World)(C:Ctx)(rs:RF)(fs:List Root)(ks:List Kill)(C':Ctx)(rs':RF)(fs':List Root)(ks':List Kill):Prop where
 leaf:∀b vs,b.dU=true→hit ks' b=false→(∀q∈b.names,q.1=1→q.2<fs.length)→AVC w C (cmb rs fs) b vs→AVC w C' (cmb rs' fs') b vs
 grow:fs.length≤fs'.length
 ks:∀b,hit ks' b=false→hit ks b=false
section
variable {P : Program} {V : Env} {w : World} {C0 C : Ctx} {rs0 rs : RF} {fs : List Root} {ks : List Kill}
variable {R' : Type} {r : R'}
theorem Qc.refl:Qc w C rs fs ks C rs fs ks:=⟨fun _ _ _ _ _ h=>h,Nat.le_refl _,fun _ h=>h⟩
theorem Qc.trans{C1 C2:Ctx}{rs1 rs2:RF}{fs1 fs2:List Root}{k1 k2:List Kill}(h:Qc w C rs fs ks C1 rs1 fs1 k1)(k:Qc w C1 rs1 fs1 k1 C2 rs2 fs2 k2):Qc w C rs fs ks C2 rs2 fs2 k2:=
 ⟨fun b vs hl hh hn hb=>k.leaf b vs hl hh (fun q hq h1=>Nat.lt_of_lt_of_le (hn q hq h1) h.grow) (h.leaf b vs hl (k.ks b hh) hn hb),Nat.le_trans h.grow k.grow,fun b hb=>h.ks b (k.ks b hb)⟩
theorem amf(xs:List Kill):∀(a:AV),∀q∈(AV.kills xs a).names,q∈a.names:=by
 intro a
 induction a with
 |pair a b iha ihb=>
  intro q hq
  rw [kC] at hq
  simp only [AV.names,List.mem_append] at hq ⊢
  exact hq.imp (iha q) (ihb q)
 |tcons a b iha ihb=>
  intro q hq
  rw [kV] at hq
  simp only [AV.names,List.mem_append] at hq ⊢
  exact hq.imp (iha q) (ihb q)
 |_=>
  intro q hq
  rw [fM _ _ rfl] at hq
  cases hh:hit xs _ with
  |true=>rw [hh] at hq;cases hq
  |false=>rw [hh] at hq;exact hq
theorem AVC.aqU{w':World}{C C':Ctx}{rs rs':RF}{xs:List Kill}{N:ay→Prop}
  (h:∀a vs,a.dU=true→hit xs a=false→(∀q∈a.names,N q)→AVC w C rs a vs→AVC w' C' rs' a vs):∀(a:AV)(vs:List Value),(∀q∈a.names,N q)→AVC w C rs a vs→AVC w' C' rs' (AV.kills xs a) vs:=by
 intro a
 induction a with
 |pair a b iha ihb=>
  intro vs hn hv
  obtain ⟨v1,v2,rfl,h1,h2⟩:=hv
  rw [kC]
  exact ⟨v1,v2,rfl,iha _ (fun q hq=>hn q (by simp [AV.names,hq])) h1,ihb _ (fun q hq=>hn q (by simp [AV.names,hq])) h2⟩
 |tcons a b=>intro vs _ hv;exact hv.elim
 |_=>
  intro vs hn hv
  rw [fM _ _ rfl]
  cases hx:hit xs _ with
  |true=>trivial
  |false=>exact h _ _ rfl hx hn hv
theorem Ib.aqU{w':World}{C C':Ctx}{rs rs':RF}{xs:List Kill}{N:ay→Prop}
  (h:∀a vs,a.dU=true→hit xs a=false→(∀q∈a.names,N q)→AVC w C rs a vs→AVC w' C' rs' a vs) {v:Value} {a:AV} (hn:∀q∈a.names,N q) (hv:Ib w C rs v a):Ib w' C' rs' v (AV.kills xs a):=by
 rcases hv with rfl|⟨ha,vs,rfl,hv⟩|⟨ha,hv,hc⟩
 ·left;exact sQ xs
 ·right;left
  refine ⟨?_,vs,rfl,AVC.aqU h _ _ hn hv⟩
  cases a with
  |pair a b=>rw [kC];rfl
  |imm z k d=>
   rw [fM _ _ rfl]
   have:hit xs (.imm z k d)=false:=by simp only [hit,List.any_eq_false];intro x _;cases x<;>simp [Kill.hits]
   rw [this];exact ha
  |_=>simp [AV.agg] at ha
 ·have hl:a.dU=true:=by cases a<;>first|rfl|exact hv.elim|(simp [AV.agg] at ha;done)
  rw [fM _ _ hl]
  cases hx:hit xs a with
  |true=>left;rfl
  |false=>right;right;exact ⟨ha,h _ _ hl hx hn hv,hc⟩
theorem aik{rs rs':RF}{k:K}{av:AV}(h:∀q∈av.names,rs' q=rs q)(c:List k.den→Mask→U→List Kill→List ay→Option R'):gB rs' k [] av c=gB rs k [] av c:=by
 cases av with
 |ref q p=>
  have:look rs' [] q=look rs [] q:=h q (by simp [AV.names])
  simp only [gB,this]
 |slc q p lo n=>
  have hq:look rs' [] q=look rs [] q:=h q (by simp [AV.names])
  cases p with
  |nil=>simp only [gB,hq]
  |cons=>rfl
 |_=>rfl
theorem aus(M:Moved w C0 rs0 C rs fs ks){k:K}{av:AV}{v:Value}(hl:av.dU=true)(hloc:av.isLocal=true)(hh:hit ks av=false)(hn:∀q∈av.names,q.1≠1)(hv:AVC w C0 rs0 av [v])
  {c:List k.den→Mask→U→List Kill→List ay→Option R'} (h:gB rs k [] av c=some r) :
  ∃xs m u' k1 g1 C',c xs m u' k1 g1=some r∧Moved w C0 rs0 C' (look rs u') (fs++[⟨false,.sl k,m,xs⟩]) (ks++k1)∧Qc w C rs fs ks C' (look rs u') (fs++[⟨false,.sl k,m,xs⟩]) (ks++k1) ∧
   AVC w C' (cmb (look rs u') (fs++[⟨false,.sl k,m,xs⟩])) (.ref (fr fs.length) []) [v]:=by
 have hcur:=M.leaf av [v] hl hh hn hv
 have hcmb:∀q,q.1≠1→cmb rs fs q=rs q:=fun q hq=>if_neg hq
 rw [←aik (rs':=cmb rs fs) (fun q hq=>hcmb q (hn q hq)) c] at h
 have hlook0:look (cmb rs fs) []=cmb rs fs:=rfl
 obtain ⟨xs,m,u',k1,g1,C2,G,g,hown,Fd,henc,hkeys,hptr⟩:=Bz (rs:=cmb rs fs) (u:=[]) M.mem hcur h
 rw [hlook0] at Fd hptr
 have hnames:∀q∈av.names,2≤q.1:=by
  intro q hq
  cases av with
  |ref q0 p=>
   simp only [AV.names,List.mem_singleton] at hq
   subst hq
   obtain ⟨q1,q2⟩:=q
   match q1,hloc with
   |q1+2,_=>simp
  |slc q0 p lo n=>
   simp only [AV.names,List.mem_singleton] at hq
   subst hq
   obtain ⟨q1,q2⟩:=q
   match q1,hloc with
   |q1+2,_=>simp
  |nil=>cases hq
  |emp=>cases hq
  |_=>simp [AV.isLocal] at hloc
 have hu0:∀q:ay,q.1<2→dz q u'=none:=fun q hq=>hkeys q (fun h=>by have:=hnames q h;omega)
 have hrs1:∀q,q.1≠1→look (cmb rs fs) u' q=look rs u' q:=by
  intro q hq
  unfold look
  cases dz q u' with
  |some z=>rfl
  |none=>exact hcmb q hq
 have hrs2:∀j,look (cmb rs fs) u' (fr j)=fs[j]?:=by
  intro j
  unfold look
  rw [hu0 (fr j) (by simp)]
  rfl
 let C':Ctx:=C2.with (fr fs.length) 0 [v] G
 have hcase:∀{q:ay}{z:Root},cmb (look rs u') (fs++[⟨false,.sl k,m,xs⟩]) q=some z→(q=fr fs.length∧z=⟨false,.sl k,m,xs⟩)∨(q≠fr fs.length∧look (cmb rs fs) u' q=some z):=by
  rintro ⟨q1,q2⟩ z hz
  unfold cmb at hz
  by_cases h1:q1=1
  ·subst h1
   simp only [if_true] at hz
   by_cases h2:q2=fs.length
   ·subst h2
    simp only [List.getElem?_append_right (Nat.le_refl _),Nat.sub_self,List.getElem?_cons_zero,Option.some.injEq] at hz
    exact .inl ⟨rfl,hz.symm⟩
   ·have hlt:q2<fs.length:=by
     have:=(List.getElem?_eq_some_iff.1 hz).1
     simp at this;omega
    rw [List.getElem?_append_left hlt] at hz
    exact .inr ⟨by intro h;cases h;exact h2 rfl,by rw [show ((1,q2):ay)=fr q2 from rfl,hrs2];exact hz⟩
  ·rw [if_neg h1] at hz
   exact .inr ⟨by intro h;cases h;exact h1 rfl,by rw [hrs1 _ h1];exact hz⟩
 have hptr1:∀q z,cmb (look rs u') (fs++[⟨false,.sl k,m,xs⟩]) q=some z→∀p∈aU z.k z.d,p.1≠1:=by
  intro q z hz p hp
  rcases hcase hz with ⟨rfl,rfl⟩|⟨_,h2⟩
  ·obtain ⟨q0,x,hx,hp0⟩:=hptr p hp
   exact M.ptr1 q0 x hx p hp0
  ·obtain ⟨z0,hz0,_,_,hp0⟩:=Fd.was q z h2
   exact M.ptr1 q z0 hz0 p (hp0 p hp)
 have hneF:∀{p:ay},p.1≠1→p≠fr fs.length:=by rintro p hp rfl;exact hp rfl
 have hGfree:∀{b:Nat},G b→¬C.Z b∧¬C.S b∧b<w.heap.size:=fun hb=>Fd.free M.mem hb
 have hmem:Mem w C' (cmb (look rs u') (fs++[⟨false,.sl k,m,xs⟩])):=by
  refine ⟨?_,?_,?_,?_,?_⟩
  ·intro q z hz
   rcases hcase hz with ⟨rfl,rfl⟩|⟨h1,h2⟩
   ·refine ⟨G,?_,by rw [Ctx.jl];exact .refl _,fun h=>by cases h⟩
    rw [Ctx.with_ρ0]
    show Enc w C'.θ C2.Z C2.S (.sl k) m xs [v] G
    rw [Fd.Z,Fd.S]
    exact henc.mono (.refl _) (.refl _) (.refl _) (fun _ _=>rfl) (fun p hp=>by rw [Ctx.with_θ (hneF (hptr1 _ _ hz p hp)),Fd.θ])
   ·exact (Fd.mem.ok q z h2).keep rfl rfl (Ctx.with_θ h1) (Ctx.with_ρ h1) (Ctx.je h1) (fun p hp=>Ctx.with_θ (hneF (hptr1 _ _ hz p hp))) (fun _ _=>rfl)
  ·intro q q' z z' hz hz' hne
   rcases hcase hz with ⟨rfl,rfl⟩|⟨h1,h2⟩<;>rcases hcase hz' with ⟨rfl,rfl⟩|⟨k1,k2⟩
   ·exact absurd rfl hne
   ·rw [Ctx.jl,Ctx.je k1];exact Fd.gdisj q' z' k2
   ·rw [Ctx.jl,Ctx.je h1];exact (Fd.gdisj q z h2).symm
   ·rw [Ctx.je h1,Ctx.je k1];exact Fd.mem.disj q q' z z' h2 k2 hne
  ·intro q z b hz hb
   show ¬C2.Z b∧¬C2.S b∧_
   rcases hcase hz with ⟨rfl,rfl⟩|⟨h1,h2⟩
   ·rw [Ctx.jl] at hb;rw [Fd.Z,Fd.S];exact hGfree hb
   ·rw [Ctx.je h1] at hb;exact Fd.mem.apart q z b h2 hb
  ·exact Fd.mem.ro
  ·intro q z hz p hp z2 hz2
   rcases hcase hz2 with ⟨rfl,rfl⟩|⟨k1,k2⟩
   ·exact absurd rfl (hptr1 q z hz _ hp)
   ·rcases hcase hz with ⟨rfl,rfl⟩|⟨h1,h2⟩
    ·obtain ⟨q0,x,hx,hp0⟩:=hptr p hp
     obtain ⟨z0,hz0,_,hm0,_⟩:=Fd.was p z2 k2
     rw [hm0];exact M.mem.ptr q0 x hx p hp0 z0 hz0
    ·exact Fd.mem.ptr q z h2 p hp z2 k2
 have hstage:∀b vs,b.dU=true→hit k1 b=false→(∀q∈b.names,q.1=1→q.2<fs.length)→AVC w C (cmb rs fs) b vs→AVC w C' (cmb (look rs u') (fs++[⟨false,.sl k,m,xs⟩])) b vs:=by
  intro b vs hl hh hn hb
  refine lg (C':=C') Fd.mem (fun q=>q=fr fs.length) rfl rfl (fun q hq=>Ctx.with_θ hq) (fun q hq=>Ctx.with_ρ hq) ?_ (fun _ _=>rfl) hl (fun q hq h=>by
   have:=hn q hq (by rw [h]);rw [h] at this;simp at this) (Fd.leaf b vs hl hh hb)
  intro q z hq hz
  rcases hcase hz with ⟨h,_⟩|⟨_,h2⟩
  ·exact absurd h hq
  ·exact h2
 refine ⟨xs,m,u',k1,g1,C',g,⟨Fd.Z.trans M.Z,Fd.S.trans M.S,fun i=>?_,hmem,?_,?_,hptr1,fun i=>?_⟩,⟨fun b vs hl hh hn hb=>?_,by simp,fun b hb=>?_⟩,?_⟩
 ·rw [Ctx.with_θ (by intro h;cases h),Ctx.with_ρ (by intro h;cases h),Fd.θ,Fd.ρ];exact M.pars i
 ·intro b vs hl hh hn hb
  rw [Fe,Bool.or_eq_false_iff] at hh
  exact hstage b vs hl hh.2 (fun q hq h1=>absurd h1 (hn q hq)) (M.leaf b vs hl hh.1 hn hb)
 ·intro q z b hz hb
  rcases hcase hz with ⟨rfl,rfl⟩|⟨h1,h2⟩
  ·rw [Ctx.jl] at hb
   obtain ⟨q0,y0,hy0,hb0⟩:=Fd.gfoot b hb
   exact M.foot q0 y0 b hy0 hb0
  ·rw [Ctx.je h1] at hb
   obtain ⟨z0,hz0,hs0,_⟩:=Fd.was q z h2
   exact M.foot q z0 b hz0 (hs0 b hb)
 ·unfold look
  rw [hu0 (par i) (by simp)]
  exact M.rs1 i
 ·rw [Fe,Bool.or_eq_false_iff] at hh
  exact hstage b vs hl hh.2 hn hb
 ·rw [Fe,Bool.or_eq_false_iff] at hb;exact hb.1
 ·refine ⟨v,rfl,fun z hz=>?_⟩
  rcases hcase hz with ⟨_,rfl⟩|⟨h,_⟩
  ·exact ⟨k,none,rfl,trivial,by rw [dw,Ctx.with_ρ0];rfl⟩
  ·exact absurd rfl h
theorem au3{w:World}{C:Ctx}{rs:RF}{av:AV}{vs:List Value}(h:AVC w C rs av vs)(hl:av.isLocal=true):∃v,vs=[v]:=by
 cases av with
 |nil=>exact ⟨_,h⟩
 |emp=>obtain ⟨a,h⟩:=h;exact ⟨_,h⟩
 |ref=>obtain ⟨v,h,_⟩:=h;exact ⟨v,h⟩
 |slc=>obtain ⟨v,_,h,_⟩:=h;exact ⟨v,h⟩
 |_=>cases hl
structure awN(w:World)(C0:Ctx)(rs0:RF)(C:Ctx)(rs:RF)(fs:List Root)(ks:List Kill)(av a':AV)(rs':RF)(fs':List Root)(ks':List Kill)(C':Ctx)(vs:List Value):Prop where
 moved:Moved w C0 rs0 C' rs' fs' ks'
 stage:Qc w C rs fs ks C' rs' fs' ks'
 val:AVC w C' (cmb rs' fs') a' vs
 names:∀q∈a'.names,q.1=1→q.2<fs'.length
 agg:a'.agg=av.agg
theorem av6(M:Moved w C0 rs0 C rs fs ks){q:ay}(hq:2≤q.1)(hh:hit ks (.ptr q [])=false){x:Root}(hx:rs q=some x)(hxm:x.mem=true){vs:List Value}(hv:AVC w C0 rs0 (.ptr q []) vs) :
  ∃C',Moved w C0 rs0 C' (look rs [(q,none)]) (fs++[x]) ks∧Qc w C rs fs ks C' (look rs [(q,none)]) (fs++[x]) ks∧AVC w C' (cmb (look rs [(q,none)]) (fs++[x])) (.ptr (fr fs.length) []) vs:=by
 have hcur:=M.leaf (.ptr q []) vs rfl hh (by intro p hp;simp only [AV.names,List.mem_singleton] at hp;subst hp;omega) hv
 have hx0:cmb rs fs q=some x:=by unfold cmb;rw [if_neg (by omega)];exact hx
 let C':Ctx:=C.with (fr fs.length) (C.θ q) (C.ρ q) (C.F q)
 have hcase:∀{p:ay}{z:Root},cmb (look rs [(q,none)]) (fs++[x]) p=some z→(p=fr fs.length∧z=x)∨(p≠fr fs.length∧p≠q∧cmb rs fs p=some z):=by
  rintro ⟨q1,q2⟩ z hz
  unfold cmb at hz
  by_cases h1:q1=1
  ·subst h1
   simp only [if_true] at hz
   by_cases h2:q2=fs.length
   ·subst h2
    simp only [List.getElem?_append_right (Nat.le_refl _),Nat.sub_self,List.getElem?_cons_zero,Option.some.injEq] at hz
    exact .inl ⟨rfl,hz.symm⟩
   ·have hlt:q2<fs.length:=by
     have:=(List.getElem?_eq_some_iff.1 hz).1
     simp at this;omega
    rw [List.getElem?_append_left hlt] at hz
    refine .inr ⟨by intro h;cases h;exact h2 rfl,by rintro rfl;simp at hq,?_⟩
    unfold cmb;rw [if_pos rfl];exact hz
  ·rw [if_neg h1] at hz
   unfold look at hz
   simp only [dz] at hz
   by_cases hqq:((q1,q2):ay)=q
   ·rw [bX.2 hqq] at hz;cases hz
   ·rw [gT hqq] at hz
    refine .inr ⟨by intro h;cases h;exact h1 rfl,hqq,?_⟩
    unfold cmb;rw [if_neg h1];exact hz
 have hptr1:∀p z,cmb (look rs [(q,none)]) (fs++[x]) p=some z→∀t∈aU z.k z.d,t.1≠1:=by
  intro p z hz t ht
  rcases hcase hz with ⟨rfl,rfl⟩|⟨_,_,h2⟩
  ·exact M.ptr1 q z hx0 t ht
  ·exact M.ptr1 p z h2 t ht
 have hneF:∀{p:ay},p.1≠1→p≠fr fs.length:=by rintro p hp rfl;exact hp rfl
 have hmem:Mem w C' (cmb (look rs [(q,none)]) (fs++[x])):=by
  refine ⟨?_,?_,?_,?_,?_⟩
  ·intro p z hz
   rcases hcase hz with ⟨rfl,rfl⟩|⟨h1,_,h2⟩
   ·obtain ⟨G,g1,g2,g3⟩:=M.mem.ok q z hx0
    refine ⟨G,?_,by rw [Ctx.jl];exact g2,fun hm=>by rw [Ctx.with_θ0,Ctx.jl,Ctx.with_ρ0];exact g3 hm⟩
    rw [Ctx.with_ρ0]
    exact g1.mono (.refl _) (.refl _) (.refl _) (fun _ _=>rfl) (fun t ht=>by rw [Ctx.with_θ (hneF (hptr1 _ _ hz t ht))])
   ·exact (M.mem.ok p z h2).keep rfl rfl (Ctx.with_θ h1) (Ctx.with_ρ h1) (Ctx.je h1) (fun t ht=>Ctx.with_θ (hneF (hptr1 _ _ hz t ht))) (fun _ _=>rfl)
  ·intro p p' z z' hz hz' hne
   rcases hcase hz with ⟨rfl,rfl⟩|⟨h1,h1',h2⟩<;>rcases hcase hz' with ⟨rfl,rfl⟩|⟨k1,k1',k2⟩
   ·exact absurd rfl hne
   ·rw [Ctx.jl,Ctx.je k1];exact M.mem.disj q p' z z' hx0 k2 (Ne.symm k1')
   ·rw [Ctx.jl,Ctx.je h1];exact M.mem.disj p q z z' h2 hx0 h1'
   ·rw [Ctx.je h1,Ctx.je k1];exact M.mem.disj p p' z z' h2 k2 hne
  ·intro p z b hz hb
   rcases hcase hz with ⟨rfl,rfl⟩|⟨h1,_,h2⟩
   ·rw [Ctx.jl] at hb;exact M.mem.apart q z b hx0 hb
   ·rw [Ctx.je h1] at hb;exact M.mem.apart p z b h2 hb
  ·exact M.mem.ro
  ·intro p z hz t ht z2 hz2
   rcases hcase hz2 with ⟨rfl,rfl⟩|⟨k1,_,k2⟩
   ·exact absurd rfl (hptr1 p z hz _ ht)
   ·rcases hcase hz with ⟨rfl,rfl⟩|⟨_,_,h2⟩
    ·exact M.mem.ptr q z hx0 t ht z2 k2
    ·exact M.mem.ptr p z h2 t ht z2 k2
 have hstage:∀b vs,b.dU=true→(∀t∈b.names,t.1=1→t.2<fs.length)→AVC w C (cmb rs fs) b vs→AVC w C' (cmb (look rs [(q,none)]) (fs++[x])) b vs:=by
  intro b vs hl hn hb
  refine lg (C':=C') M.mem (fun t=>t=fr fs.length) rfl rfl (fun t ht=>Ctx.with_θ ht) (fun t ht=>Ctx.with_ρ ht) ?_ (fun _ _=>rfl) hl (fun t ht h=>by
   have:=hn t ht (by rw [h]);rw [h] at this;simp at this) hb
  intro t z ht hz
  rcases hcase hz with ⟨h,_⟩|⟨_,_,h2⟩
  ·exact absurd h ht
  ·exact h2
 refine ⟨C',⟨M.Z,M.S,fun i=>?_,hmem,?_,?_,hptr1,fun i=>?_⟩,⟨fun b vs hl _ hn hb=>hstage b vs hl hn hb,by simp,fun b hb=>hb⟩,?_⟩
 ·rw [Ctx.with_θ (by intro h;cases h),Ctx.with_ρ (by intro h;cases h)];exact M.pars i
 ·intro b vs hl hh hn hb
  exact hstage b vs hl (fun t ht h1=>absurd h1 (hn t ht)) (M.leaf b vs hl hh hn hb)
 ·intro p z b hz hb
  rcases hcase hz with ⟨rfl,rfl⟩|⟨h1,_,h2⟩
  ·rw [Ctx.jl] at hb;exact M.foot q z b hx0 hb
  ·rw [Ctx.je h1] at hb;exact M.foot p z b h2 hb
 ·unfold look
  simp only [dz]
  rw [gT (by rintro rfl;simp at hq)]
  exact M.rs1 i
 ·obtain ⟨b,off,rfl,h0,hroot⟩:=hcur
  obtain ⟨rfl,rfl⟩:=h0 rfl
  refine ⟨_,_,rfl,fun _=>⟨by rw [Ctx.with_θ0],rfl⟩,fun z hz=>?_⟩
  rcases hcase hz with ⟨_,rfl⟩|⟨h,_⟩
  ·refine ⟨z.k,C.ρ q,at_nil _,dS _ _ _,?_⟩
   rw [dw,Ctx.with_ρ0]
   unfold bN
   rw [if_pos hxm,Ctx.with_θ0]
  ·exact absurd rfl h
theorem aex{rs:RF}{av b:AV}(h:xE rs av=some b):∃q x z,av=.ref q []∧q.1≠1∧rs q=some x∧x.mem=false∧x.m=.imm z∧x.k.plain=true∧b=.imm z x.k x.d:=by
 unfold xE at h
 split at h
 case h_2=>cases h
 case h_1 d j=>
 split at h
 case h_2=>cases h
 case h_1 x hx=>
 cases hm:x.mem with
 |true=>rw [hm] at h;cases h
 |false=>
 rw [hm] at h
 simp only [cond_false] at h
 split at h
 case h_2=>cases h
 case h_1 z hz=>
 cases hp:x.k.plain with
 |false=>rw [hp] at h;cases h
 |true=>
 rw [hp] at h
 simp only [cond_true,Option.some.injEq] at h
 exact ⟨(d+2,j),x,z,rfl,by simp,hx,hm,hz,hp,h.symm⟩
theorem vU(M:Moved w C0 rs0 C rs fs ks){e:Option K}{av:AV}(hl:av.dU=true)(hg:av.agg=false)(hn:∀q∈av.names,q.1≠1){vs:List Value}(hv:AVC w C0 rs0 av vs)
  {c:AV→RF→List Root→List Kill→Option R'}
  (h:(bif hit ks av then none else match xE rs av with
   |some b=>c b rs fs ks
   |none=>bif av.isLocal then (match e with
   |some (.sl k)=>gB rs k [] av fun xs m u' k1 _=>c (.ref (fr fs.length) []) (look rs u') (fs++[⟨false,.sl k,m,xs⟩]) (ks++k1)
   |some _=>none
   |none=>match av with
    |.nil=>c .nil rs fs ks
    |_=>none) else TN av ks rs fs c)=some r) :
  ∃a' rs' fs' ks' C',c a' rs' fs' ks'=some r∧awN w C0 rs0 C rs fs ks av a' rs' fs' ks' C' vs:=by
 cases hh:hit ks av with
 |true=>rw [hh] at h;cases h
 |false=>
 rw [hh] at h
 simp only [cond_false] at h
 cases hfz:xE rs av with
 |some b=>
  rw [hfz] at h
  have hcur:=M.leaf av vs hl hh hn hv
  obtain ⟨q,x,z,rfl,hq1,hx,hxm,hmk,hpl,rfl⟩:=aex hfz
  obtain ⟨v,rfl,hroot⟩:=hcur
  have hx':cmb rs fs q=some x:=by unfold cmb;rw [if_neg hq1];exact hx
  obtain ⟨e',base,hat,_,hloc⟩:=hroot x hx'
  rw [at_nil] at hat
  rw [dw] at hloc
  simp only [Option.some.injEq,Prod.mk.injEq] at hloc hat
  obtain ⟨G,hE,_,_⟩:=M.mem.ok q x hx'
  rw [hmk,hloc.1] at hE
  refine ⟨_,_,_,_,C,h,M,.refl,⟨hpl,hE.avq⟩,fun q hq=>(by cases hq),?_⟩
  show x.k.isAgg=false
  rw [hat];rfl
 |none=>
 rw [hfz] at h
 dsimp only at h
 cases hloc:av.isLocal with
 |true=>
  rw [hloc] at h
  simp only [cond_true] at h
  split at h
  case h_2=>cases h
  case h_3=>
   have hcur:=M.leaf av vs hl hh hn hv
   split at h
   ·exact ⟨_,_,_,_,C,h,M,.refl,hcur,fun q hq=>(by cases hq),rfl⟩
   ·simp at h
  case h_1 k=>
  obtain ⟨v,rfl⟩:=au3 hv hloc
  obtain ⟨xs,m,u',k1,g1,C',g,h1,h2,h3⟩:=aus M hl hloc hh hn hv h
  refine ⟨_,_,_,_,C',g,h1,h2,h3,fun q hq _=>?_,hg.symm⟩
  simp only [AV.names,List.mem_singleton] at hq
  subst hq
  simp
 |false=>
  rw [hloc] at h
  simp only [cond_false] at h
  have hcur:=M.leaf av vs hl hh hn hv
  unfold TN at h
  split at h
  ·exact ⟨_,_,_,_,C,h,M,.refl,hcur,fun q hq h1=>absurd h1 (hn q hq),rfl⟩
  ·exact ⟨_,_,_,_,C,h,M,.refl,hcur,fun q hq h1=>absurd h1 (hn q hq),rfl⟩
  ·exact ⟨_,_,_,_,C,h,M,.refl,hcur,fun q hq h1=>absurd h1 (hn q hq),rfl⟩
  ·split at h
   case h_2=>simp at h
   case h_1 x hx=>
   cases hxm:x.mem with
   |false=>rw [hxm] at h;simp at h
   |true=>
   rw [hxm] at h
   simp only [cond_true] at h
   obtain ⟨C',h1,h2,h3⟩:=av6 M (by simp) hh hx hxm hv
   refine ⟨_,_,_,_,C',h,h1,h2,h3,fun q hq _=>?_,rfl⟩
   simp only [AV.names,List.mem_singleton] at hq
   subst hq
   simp
  ·simp at h
theorem XA{ks:List Kill}{av:AV}(h:∀x:Kill,x.hits av=false):hit ks av=false:=by
 simp only [hit,List.any_eq_false]
 intro x _
 rw [h x];simp
theorem ahr(a b:AV):∀q∈(AV.flatten a b).names,q∈a.names∨q∈b.names:=by
 intro q hq
 unfold AV.flatten at hq
 split at hq
 ·cases hq
 ·simpa [AV.names] using hq
theorem abO:∀(av:AV){e:Option K}{C:Ctx}{rs:RF}{fs:List Root}{ks:List Kill}{c:AV→RF→List Root→List Kill→Option R'}{vs:List Value},Moved w C0 rs0 C rs fs ks→(∀q∈av.names,q.1≠1)→AVC w C0 rs0 av vs →
  Yx e av ks rs fs c=some r→∃a' rs' fs' ks' C',c a' rs' fs' ks'=some r∧awN w C0 rs0 C rs fs ks av a' rs' fs' ks' C' vs:=by
 intro av
 induction av with
 |imm z k d=>
  intro e C rs fs ks c vs M hn hv h
  exact ⟨_,_,_,_,C,h,M,.refl,M.leaf _ _ rfl (XA fun x=>by cases x<;>rfl) hn hv,fun q hq=>(by cases hq),rfl⟩
 |nilp=>
  intro e C rs fs ks c vs M hn hv h
  exact ⟨_,_,_,_,C,h,M,.refl,M.leaf _ _ rfl (XA fun x=>by cases x<;>rfl) hn hv,fun q hq=>(by cases hq),rfl⟩
 |pair a b iha ihb=>
  intro e C rs fs ks c vs M hn hv h
  simp only [Yx] at h
  split at h
  case h_2=>simp at h
  case h_1 ka kb=>
  obtain ⟨v1,v2,rfl,h1,h2⟩:=hv
  obtain ⟨a',rs1,fs1,ks1,C1,h,A⟩:=iha M (fun q hq=>hn q (by simp [AV.names,hq])) h1 h
  obtain ⟨b',rs2,fs2,ks2,C2,h,B⟩:=ihb A.moved (fun q hq=>hn q (by simp [AV.names,hq])) h2 h
  refine ⟨_,_,_,_,C2,h,B.moved,A.stage.trans B.stage,AVC.flatten (AVC.aqU (fun b vs hl hh hn hb=>B.stage.leaf b vs hl hh hn hb) _ _ A.names A.val) B.val,fun q hq h1=>?_,by rw [Ii];rfl⟩
  rcases ahr _ _ q hq with hq|hq
  ·exact Nat.lt_of_lt_of_le (A.names q (amf _ _ q hq) h1) B.stage.grow
  ·exact B.names q hq h1
 |tcons a b _ _=>intro e C rs fs ks c vs M hn hv h;exact hv.elim
 |tnil=>intro e C rs fs ks c vs M hn hv h;exact hv.elim
 |dead=>
  intro e C rs fs ks c vs M hn hv h
  exact vU M rfl rfl hn hv h
 |nil=>intro e C rs fs ks c vs M hn hv h;exact vU M rfl rfl hn hv h
 |emp=>intro e C rs fs ks c vs M hn hv h;exact vU M rfl rfl hn hv h
 |ref q p=>intro e C rs fs ks c vs M hn hv h;exact vU M rfl rfl hn hv h
 |slc q p lo k0=>intro e C rs fs ks c vs M hn hv h;exact vU M rfl rfl hn hv h
 |ptr q p=>intro e C rs fs ks c vs M hn hv h;exact vU M rfl rfl hn hv h
 |iptr z k d p=>intro e C rs fs ks c vs M hn hv h;exact vU M rfl rfl hn hv h
 |nn z k d=>intro e C rs fs ks c vs M hn hv h;exact vU M rfl rfl hn hv h
 |vw q p L=>intro e C rs fs ks c vs M hn hv h;exact vU M rfl rfl hn hv h
 |fn f caps=>intro e C rs fs ks c vs M hn hv h;exact vU M rfl rfl hn hv h
theorem akq{av:AV}{e:Option K}(M:Moved w C0 rs0 C rs fs ks)(hn:∀q∈av.names,q.1≠1){v:Value}(hv:bL w C0 rs0 v av){c:AV→RF→List Root→List Kill→Option R'}(h:Yx e av ks rs fs c=some r) :
  ∃a' rs' fs' ks' C',c a' rs' fs' ks'=some r∧Moved w C0 rs0 C' rs' fs' ks'∧Qc w C rs fs ks C' rs' fs' ks'∧Ib w C' (cmb rs' fs') v a'∧∀q∈a'.names,q.1=1→q.2<fs'.length:=by
 rcases hv with (rfl|⟨hg,vs,rfl,hA⟩|⟨hg,hA,hc⟩)|⟨vs,_,ht⟩
 ·simp only [Yx] at h
  rw [XA fun x=>by cases x<;>rfl] at h
  simp [AV.isLocal,TN,xE] at h
 ·obtain ⟨a',rs',fs',ks',C',h,A⟩:=abO av M hn hA h
  exact ⟨a',rs',fs',ks',C',h,A.moved,A.stage,.inr (.inl ⟨by rw [A.agg];exact hg,vs,rfl,A.val⟩),A.names⟩
 ·obtain ⟨a',rs',fs',ks',C',h,A⟩:=abO av M hn hA h
  exact ⟨a',rs',fs',ks',C',h,A.moved,A.stage,.inr (.inr ⟨by rw [A.agg];exact hg,A.val,hc⟩),A.names⟩
 ·cases av with
  |tnil=>simp only [Yx] at h;rw [XA fun x=>by cases x<;>rfl] at h;simp [AV.isLocal,TN,xE] at h
  |tcons a b=>simp only [Yx] at h;cases hh:hit ks (.tcons a b)<;>rw [hh] at h<;>simp [AV.isLocal,TN,xE] at h
  |_=>exact ht.elim
theorem ahV:∀(l:List (AV×Option K))(vals:List Value){C:Ctx}{rs:RF}{fs:List Root}{ks:List Kill}{c:AV→RF→List Root→List Kill→Option R'},Moved w C0 rs0 C rs fs ks→ais l=false→l.length=vals.length →
  (∀(i:Nat)(x:AV×Option K)(v:Value),l[i]?=some x→vals[i]?=some v→bL w C0 rs0 v x.1)→Yy l ks rs fs c=some r →
  ∃t rs' fs' ks' C',c t rs' fs' ks'=some r∧Moved w C0 rs0 C' rs' fs' ks'∧Qc w C rs fs ks C' rs' fs' ks'∧Zy w C' (cmb rs' fs') t vals:=by
 intro l
 induction l with
 |nil=>
  intro vals C rs fs ks c M _ hlen _ h
  have:vals=[]:=List.eq_nil_of_length_eq_zero hlen.symm
  subst this
  exact ⟨_,_,_,_,C,h,M,.refl,rfl⟩
 |cons x l ih=>
  intro vals C rs fs ks c M hfr hlen hv h
  obtain ⟨a,k⟩:=x
  cases vals with
  |nil=>simp at hlen
  |cons v vals=>
  simp only [ais,Bool.or_eq_false_iff] at hfr
  have hn:∀q∈a.names,q.1≠1:=by
   intro q hq h1
   have:=hfr.1
   simp only [aw3,List.any_eq_false] at this
   exact this q hq (beq_iff.2 h1)
  simp only [Yy] at h
  obtain ⟨a',rs1,fs1,ks1,C1,h,M1,S1,V1,N1⟩:=akq M hn (hv 0 (a,k) v rfl rfl) h
  obtain ⟨t,rs2,fs2,ks2,C2,h,M2,S2,T2⟩:=ih vals M1 hfr.2 (by simpa using hlen) (fun i x v hx hvv=>hv (i+1) x v (by simpa using hx) (by simpa using hvv)) h
  exact ⟨_,_,_,_,C2,h,M2,S1.trans S2,v,vals,rfl,Ib.aqU (fun b vs hl hh hn hb=>S2.leaf b vs hl hh hn hb) N1 V1,T2⟩
end
end Go.Abs
namespace Go.Abs
section
variable {P : Program} {V : Env}
theorem asz:∀(l:List AV)(k t:Nat),Zu (aiP k l) t=if k≤t then (l[t-k]?).getD .dead else .dead:=by
 intro l
 induction l with
 |nil=>intro k t;simp [aiP,Zu]
 |cons a l ih=>
  intro k t
  simp only [aiP,Zu]
  by_cases h:t=k
  ·rw [beq_iff.2 h];subst h;simp
  ·rw [gL h]
   simp only [cond_false,ih]
   by_cases h2:k≤t
   ·rw [if_pos (by omega),if_pos h2,show t-k=(t-(k+1))+1 by omega];simp
   ·rw [if_neg (by omega),if_neg h2]
theorem ar8:∀(l:List Root)(k:Nat)(q:ay),YA (aiO k l) q=if q.1=0∧k≤q.2 then l[q.2-k]? else none:=by
 intro l
 induction l with
 |nil=>intro k q;simp [aiO,YA]
 |cons a l ih=>
  intro k q
  simp only [aiO,YA]
  by_cases h:q=par k
  ·rw [bX.2 h];subst h;simp
  ·rw [gT h]
   simp only [cond_false,ih]
   obtain ⟨q1,q2⟩:=q
   by_cases h2:q1=0∧k≤q2
   ·have hne:q2≠k:=by rintro rfl;exact h (by rw [h2.1])
    rw [if_pos ⟨h2.1,by simp;omega⟩,if_pos h2]
    simp only
    rw [show q2-k=(q2-(k+1))+1 by omega];simp
   ·rw [if_neg h2,if_neg (fun h3=>h2 ⟨h3.1,by have:=h3.2;simp at this;omega⟩)]
theorem ao1(l:List Root):YA (aiO 0 l)=YB l:=by
 funext q
 rw [ar8]
 obtain ⟨q1,q2⟩:=q
 match q1 with
 |0=>simp [YB]
 |q1+1=>simp [YB]
theorem aot{m n:Nat}(hmn:m≤n):∀(c:Code),BJ m c=true→BJ n c=true:=by
 intro c
 induction c with
 |region id ops draw=>
  intro h
  simp only [BJ,List.all_eq_true] at h ⊢
  refine fun o ho=>?_
  have h2:=h o ho
  cases hd:o.dst with
  |none=>rfl
  |some d=>
   rw [hd] at h2
   have h3:Nat.blt d m=true:=h2
   have h4:d+1≤m:=Nat.le_of_ble_eq_true h3
   show Nat.ble (d+1) n=true
   exact Nat.ble_eq_true_of_le (Nat.le_trans h4 hmn)
 |seq a b iha ihb=>intro h;simp only [BJ,Bool.and_eq_true] at h ⊢;exact ⟨iha h.1,ihb h.2⟩
 |cond x a b iha ihb=>intro h;simp only [BJ,Bool.and_eq_true] at h ⊢;exact ⟨iha h.1,ihb h.2⟩
 |block id a ih=>intro h;exact ih h
 |loop a ih=>intro h;exact ih h
 |_=>intro _;rfl
theorem ahU{rs:RF}:∀(n i:Nat){ps:List Root},F4 rs i n=some ps→ps.length=n∧∀(j:Nat)(x:Root),ps[j]?=some x→rs (par (i+j))=some x:=by
 intro n
 induction n with
 |zero=>intro i ps h;simp only [F4,Option.some.injEq] at h;subst h;exact ⟨rfl,by simp⟩
 |succ n ih=>
  intro i ps h
  simp only [F4] at h
  split at h
  case h_2=>simp at h
  case h_1 x hx=>
  cases hr:F4 rs (i+1) n with
  |none=>rw [hr] at h;simp at h
  |some ps'=>
   rw [hr] at h
   simp only [Option.map_some,Option.some.injEq] at h
   subst h
   obtain ⟨h1,h2⟩:=ih _ hr
   refine ⟨by simp [h1],fun j y hj=>?_⟩
   cases j with
   |zero=>simp only [List.getElem?_cons_zero,Option.some.injEq] at hj;subst hj;exact hx
   |succ j=>have:=h2 j y (by simpa using hj);rw [show i+(j+1)=i+1+j by omega];exact this
theorem aty{R:Type}(k:K)(d:k.den)(m:Mask)(c:(k':K)→k'.den→Mask→Option R):iN k d m [] c=c k d m:=by cases k<;>rfl
theorem amS{w0 w:World}{M0:BS}{n:Nat}{C0 C:Ctx}{st:St}{a:Act}(hT:gF P V)(R:Rel w0 M0 n C0 C st a w):∀(l:List ResultVar)(ts:List TypeId){vals:List (AV×Option K)},yY V st.tmps st.roots l ts=some vals →
  ∃vs:List Value,vs.length=vals.length∧(∀(i:Nat)(x:AV×Option K)(v:Value),vals[i]?=some x→vs[i]?=some v→bL w C st.roots v x.1)∧∀(g:ResultVar→Sem Value),(∀t,g (.tmp t)=pure (a.tmps.getD t undef))→(∀t T,g (.cell t T)=(do loadVar T (←asAddr (a.tmps.getD t undef))))→(List.mapM g l).run P w=.ok vs w:=by
 intro l
 induction l with
 |nil=>intro ts vals h;simp only [yY,Option.some.injEq] at h;subst h;exact ⟨[],rfl,by simp,fun _ _ _=>rfl⟩
 |cons r l ih=>
  intro ts vals h
  have step:∀(x:AV×Option K)(v:Value),(yY V st.tmps st.roots l ts.tail).map (x::·)=some vals→bL w C st.roots v x.1→(∀(g:ResultVar→Sem Value),(∀t,g (.tmp t)=pure (a.tmps.getD t undef))→(∀t T,g (.cell t T)=(do loadVar T (←asAddr (a.tmps.getD t undef))))→(g r).run P w=.ok v w) →
    ∃vs:List Value,vs.length=vals.length∧(∀(i:Nat)(x:AV×Option K)(v:Value),vals[i]?=some x→vs[i]?=some v→bL w C st.roots v x.1)∧∀(g:ResultVar→Sem Value),(∀t,g (.tmp t)=pure (a.tmps.getD t undef))→(∀t T,g (.cell t T)=(do loadVar T (←asAddr (a.tmps.getD t undef))))→(List.mapM g (r::l)).run P w=.ok vs w:=by
   intro x v hm hv hrun
   cases hr:yY V st.tmps st.roots l ts.tail with
   |none=>rw [hr] at hm;simp at hm
   |some vals'=>
    rw [hr] at hm
    simp only [Option.map_some,Option.some.injEq] at hm
    subst hm
    obtain ⟨vs,h1,h2,h3⟩:=ih _ hr
    refine ⟨v::vs,by simp [h1],fun i y u hy hu=>?_,fun g hg hg2=>by simp only [List.mapM_cons,Sem.run_bind,hrun g hg hg2,Result.andThen_ok,h3 g hg hg2,Sem.run_pure]⟩
    cases i with
    |zero=>simp only [List.getElem?_cons_zero,Option.some.injEq] at hy hu;subst hy;subst hu;exact hv
    |succ i=>exact h2 i y u (by simpa using hy) (by simpa using hu)
  cases r with
  |tmp t=>
   simp only [yY] at h
   exact step _ _ h (R.tm t) (fun g hg _=>by rw [hg];rfl)
  |cell t T=>
   simp only [yY] at h
   split at h
   case h_2=>simp at h
   case h_1 k q hk e1=>
   split at h
   case h_2=>simp at h
   case h_1 y hy=>
   split at h
   case isFalse=>simp at h
   case isTrue hc=>
   obtain ⟨hmem,hkk⟩:=hc
   obtain ⟨ti,hti,hki⟩:=Env.wU hk
   have hty:=hT.ty _ _ hti
   have hx:=R.tm t
   rw [e1] at hx
   obtain ⟨⟨b,off,hv,hbo,hroot⟩,_⟩:=hx.cell (by simp) rfl (by simp) (by simp)
   simp only [List.cons.injEq,and_true] at hv
   obtain ⟨rfl,rfl⟩:=hbo rfl
   obtain ⟨k',d,m,vs,b1,hp,hc2⟩:=iB (p:=[]) (c:=fun k' d m=>some ((⟨k',d⟩:Σ k:K,k.den),m)) (R.mem.ok _ _ hy) (aty _ _ _ _)
   simp only [Option.some.injEq,Prod.mk.injEq,Sigma.mk.injEq] at hc2
   obtain ⟨⟨rfl,hd⟩,rfl⟩:=hc2
   cases hd
   obtain ⟨k2,cs,g1,g2,g3⟩:=hroot y hy
   rw [hp.lc] at g3
   simp only [Option.some.injEq,Prod.mk.injEq] at g3
   obtain ⟨rfl,rfl⟩:=g3
   obtain ⟨F,he⟩:=hp.enc
   have hr:=ad8 R.mem hy hp
   have hm:y.k.isAgg=false→Vz q y.k [] y.d y.m≠.dead→(valOf y.k vs).cells = #[valOf y.k vs]:=fun hg hd=>he.cellV (ZB hd) hg
   refine step _ (valOf y.k vs) h (bL.val hr.1 he.len hr.2 hm) ?_
   have hki:ti.k=y.k:=hki.trans hkk.symm
   have hrun:=F5 (P:=P) hty hp.lies (by rw [hki];exact he.len) (v:=valOf y.k vs) (by rw [hki];exact tV he.len)
   intro g _ hg2
   rw [hg2,hv]
   simpa [Instr.loadAt,Instr.sureAddr,asAddr] using hrun
theorem amX{fn:Func}{w0 w:World}{M0:BS}{n:Nat}{C0 C:Ctx}{st:St}{a:Act}(hT:gF P V)(R:Rel w0 M0 n C0 C st a w){ts:List TypeId}{vals:List (AV×Option K)}(h:yY V st.tmps st.roots fn.results.toList ts=some vals) :
  ∃vs:List Value,vs.length=vals.length∧(∀(i:Nat)(x:AV×Option K)(v:Value),vals[i]?=some x→vs[i]?=some v→bL w C st.roots v x.1) ∧
   (results fn a.tmps).run P w=.ok (match vs with|[v]=>v|vs=>.tuple vs.toArray) w:=by
 obtain ⟨vs,h1,h2,h3⟩:=amS hT R _ _ h
 refine ⟨vs,h1,h2,?_⟩
 unfold results
 have he:fn.results=fn.results.toList.toArray:=by simp
 rw [he,List.mapM_toArray]
 simp only [Sem.run_bind,Sem.run_map]
 rw [h3 _ (fun t=>rfl) (fun t T=>rfl)]
 simp only [Result.andThen_ok,Sem.run_pure]
 cases vs with
 |nil=>rfl
 |cons v vl=>
  cases vl with
  |nil=>rfl
  |cons v2 vl=>simp
theorem Rel.Kt{w0 w:World}{M0:BS}{n:Nat}{C0 C:Ctx}{s:St}{a:Act}{V:Env}(h:Rel w0 M0 n C0 C s a w):∃C',Rel w0 M0 n C0 C' (Kt V s) a w:=by
 unfold Go.Abs.Kt
 split
 ·exact ⟨C,h⟩
 ·exact Rel.atw _ h
theorem alC{Γ:Glb}(hT:gF P V)(hE:aip P Γ V){f:FuncId}{fn:Func}{F:FnI}(hf:P.funcs[f]?=some fn)(hb:fn.body=some F.body)(hres:fn.results.toList=F.results)
  (hdst:BJ fn.ntmps F.body=true) (hL:qU V F.loops F.body) (rw:List Nat):Contract P Γ f ⟨rw,fun ci=>.mat (bH V F ci) .ret,false⟩:=by
 intro w C ci co vals hM hptr hsz hvals hgl hG
 have hE:Zx P Γ V w (yU C ci.roots) C:=⟨hE,fun b hb=>⟨hgl.1 b hb,fun ⟨i,x,hx,hF⟩=>(hM.apart (par i) x b hx hF).1 (hgl.1 b hb),hM.ro b (.inl (hgl.1 b hb))⟩,hgl.2⟩
 suffices hold:Calls P f vals w fun e w'=>match e with
   |.returned v=>∃C',Qb w C ci co v w' C'
   |_=>False from hold.mono fun e w' h=>by
  cases e with
  |returned v=>obtain ⟨C',h⟩:=h;exact ⟨C',h,fun h=>nomatch h⟩
  |_=>exact h
 refine calls_of_wp hf hb ?_
 have hG:bH V F ci=some co:=by
  obtain ⟨o,ho⟩:∃o,bH V F ci=o:=⟨_,rfl⟩
  have hG:(Tre.mat (bH V F ci) Tre.ret).run some=some co:=hG
  rw [ho] at hG ⊢
  cases o with
  |none=>cases hG
  |some x=>exact hG
 unfold bH at hG
 have hn:fn.ntmps≤(vals++Array.replicate (fn.ntmps-vals.size) undef).size:=by simp;omega
 have hinit:Rel w (yU C ci.roots) (vals++Array.replicate (fn.ntmps-vals.size) undef).size C C (atI ci) { tmps:=vals++Array.replicate (fn.ntmps-vals.size) undef,defers:=[] } w:=by
  have hroots:(atI ci).roots=YB ci.roots:=ao1 _
  refine ⟨⟨.refl _,rfl,fun _=>rfl⟩,by rw [hroots];exact hM,fun t=>?_,.refl _ _,fun q x b hq hb=>?_,fun q x hq p hp h1=>?_,rfl,rfl,fun _ _ _ _=>rfl,fun b hb=>.inl hb⟩
  ·rw [hroots]
   show bL w C _ _ (Zu (aiP 0 ci.args) t)
   rw [asz]
   simp only [Nat.zero_le,if_true,Nat.sub_zero]
   cases ht:ci.args[t]? with
   |none=>exact bL.dead
   |some av=>
    simp only [Option.getD_some]
    have hlt:t<vals.size:=by rw [hsz];exact (List.getElem?_eq_some_iff.1 ht).1
    have:(vals++Array.replicate (fn.ntmps-vals.size) undef).getD t undef=vals[t]:=by
     rw [Array.getD_eq_getD_getElem?,Array.getElem?_append_left hlt,Array.getElem?_eq_getElem hlt];rfl
    rw [this]
    exact hvals t _ av (Array.getElem?_eq_getElem hlt) ht
  ·rw [hroots] at hq
   obtain ⟨q1,q2⟩:=q
   match q1,hq with
   |0,hq=>exact .inr ⟨q2,x,hq,hb⟩
   |q1+1,hq=>cases hq
  ·rw [hroots] at hq
   obtain ⟨q1,q2⟩:=q
   match q1,hq with
   |0,hq=>have:=hptr x (List.mem_of_getElem? hq) p hp;omega
   |q1+1,hq=>cases hq
 refine aq9 hT hE F.body (aot hn _ hdst) hL (fun e s' a' w' C' hc R'=>?_) hinit hG
 have hfin:(match yY V (Kt V s').tmps (Kt V s').roots F.results F.types with
   |none=>none
   |some vals=>bif (Kt V s').pins 1||ais vals then none else
    Yy vals [] (Kt V s').roots [] fun r rs fs _=>match F4 rs 0 ci.roots.length with
     |none=>none
     |some ps=>bif sZ ps.length fs.length ps&&sZ ps.length fs.length fs then some (⟨one r,ps,fs⟩:au) else none)=some co→bodyPost P fn (fun e w'=>match e with
   |.returned v=>∃C',Qb w C ci co v w' C'
   |_=>False) .ret a' w':=by
  clear hc
  obtain ⟨C',R'⟩:=R'.Kt
  generalize Kt V s'=s' at R'
  intro hc
  split at hc
  case h_1=>simp at hc
  case h_2 _ rv hrv=>
  cases hchk:(s'.pins 1||ais rv) with
  |true=>rw [hchk] at hc;simp at hc
  |false=>
  rw [hchk] at hc
  simp only [cond_false] at hc
  simp only [Bool.or_eq_false_iff] at hchk
  rw [←hres] at hrv
  obtain ⟨vl,hsl1,hsl2,hsl3⟩:=amX hT R' hrv
  refine ⟨R'.defers,_,hsl3,?_⟩
-- the state as the start of the results' way
  have hp1:∀q y,s'.roots q=some y→∀p∈aU y.k y.d,p.1≠1:=by
   intro q y hy p hp h1
   have:=R'.pins q y hy p hp (by omega)
   rw [h1,hchk.1] at this;cases this
  have hsub:∀q y,cmb s'.roots [] q=some y→s'.roots q=some y:=by
   intro q y h
   unfold cmb at h
   split at h
   ·simp at h
   ·exact h
  have hM0:Moved w' C' s'.roots C' s'.roots [] []:=by
   refine ⟨rfl,rfl,fun _=>⟨rfl,rfl⟩,⟨fun q y h=>R'.mem.ok q y (hsub q y h),fun q q' y y' h h'=>R'.mem.disj q q' y y' (hsub q y h) (hsub q' y' h'),fun q y b h=>R'.mem.apart q y b (hsub q y h),R'.mem.ro,fun q y h p hp z hz=>R'.mem.ptr q y (hsub q y h) p hp z (hsub p z hz)⟩,
    fun b vs hl _ _ hb=>lg R'.mem (fun _=>False) rfl rfl (fun _ _=>rfl) (fun _ _=>rfl) (fun q y _ h=>hsub q y h) (fun _ _=>rfl) hl (fun _ _ h=>h) hb,
    fun q y b h hb=>⟨q,y,hsub q y h,hb⟩,fun q y h=>hp1 q y (hsub q y h),fun _=>rfl⟩
  obtain ⟨tv,rs2,fs2,ks2,C2,hc,M2,S2,T2⟩:=ahV rv vl hM0 hchk.2 hsl1.symm hsl2 hc
  split at hc
  case h_1=>simp at hc
  case h_2 _ ps hps=>
  obtain ⟨hpl,hps2⟩:=ahU _ _ hps
  cases hchk3:(sZ ps.length fs2.length ps&&sZ ps.length fs2.length fs2) with
  |false=>rw [hchk3] at hc;simp at hc
  |true=>
  rw [hchk3] at hc
  simp only [cond_true,Option.some.injEq] at hc
  subst hc
  have hout:∀q y,La ⟨one tv,ps,fs2⟩ q=some y→cmb rs2 fs2 q=some y:=by
   rintro ⟨q1,q2⟩ y hq
   match q1,hq with
   |0,hq=>have:=hps2 q2 y hq;rw [Nat.zero_add] at this;exact this
   |1,hq=>exact hq
   |q1+2,hq=>cases hq
  have hval:∀b vs,b.dU=true→hit [] b=false→AVC w' C2 (cmb rs2 fs2) b vs→AVC w' C2 (La ⟨one tv,ps,fs2⟩) b vs:=
   fun b vs hl _ hb=>lg M2.mem (fun _=>False) rfl rfl (fun _ _=>rfl) (fun _ _=>rfl) (fun q y _ h=>hout q y h) (fun _ _=>rfl) hl (fun _ _ h=>h) hb
  refine ⟨C2,fun b hb=>(by rw [M2.Z];exact R'.ext.Z b hb),M2.S.trans R'.ext.S,fun i=>(M2.pars i).1.trans (R'.ext.θ i),
   ⟨fun q y h=>M2.mem.ok q y (hout q y h),fun q q' y y' h h'=>M2.mem.disj q q' y y' (hout q y h) (hout q' y' h'),fun q y b h=>M2.mem.apart q y b (hout q y h),M2.mem.ro,fun q y h p hp z hz=>M2.mem.ptr q y (hout q y h) p hp z (hout p z hz)⟩,
   ?_,fun i x hx hm=>?_,R'.kept,fun q y b hq hb=>?_,fun b hb=>R'.zn b (by rw [←M2.Z];exact hb)⟩
  ·have hT2:=Zy.step hval _ _ T2
   rw [Tz] at hT2
   show bL w' C2 _ _ (one tv)
   cases tv with
   |tnil=>
    have:vl=[]:=hT2
    subst this
    exact .inr ⟨[],rfl,rfl⟩
   |tcons x y=>
    obtain ⟨v,l,rfl,h1,h2⟩:=hT2
    cases y with
    |tnil=>
     have:l=[]:=h2
     subst this
     exact .inl h1
    |tcons x2 y2=>
     obtain ⟨v2,l2,rfl,h3,h4⟩:=h2
     exact .inr ⟨v::v2::l2,rfl,v,_,rfl,h1,v2,l2,rfl,h3,h4⟩
    |_=>exact h2.elim
   |_=>exact hT2.elim
  ·have h1:=hps2 i x hx
   rw [Nat.zero_add,M2.rs1 i] at h1
   rw [(M2.pars i).2]
   exact R'.parρ i x h1 hm
  ·obtain ⟨q0,y0,h1,h2⟩:=M2.foot q y b (hout q y hq) hb
   exact R'.foot q0 y0 b h1 h2
 cases e with
 |exit _=>simp at hc
 |normal=>exact hfin hc
 |ret=>exact hfin hc
end
end Go.Abs
namespace Go.Abs
def ag9:K→List Value→Option (List Value)
 |.int ik,.int k n::l=>bif decide (k=ik)&&decide (n=0) then some l else none
 |.bool,.bool false::l=>some l
 |.str,.string ⟨⟨[]⟩⟩::l=>some l
 |.ptr,.pointer none::l=>some l
 |.fn,.nilFunc::l=>some l
 |.sl _,.slice none 0 0::l=>some l
 |.unit,l=>some l
 |.pair a b,l=>match ag9 a l with
  |some l=>ag9 b l
  |none=>none
 |_,_=>none
theorem apV:∀{k:K}{l l':List Value},ag9 k l=some l'→l=k.zeroCells++l':=by
 intro k
 induction k with
 |pair a b iha ihb=>
  intro l l' h
  simp only [ag9] at h
  split at h
  ·rename_i m hm
   rw [iha hm,ihb h];simp [K.zeroCells]
  ·cases h
 |int ik=>
  intro l l' h
  unfold ag9 at h
  split at h<;>first|(cases h;done)|skip
  all_goals try (rename_i heq;cases heq)
  cases hc:(decide (_=ik)&&decide (_=(0:Int))) with
  |false=>rw [hc] at h;cases h
  |true=>
   rw [hc] at h
   simp only [cond_true,Option.some.injEq] at h
   simp only [Bool.and_eq_true,decide_eq_true_eq] at hc
   obtain ⟨rfl,rfl⟩:=hc
   subst h
   rfl
 |unit=>intro l l' h;cases h;rfl
 |_=>
  intro l l' h
  unfold ag9 at h
  split at h<;>first|(cases h;done)|skip
  all_goals try (rename_i heq;cases heq)
  all_goals (cases h;first|rfl|simp [K.zeroCells])
def fieldsB(P:Program):List Field→K→Nat→Bool
 |[],.unit,_=>true
 |f::fs,.pair a b,off=>Nat.beq f.offset off&&!Nat.beq a.size 0&&(match P.info? f.type with
  |some i=>Nat.beq i.size a.size&&decide (alf P f.type=some a.isAgg)
  |none=>false)&&fieldsB P fs b (off+a.size)
 |_,_,_=>false
theorem Xw{P:Program}:∀(fs:List Field){k:K}{off:Nat},fieldsB P fs k off=true→vB P fs k off:=by
 intro fs
 induction fs with
 |nil=>intro k off h;cases k<;>first|trivial|cases h
 |cons f fs ih=>
  intro k off h
  cases k<;>first|(cases h;done)|skip
  rename_i a b
  simp only [fieldsB,Bool.and_eq_true,Bool.not_eq_true'] at h
  obtain ⟨⟨⟨h1,h2⟩,h3⟩,h4⟩:=h
  refine ⟨Nat.eq_of_beq_eq_true h1,(fun h0=>by rw [h0] at h2;cases h2),?_,ih h4⟩
  split at h3
  ·rename_i i hi;simp only [Bool.and_eq_true,decide_eq_true_eq] at h3;exact ⟨i,hi,Nat.eq_of_beq_eq_true h3.1,h3.2⟩
  ·cases h3
def as1(P:Program)(V:Env)(ti:TI)(d:TypeDesc):Bool:=
 match ti.k,d with
 |.int ik,.int k=>decide (k=ik)
 |.bool,.bool=>true
 |.str,.string=>true
 |.ptr,.pointer _=>true
 |.fn,.func ..=>true
 |.sl e,.slice t=>Nat.beq t ti.elem&&(match V.ti ti.elem with
  |some te=>decide (te.k=e)&&!Nat.beq te.k.size 0
  |none=>false)
 |.unit,.struct fs=>fieldsB P fs.toList .unit 0
 |.pair a b,.struct fs=>fieldsB P fs.toList (.pair a b) 0
 |_,_=>false
theorem aoj{P:Program}{V:Env}{ti:TI}{d:TypeDesc}(h:as1 P V ti d=true):DOK P V ti d:=by
 unfold as1 at h
 unfold DOK
 cases hk:ti.k<;>simp only [hk] at h ⊢ <;> cases d<;>simp only [] at h<;>first|(cases h;done)|skip
 ·rw [of_decide_eq_true h]
 ·rfl
 ·rfl
 ·exact ⟨_,rfl⟩
 ·exact ⟨_,_,_,rfl⟩
 ·simp only [Bool.and_eq_true] at h
  obtain ⟨h1,h2⟩:=h
  refine ⟨by rw [Nat.eq_of_beq_eq_true h1],?_⟩
  split at h2
  ·rename_i te hte
   simp only [Bool.and_eq_true,decide_eq_true_eq,Bool.not_eq_true'] at h2
   exact ⟨te,hte,h2.1,(fun h0=>by rw [h0] at h2;cases h2.2)⟩
  ·cases h2
 ·exact ⟨_,rfl,Xw _ h⟩
 ·exact ⟨_,rfl,Xw _ h⟩
def avb(P:Program):List Field→K→Nat→Bool
 |[],.unit,_=>true
 |f::fs,.pair (.int k) b,off=>!(f.name =="_")&&Nat.beq f.offset off&&(match P.underlying f.type with
  |some (.int k')=>decide (k'=k)
  |_=>false)&&avb P fs b (off+1)
 |_,_,_=>false
theorem aru{P:Program}:∀(fs:List Field){k:K}{off:Nat},avb P fs k off=true→EqF P fs k off:=by
 intro fs
 induction fs with
 |nil=>intro k off h;cases k<;>first|trivial|cases h
 |cons f fs ih=>
  intro k off h
  cases k<;>first|(cases h;done)|skip
  rename_i a b
  cases a<;>first|(cases h;done)|skip
  simp only [avb,Bool.and_eq_true,Bool.not_eq_true'] at h
  obtain ⟨⟨⟨h1,h2⟩,h3⟩,h4⟩:=h
  refine ⟨by simpa using h1,Nat.eq_of_beq_eq_true h2,?_,ih h4⟩
  split at h3
  ·rename_i k' hk';rw [hk',of_decide_eq_true h3]
  ·cases h3
def eqB(P:Program)(T:Nat)(k:K):Bool:=!k.ints||((match P.underlying T with
 |some (.struct fs)=>avb P fs.toList k 0
 |_=>false)&&!P.stoodInHeld T&&!P.eqGuardType P.depth T)
theorem atu{P:Program}{T:Nat}{k:K}(h:eqB P T k=true)(hk:k.ints=true):axu P T k:=by
 unfold eqB at h
 rw [hk,Bool.not_true,Bool.false_or] at h
 simp only [Bool.and_eq_true,Bool.not_eq_true'] at h
 obtain ⟨⟨h1,h2⟩,h3⟩:=h
 refine ⟨?_,h2,h3⟩
 split at h1
 ·rename_i fs hfs;exact ⟨fs,hfs,aru _ h1⟩
 ·cases h1
def tyB(P:Program)(V:Env)(T:Nat)(ti:TI):Bool:=
 match P.info? T,P.underlying T with
 |some i,some d=>Nat.beq i.size ti.k.size&&Nat.beq i.bytes ti.bytes&&(match i.zero with
  |some z=>(match ag9 ti.k z.cells.toList with
   |some []=>true
   |_=>false)
  |none=>false)&&as1 P V ti d&&eqB P T ti.k
 |_,_=>false
theorem auM{P:Program}{V:Env}{T:Nat}{ti:TI}(h:tyB P V T ti=true):adY P V T ti:=by
 unfold tyB at h
 split at h
 ·rename_i i d hi hd
  simp only [Bool.and_eq_true] at h
  obtain ⟨⟨⟨⟨h1,h2⟩,h3⟩,h4⟩,h5⟩:=h
  split at h3
  ·rename_i z hz
   split at h3
   ·rename_i hz2
    have:=apV hz2
    rw [List.append_nil] at this
    exact ⟨⟨i,z,hi,Nat.eq_of_beq_eq_true h1,Nat.eq_of_beq_eq_true h2,hz,this⟩,⟨d,hd,aoj h4⟩,atu h5⟩
   ·cases h3
  ·cases h3
 ·cases h
def ak6(P:Program)(V:Env):List (Nat×TI)→Bool
 |[]=>true
 | (t,ti)::l=>tyB P V t ti&&ak6 P V l
theorem aoa{α:Type}{t:Nat}{x:α}:∀(l:List (Nat×α)),gK t l=some x→(t,x)∈l:=by
 intro l
 induction l with
 |nil=>intro h;cases h
 |cons y l ih=>
  intro h
  obtain ⟨t',y⟩:=y
  simp only [gK] at h
  by_cases ht:t=t'
  ·rw [beq_iff.2 ht] at h
   simp only [cond_true,Option.some.injEq] at h
   subst h;subst ht;simp
  ·rw [gL ht] at h
   exact List.mem_cons_of_mem _ (ih h)
theorem asE{P:Program}{V:Env}:∀(l:List (Nat×TI)),ak6 P V l=true→∀t ti,(t,ti)∈l→adY P V t ti:=by
 intro l
 induction l with
 |nil=>intro _ t ti h;cases h
 |cons x l ih=>
  intro h t ti hm
  obtain ⟨t0,ti0⟩:=x
  simp only [ak6,Bool.and_eq_true] at h
  rcases List.mem_cons.1 hm with he|hm
  ·cases he;exact auM h.1
  ·exact ih h.2 t ti hm
theorem auO{P:Program}{V:Env}(h:ak6 P V V.τ=true)(hm:P.follows .mixedOrders=true):gF P V:=
 ⟨fun _ _ hti=>asE _ h _ _ (aoa _ hti),hm⟩
theorem awJ{P:Program}{τ:List (Nat×TI)}{E E':List (Nat×Ctr)}{Z Z':List (Nat×List Frz)}{t:Nat}{ti:TI}(h:tyB P ⟨τ,E,Z⟩ t ti=true):tyB P ⟨τ,E',Z'⟩ t ti=true:=h
theorem auN{P:Program}{τ:List (Nat×TI)}{E:List (Nat×Ctr)}{Z:List (Nat×List Frz)}(h:ak6 P ⟨τ,[],[]⟩ τ=true):ak6 P ⟨τ,E,Z⟩ τ=true:=by
 have key:∀l,ak6 P ⟨τ,[],[]⟩ l=true→ak6 P ⟨τ,E,Z⟩ l=true:=by
  intro l
  induction l with
  |nil=>intro _;rfl
  |cons x l ih=>
   intro h
   obtain ⟨t,ti⟩:=x
   simp only [ak6,Bool.and_eq_true] at h ⊢
   exact ⟨awJ h.1,ih h.2⟩
 exact key τ h
theorem aH{P:Program}{Γ:Glb}{τ:List (Nat×TI)}{Z:List (Nat×List Frz)}:aip P Γ ⟨τ,[],Z⟩:=fun f q h=>by cases h
theorem ak{P:Program}{Γ:Glb}{τ:List (Nat×TI)}{E:List (Nat×Ctr)}{Z:List (Nat×List Frz)}{f:Nat}{q:Ctr}(h:Contract P Γ f q)(he:Enters P f)(hE:aip P Γ ⟨τ,E,Z⟩):aip P Γ ⟨τ,(f,q)::E,Z⟩:=by
 intro g q' hg
 simp only [Env.ctr,gK] at hg
 by_cases hfg:g=f
 ·rw [beq_iff.2 hfg] at hg
  simp only [cond_true,Option.some.injEq] at hg
  subst hg;subst hfg;exact ⟨h,he⟩
 ·rw [gL hfg] at hg
  exact hE g q' hg
theorem Contract.weaken{P:Program}{Γ:Glb}{f:FuncId}{q q':Ctr}(h:Contract P Γ f q)(hq:∀ci co,(q'.G ci).run some=some co→(q.G ci).run some=some co)(hs:q'.soft=false:=by rfl):Contract P Γ f q':=
 fun w C ci co vals h1 h2 h3 h4 hg h5=>(h w C ci co vals h1 h2 h3 h4 hg (hq ci co h5)).mono fun e w' k=>by
  cases e with
  |returned v=>obtain ⟨C',k,_⟩:=k;exact ⟨C',k,fun h=>by rw [hs] at h;cases h⟩
  |_=>exact k
end Go.Abs
namespace Go.Abs
open Go.ChangeShapes Go.WideShapes Go.RowKit
def K.wf:(k:K)→k.den→Prop
 |.int ik,n=>(Lit.int ik n).wf=true
 |.str,s=>s.size≤maxLen
 |.sl e,xs=>xs.length≤maxLen∧∀x∈xs,e.wf x
 |.pair a b,d=>a.wf d.1∧b.wf d.2
 |_,_=>True
def jO(P:Program):K→TypeId ⊕ (List Field×Nat)→Bool
 |.int ik,.inl T=>match P.underlying T with
  |some (.int k)=>decide (k=ik)
  |_=>false
 |.bool,.inl T=>match P.underlying T with
  |some .bool=>true
  |_=>false
 |.str,.inl T=>match P.underlying T with
  |some .string=>true
  |_=>false
 |.sl e,.inl T=>match P.underlying T with
  |some (.slice t)=>Nat.beq (P.cellsOf t) e.size&&Nat.blt 0 e.size&&jO P e (.inl t)
  |_=>false
 |.pair a b,.inl T=>match P.underlying T with
  |some (.struct fs)=>Nat.beq (P.cellsOf T) (K.pair a b).size&&(match fs.toList with
   |f::l=>Nat.beq f.offset 0&&Nat.beq (P.cellsOf f.type) a.size&&jO P a (.inl f.type)&&jO P b (.inr (l,a.size))
   |[]=>false)
  |_=>false
 |.pair a b,.inr (f::l,off)=>Nat.beq f.offset off&&Nat.beq (P.cellsOf f.type) a.size&&jO P a (.inl f.type)&&jO P b (.inr (l,off+a.size))
 |.unit,.inr ([],_)=>true
 |_,_=>false
section
variable {P : Program} {w : World} {H : Type} {enc : TypeId × Value → H} {held : Bool} {θ : ay → Nat} {S : BS}
theorem abm{a:Addr}{n:Nat}{cs:List Value}(h:w.cells? 0 a n=some cs)(hn:0<n):∃c T fz,w.heap[a.block]?=some (.cells c T fz)∧a.spot=none∧a.off+n≤c.size∧cs=sub c a.off n:=by
 obtain ⟨_,hl,hc⟩:=World.cells?_some h
 have h0:=hc 0 hn
 have e0:a.add 0=a:=by simp [Addr.add]
 rw [e0] at h0
 have hsome:∃v,cs[0]?=some v:=⟨cs[0]'(by omega),List.getElem?_eq_getElem _⟩
 obtain ⟨v0,hv0⟩:=hsome
 rw [hv0] at h0
 unfold World.cell? at h0
 split at h0
 case h_2=>cases h0
 case h_1 c T fz hb=>
 split at h0
 ·cases h0
 ·rename_i hs
  have hs:a.spot=none:=by cases hh:a.spot with
   |none=>rfl
   |some x=>rw [hh] at hs;exact absurd rfl hs
  have hget:∀i,i<n→c[a.off+i]?=cs[i]?:=by
   intro i hi
   have:=hc i hi
   rw [←this]
   unfold World.cell?
   have hblk:(a.add i).block=a.block:=by unfold Addr.add;split<;>rfl
   have hsp:(a.add i).spot=none:=by unfold Addr.add;split<;>first|exact hs|rfl
   have hoff:(a.add i).off=a.off+i:=by unfold Addr.add;split<;>simp_all
   rw [hblk,hb]
   simp only [hsp,hoff,Option.isSome_none,Bool.false_eq_true,if_false]
  have hsize:a.off+n≤c.size:=by
   have:=hget (n-1) (by omega)
   rw [List.getElem?_eq_getElem (by omega)] at this
   have:=(Array.getElem?_eq_some_iff.1 this).1
   omega
  refine ⟨c,T,fz,hb,hs,hsize,?_⟩
  apply List.ext_getElem?
  intro i
  by_cases hi:i<n
  ·rw [←hget i hi]
   unfold sub
   rw [List.getElem?_take_of_lt hi,List.getElem?_drop,Array.getElem?_toList]
  ·rw [List.getElem?_eq_none (by omega),List.getElem?_eq_none (by rw [qo hsize];omega)]
theorem auK:∀(k:K),
  (∀(T:TypeId)(n:Nat)(cs:List Value)(x:DataW H×List MemPlace),jO P k (.inl T)=true→DataW.trod enc P w 0 (fun _=>true) held n T cs=some x →
   ∃d:k.den,Enc w θ (fun b=>b<w.heap.size) S k (.imm true) d cs noB∧k.wf d) ∧
  (∀(fs:List Field)(off n:Nat)(cs:List Value),jO P k (.inr (fs,off))=true→cs.length=off+k.size →
   (∀f∈fs,∃x,DataW.trod enc P w 0 (fun _=>true) held n f.type ((cs.drop f.offset).take (P.cellsOf f.type))=some x) →
   ∃d:k.den,Enc w θ (fun b=>b<w.heap.size) S k (.imm true) d (cs.drop off) noB∧k.wf d):=by
 intro k
 induction k with
 |int ik=>
  refine ⟨fun T n cs x h ht=>?_,fun fs off n cs h=>by simp [jO] at h⟩
  simp only [jO] at h
  split at h
  ·rename_i k hu
   have:=of_decide_eq_true h
   subst this
   obtain ⟨n,rfl,_,hw⟩:=DataW.trod_int hu ht
   exact ⟨n,rfl,hw⟩
  ·cases h
 |bool=>
  refine ⟨fun T n cs x h ht=>?_,fun fs off n cs h=>by simp [jO] at h⟩
  simp only [jO] at h
  split at h
  ·rename_i hu
   obtain ⟨b,rfl,_⟩:=DataW.trod_bool hu ht
   exact ⟨b,rfl,trivial⟩
  ·cases h
 |str=>
  refine ⟨fun T n cs x h ht=>?_,fun fs off n cs h=>by simp [jO] at h⟩
  simp only [jO] at h
  split at h
  ·rename_i hu
   obtain ⟨s,rfl,_,hw⟩:=DataW.trod_string hu ht
   exact ⟨s,rfl,hw⟩
  ·cases h
 |ptr=>exact ⟨fun T n cs x h=>by simp [jO] at h,fun fs off n cs h=>by simp [jO] at h⟩
 |fn=>exact ⟨fun T n cs x h=>by simp [jO] at h,fun fs off n cs h=>by simp [jO] at h⟩
 |unit=>
  refine ⟨fun T n cs x h=>by simp [jO] at h,fun fs off n cs h hl _=>?_⟩
  refine ⟨(),?_,trivial⟩
  show cs.drop off=[]
  have:cs.length=off:=hl
  exact List.drop_eq_nil_of_le (by omega)
 |sl e ih=>
  refine ⟨fun T n cs x h ht=>?_,fun fs off n cs h=>by simp [jO] at h⟩
  simp only [jO] at h
  split at h
  case h_2=>cases h
  case h_1 t hu=>
  simp only [Bool.and_eq_true] at h
  obtain ⟨⟨h1,h2⟩,h3⟩:=h
  have h1:=Nat.eq_of_beq_eq_true h1
  have h2:0<e.size:=Nat.le_of_ble_eq_true h2
  rcases DataW.trod_slice hu ht with ⟨rfl,_⟩|⟨a,len,cap,elems,rest,m,rfl,rfl,_,_,hlc,hcm,hel,helem,hsp,_⟩
  ·exact ⟨[],.inr (.inl ⟨by simp,rfl,none,rfl⟩),by show (0:Nat)≤maxLen;unfold maxLen;omega,by simp⟩
  ·obtain ⟨hrl,hrest⟩:=hsp rfl
   by_cases hc0:cap=0
   ·have hl0:len=0:=by omega
    subst hc0;subst hl0
    exact ⟨[],.inr (.inl ⟨by simp,rfl,some a,rfl⟩),by show (0:Nat)≤maxLen;unfold maxLen;omega,by simp⟩
   ·-- every cell up to the capacity
    have hall:∀i,i<cap→∃cs' x',w.cells? 0 (a.add (i*e.size)) e.size=some cs'∧DataW.trod enc P w 0 (fun _=>true) held m t cs'=some x':=by
     intro i hi
     have key:∃x',(w.cells? 0 (a.add (i*P.cellsOf t)) (P.cellsOf t)).bind (DataW.trod enc P w 0 (fun _=>true) held m t)=some x':=by
      by_cases hil:i<len
      ·rw [helem i hil]
       exact ⟨elems[i]'(by omega),List.getElem?_eq_getElem _⟩
      ·have:=hrest (i-len) (by omega)
       rw [show len+(i-len)=i by omega] at this
       rw [this]
       exact ⟨rest[i-len]'(by omega),List.getElem?_eq_getElem _⟩
     obtain ⟨x',hx'⟩:=key
     rw [h1] at hx'
     cases hcs:w.cells? 0 (a.add (i*e.size)) e.size with
     |none=>rw [hcs] at hx';cases hx'
     |some cs'=>rw [hcs] at hx';exact ⟨cs',x',rfl,hx'⟩
    have hblk:∀i,(a.add i).block=a.block:=fun i=>by unfold Addr.add;split<;>rfl
    obtain ⟨cs0,x0,hc0',_⟩:=hall 0 (by omega)
    rw [Nat.zero_mul,show a.add 0=a by simp [Addr.add]] at hc0'
    obtain ⟨c,U,fz,hb,hspot,_,_⟩:=abm hc0' h2
    have hoff:∀i,(a.add i).off=a.off+i:=fun i=>by unfold Addr.add;split<;>simp_all
    have hcell:∀i,i<cap→a.off+i*e.size+e.size≤c.size∧∃x',DataW.trod enc P w 0 (fun _=>true) held m t (sub c (a.off+i*e.size) e.size)=some x':=by
     intro i hi
     obtain ⟨cs',x',g1,g2⟩:=hall i hi
     obtain ⟨c',U',fz',hb',_,hs',rfl⟩:=abm g1 h2
     rw [hblk,hb] at hb'
     cases hb'
     rw [hoff] at hs' g2
     exact ⟨hs',x',g2⟩
    have hd:∀i,i<len→∃d:e.den,Enc w θ (fun b=>b<w.heap.size) S e (.imm true) d (sub c (a.off+i*e.size) e.size) noB∧e.wf d:=by
     intro i hi
     obtain ⟨_,x',hx'⟩:=hcell i (by omega)
     exact ih.1 t m _ x' h3 hx'
    have hlist:∃ds:List e.den,ds.length=len∧∀i d,ds[i]?=some d→Enc w θ (fun b=>b<w.heap.size) S e (.imm true) d (sub c (a.off+i*e.size) e.size) noB∧e.wf d:=by
     refine ⟨List.ofFn fun i:Fin len=>(hd i.1 i.2).choose,by simp,fun i d hi=>?_⟩
     rw [List.getElem?_ofFn] at hi
     split at hi
     ·rename_i hil
      cases hi
      exact (hd i hil).choose_spec
     ·cases hi
    obtain ⟨ds,hdl,hds⟩:=hlist
    have hlast:=(hcell (cap-1) (by omega)).1
    refine ⟨ds,.inr (.inr ⟨by simp,a.block,a.off,cap,c,U,fz,?_,hb,by omega,?_,.inl (by have:=(Array.getElem?_eq_some_iff.1 hb).1;exact this),fun _=>noB,fun i=>⟨fun _ h=>h.elim,fun h=>h⟩,fun _ _ _ _ h=>h.elim,fun i d hi=>(hds i d hi).1⟩),by show ds.length≤maxLen;omega,fun d hd'=>?_⟩
    ·rw [hdl]
     obtain ⟨ab,ao,asp⟩:=a
     simp only at hspot
     subst hspot
     rfl
    ·have:cap=(cap-1)+1:=by omega
     rw [this,Nat.add_mul,Nat.one_mul]
     omega
    ·obtain ⟨i,hi⟩:=List.mem_iff_getElem?.1 hd'
     exact (hds i d hi).2
 |pair a b iha ihb=>
  have tail:∀(f:Field)(l:List Field)(off n:Nat)(cs:List Value),f.offset=off→P.cellsOf f.type=a.size→jO P a (.inl f.type)=true→jO P b (.inr (l,off+a.size))=true→cs.length=off+(a.size+b.size) →
    (∀g∈f::l,∃x,DataW.trod enc P w 0 (fun _=>true) held n g.type ((cs.drop g.offset).take (P.cellsOf g.type))=some x) →
    ∃d:(K.pair a b).den,Enc w θ (fun b=>b<w.heap.size) S (.pair a b) (.imm true) d (cs.drop off) noB∧(K.pair a b).wf d:=by
   intro f l off n cs h1 h2 h3 h4 hl hf
   obtain ⟨x,hx⟩:=hf f (by simp)
   rw [h1,h2] at hx
   obtain ⟨d1,e1,w1⟩:=iha.1 _ _ _ _ h3 hx
   obtain ⟨d2,e2,w2⟩:=ihb.2 l (off+a.size) n cs h4 (by omega) (fun g hg=>hf g (by simp [hg]))
   refine ⟨(d1,d2),⟨(cs.drop off).take a.size,(cs.drop off).drop a.size,noB,noB,(List.take_append_drop _ _).symm,fun _ h=>h,fun _ h=>h,fun _ h=>h.elim,e1,?_⟩,w1,w2⟩
   rw [List.drop_drop]
   exact e2
  refine ⟨fun T n cs x h ht=>?_,fun fs off n cs h hl hf=>?_⟩
  ·simp only [jO] at h
   split at h
   case h_2=>cases h
   case h_1 fs hu=>
   simp only [Bool.and_eq_true] at h
   obtain ⟨h1,h2⟩:=h
   have h1:=Nat.eq_of_beq_eq_true h1
   split at h2
   case h_2=>cases h2
   case h_1 f l hfl=>
   simp only [Bool.and_eq_true] at h2
   obtain ⟨⟨⟨g1,g2⟩,g3⟩,g4⟩:=h2
   obtain ⟨xs,m,rfl,_,hcl,hxl,hall⟩:=DataW.trod_struct hu ht
   have:=tail f l 0 m cs (Nat.eq_of_beq_eq_true g1) (Nat.eq_of_beq_eq_true g2) g3 (by rw [Nat.zero_add];exact g4) (by rw [hcl,h1];simp [K.size]) (fun g hg=>?_)
   ·rw [List.drop_zero] at this
    exact this
   ·rw [←hfl] at hg
    obtain ⟨i,hi⟩:=List.mem_iff_getElem?.1 hg
    rw [Array.getElem?_toList] at hi
    have hlt:=(Array.getElem?_eq_some_iff.1 hi).1
    rw [hall i g hi]
    exact ⟨xs[i]'(by omega),List.getElem?_eq_getElem _⟩
  ·cases fs with
   |nil=>simp [jO] at h
   |cons f l=>
    simp only [jO,Bool.and_eq_true] at h
    obtain ⟨⟨⟨g1,g2⟩,g3⟩,g4⟩:=h
    exact tail f l off n cs (Nat.eq_of_beq_eq_true g1) (Nat.eq_of_beq_eq_true g2) g3 g4 (by rw [hl];simp [K.size]) hf
end
abbrev Args:List K→Type
 |[]=>Unit
 |k::l=>k.den×Args l
def avs:(l:List K)→Args l→List AV
 |[],_=>[]
 |k::l,d=>.imm true k d.1::avs l d.2
def wfs:(l:List K)→Args l→Prop
 |[],_=>True
 |k::l,d=>k.wf d.1∧wfs l d.2
theorem aob:∀(l:List K)(d:Args l),(avs l d).length=l.length:=by
 intro l
 induction l with
 |nil=>intro d;rfl
 |cons k l ih=>intro d;simp only [avs,List.length_cons,ih]
section
variable {P : Program} {H : Type} {enc : TypeId × Value → H}
def afN(P:Program)(x:TypeId×K):Bool:=jO P x.2 (.inl x.1)&&x.2.plain&&P.readableRec x.1&&decide (x.1<P.types.size)
theorem asC{W:World}{C:Ctx}{rs:RF}(hZ:C.Z=fun b=>b<W.heap.size){base:Nat}{k:K}{T:TypeId}{v:Value}{d:DataW H}{p:List MemPlace}(hr:jO P k (.inl T)=true)(hp:k.plain=true)(hok:Value.okWide P W .any base T v)
  (h:DataW.Trod enc P W 0 (fun _=>true) true T v d p):∃dd:k.den,bL W C rs v (.imm true k dd)∧k.wf dd:=by
 obtain ⟨n,hn⟩:=h
 obtain ⟨dd,he,hw⟩:=(auK (θ:=C.θ) (S:=C.S) k).1 T n _ _ hr hn
 refine ⟨dd,?_,hw⟩
 rw [←hZ] at he
 cases k with
 |pair a b=>
  simp only [jO] at hr
  split at hr
  case h_2=>cases hr
  case h_1 fs hu=>
  simp only [Value.okWide,hu] at hok
  obtain ⟨cs,rfl,_⟩:=hok
  exact .inl (.inr (.inl ⟨rfl,cs.toList,by simp,hp,he⟩))
 |unit=>simp [jO] at hr
 |ptr=>simp [jO] at hr
 |fn=>simp [jO] at hr
 |int ik=>
  have hv:∃n,v=.int ik n:=by
   simp only [jO] at hr
   split at hr
   ·rename_i k hu;have:=of_decide_eq_true hr;subst this;exact okWide_int hu hok
   ·cases hr
  obtain ⟨n,rfl⟩:=hv
  exact .inl (.inr (.inr ⟨rfl,⟨hp,by simpa [Value.cells] using he⟩,rfl⟩))
 |bool=>
  have hv:∃n,v=.bool n:=by
   simp only [jO] at hr
   split at hr
   ·rename_i hu;exact okWide_bool hu hok
   ·cases hr
  obtain ⟨n,rfl⟩:=hv
  exact .inl (.inr (.inr ⟨rfl,⟨hp,by simpa [Value.cells] using he⟩,rfl⟩))
 |str=>
  have hv:∃n,v=.string n:=by
   simp only [jO] at hr
   split at hr
   ·rename_i hu;exact okWide_string hu hok
   ·cases hr
  obtain ⟨n,rfl⟩:=hv
  exact .inl (.inr (.inr ⟨rfl,⟨hp,by simpa [Value.cells] using he⟩,rfl⟩))
 |sl e=>
  have hv:∃a l c,v=.slice a l c:=by
   simp only [jO] at hr
   split at hr
   ·rename_i hu;exact okWide_slice hu hok
   ·cases hr
  obtain ⟨a,l,c,rfl⟩:=hv
  exact .inl (.inr (.inr ⟨rfl,⟨hp,by simpa [Value.cells] using he⟩,rfl⟩))
theorem trodAll_back(laid:laidOutB P=true){W W':World}(hb:Below W.heap.size W W'):∀(ks:List (TypeId×K)),ks.all (afN P)=true→∀{vs:List Value}{ds:List (DataW H)}{p:List MemPlace},(∀x∈p,x.block<W.heap.size) →
  DataW.TrodAll enc P W 0 (fun _=>true) true (ks.map (·.1)) vs ds p→DataW.TrodAll enc P W' 0 (fun b=>decide (b<W.heap.size)) true (ks.map (·.1)) vs ds p∧ds.length=ks.length:=by
 intro ks
 induction ks with
 |nil=>intro _ vs ds p _ h;obtain ⟨rfl,rfl,rfl⟩:=trodAll_nil h;exact ⟨rfl,rfl⟩
 |cons x ks ih=>
  intro hk vs ds p hlt h
  rw [List.all_cons,Bool.and_eq_true] at hk
  obtain ⟨v,vs',d,ds',p1,q1,rfl,rfl,rfl,h1,h2⟩:=trodAll_cons h
  have hx:=hk.1
  simp only [afN,Bool.and_eq_true,decide_eq_true_eq] at hx
  obtain ⟨g1,g2⟩:=ih hk.2 (fun y hy=>hlt y (by simp [hy])) h2
  exact ⟨⟨p1,q1,Below.trod laid hx.1.2 hx.2 h1 hb (fun y hy=>hlt y (by simp [hy])),g1,rfl⟩,by simp [g2]⟩
theorem ak5{W:World}{C:Ctx}{rs:RF}(hZ:C.Z=fun b=>b<W.heap.size){base:Nat}:∀(ks:List (TypeId×K)),ks.all (afN P)=true→∀{vs:List Value}{ds:List (DataW H)}{p:List MemPlace},
  (∀(j:Nat) t v,(ks.map (·.1))[j]?=some t→vs[j]?=some v→Value.okWide P W .any base t v)→DataW.TrodAll enc P W 0 (fun _=>true) true (ks.map (·.1)) vs ds p →
  vs.length=ks.length∧∃dd:Args (ks.map (·.2)),wfs _ dd∧∀(i:Nat)(v:Value)(a:AV),vs[i]?=some v→(avs _ dd)[i]?=some a→bL W C rs v a:=by
 intro ks
 induction ks with
 |nil=>
  intro _ vs ds p _ h
  obtain ⟨rfl,rfl,rfl⟩:=trodAll_nil h
  exact ⟨rfl,(),trivial,fun i v a h=>by simp at h⟩
 |cons x ks ih=>
  intro hk vs ds p hok h
  rw [List.all_cons,Bool.and_eq_true] at hk
  obtain ⟨v,vs',d,ds',p1,q1,rfl,rfl,rfl,h1,h2⟩:=trodAll_cons h
  have hx:=hk.1
  simp only [afN,Bool.and_eq_true,decide_eq_true_eq] at hx
  obtain ⟨g1,dd,g2,g3⟩:=ih hk.2 (fun j t v ht hv=>hok (j+1) t v (by simpa using ht) (by simpa using hv)) h2
  obtain ⟨d0,e1,e2⟩:=asC (rs:=rs) hZ hx.1.1.1 hx.1.1.2 (hok 0 x.1 v rfl rfl) h1
  refine ⟨by simp [g1],(d0,dd),⟨e2,g2⟩,fun i v' a hv ha=>?_⟩
  cases i with
  |zero=>
   simp only [List.getElem?_cons_zero,Option.some.injEq] at hv
   subst hv
   have ha:some (AV.imm true x.2 d0)=some a:=ha
   cases ha
   exact e1
  |succ i=>exact g3 i v' a (by simpa using hv) ha
theorem asa{Γ:Glb}{f:FuncId}{fn:Func}{rw:List Nat}{G:Vs→Tre au}{sf:Bool}(hc:Contract P Γ f ⟨rw,G,sf⟩)(laid:laidOutB P=true)(ks:List (TypeId×K))(hp:fn.params.toList=ks.map (·.1))(hk:ks.all (afN P)=true){rt:TypeId}
  (hr:fn.resultTypes = #[rt]) (hrt:P.underlying rt=some .bool) {s:ChangeSpec} (hv:s.vars=[]) (hs:∀ds:List (DataW H),ds.length=ks.length→s.fn H ds=⟨[.lit (.bool true)],ds,[]⟩)
  (hG:∀dd:Args (ks.map (·.2)),wfs _ dd→∃z,(G ⟨avs _ dd,[]⟩).run some=some ⟨.imm z .bool true,[],[]⟩) {W:World} {base:Nat} {args:Array Value} {ds gs:List (DataW H)} {before:List MemPlace}
  (hok:∀(j:Nat) t v,fn.params[j]?=some t→args[j]?=some v→Value.okWide P W .any base t v) (hW:DataW.Whole enc P fn.params.toList s.vars false W args.toList ds gs before) (hg0:(∀b∈Γ.blocks,b<W.heap.size)∧Γ.holds W) :
  Calls P f args W fun e W'=>∃v,e=.returned v∧s.post enc P fn false true false false W args v W':=by
 have hW':=hW
 obtain ⟨p,q,hA,hV,rfl,hfz,hnd⟩:=hW
 rw [hv] at hV
 obtain ⟨rfl,rfl⟩:=trodVars_none hV
 rw [hp] at hA
 have hlt:∀x∈p,x.block<W.heap.size:=fun x hx=>hW'.lt x (by simp [hx])
 have C0:Ctx:=⟨fun _=>0,fun _=>[],fun _=>noB,fun b=>b<W.heap.size,noB⟩
 have hok':∀(j:Nat) t v,(ks.map (·.1))[j]?=some t→args.toList[j]?=some v→Value.okWide P W .any base t v:=fun j t v ht hv=>hok j t v (by rw [←hp] at ht;rw [←Array.getElem?_toList];exact ht) (by rw [←Array.getElem?_toList];exact hv)
 obtain ⟨hlen,dd,hwf,hval⟩:=ak5 (C:=⟨fun _=>0,fun _=>[],fun _=>noB,fun b=>b<W.heap.size,noB⟩) (rs:=YB []) rfl ks hk hok' hA
 obtain ⟨z,hg⟩:=hG dd hwf
 refine (hc W ⟨fun _=>0,fun _=>[],fun _=>noB,fun b=>b<W.heap.size,noB⟩ ⟨avs _ dd,[]⟩ _ args ?_ (by simp) (by rw [aob,List.length_map,←hlen,Array.length_toList]) (fun i v a hv ha=>hval i v a (by rw [Array.getElem?_toList];exact hv) ha) hg0 hg).mono fun e W' he=>?_
 ·have hno:∀q:ay,YB [] q=none:=by rintro ⟨q1,q2⟩;match q1 with
   |0=>simp [YB]
   |q1+1=>rfl
  exact ⟨(fun q y h=>by rw [hno] at h;cases h),(fun q q' y y' h=>by rw [hno] at h;cases h),(fun q y b h=>by rw [hno] at h;cases h),(fun b h=>h.elim id fun h=>h.elim),(fun q y h=>by rw [hno] at h;cases h)⟩
 ·cases e with
  |returned v=>
   obtain ⟨C',hpost,_⟩:=he
   have hvb:=hpost.val.bool
   subst hvb
   have hb:Below W.heap.size W W':=⟨hpost.kept.os,hpost.kept.tape,hpost.kept.output,hpost.kept.size,fun b hb=>hpost.kept.block b hb (fun ⟨i,x,h,_⟩=>by simp at h)⟩
   obtain ⟨hback,hdl⟩:=trodAll_back laid hb ks hk hlt hA
   refine ⟨_,rfl,ds,[],p++[],[],p,[],hW',?_,?_,?_,hb.frame _,fun h=>by cases h⟩
   ·rw [List.append_nil,hs ds hdl,hr]
    exact trodAll_mk1 (shut_bool hrt _)
   ·rw [List.append_nil,hs ds hdl,hp]
    exact hback
   ·rw [List.append_nil,hs ds hdl,hv]
    rfl
  |_=>exact he.elim
end
end Go.Abs
namespace Go.Abs
section
variable {R R' : Type} {r : R'} {g : R → Option R'}
def bB(k:K)(a:AV)(c:Bool→k.den→Tre R):Tre R:=match a with
 |.imm z k' d=>if h:k'=k then c z (h ▸ d) else .fail
 |_=>.fail
theorem dJ{k:K}{a:AV}{c:Bool→k.den→Tre R}(h:(bB k a c).run g=some r):∃z d,a=.imm z k d∧(c z d).run g=some r:=by
 unfold bB at h
 split at h
 ·split at h
  ·rename_i hk;subst hk;exact ⟨_,_,rfl,h⟩
  ·cases h
 ·cases h
def aF(z0:Bool)(k:K)(a:AV)(c:k.den→Tre R):Tre R:=match a with
 |.imm z k' d=>if h:k'=k then (if z=z0 then c (h ▸ d) else .fail) else .fail
 |_=>.fail
theorem bO{z0:Bool}{k:K}{a:AV}{c:k.den→Tre R}(h:(aF z0 k a c).run g=some r):∃d,a=.imm z0 k d∧(c d).run g=some r:=by
 unfold aF at h
 split at h
 ·split at h
  ·rename_i hk
   subst hk
   split at h
   ·rename_i hz;subst hz;exact ⟨_,rfl,h⟩
   ·cases h
  ·cases h
 ·cases h
def au2(e:K)(a:AV)(c:Bool→List e.den→Tre R):Tre R:=match a with
 |.nn z e' d=>if h:e'=e then c z (h ▸ d) else .fail
 |_=>.fail
theorem aq2{e:K}{a:AV}{c:Bool→List e.den→Tre R}(h:(au2 e a c).run g=some r):∃z d,a=.nn z e d∧(c z d).run g=some r:=by
 unfold au2 at h
 split at h
 ·split at h
  ·rename_i hk;subst hk;exact ⟨_,_,rfl,h⟩
  ·cases h
 ·cases h
def asD{α:Type} [DecidableEq α] (x y:α) (c:Tre R):Tre R:=if x=y then c else .fail
theorem asT{α:Type} [DecidableEq α] {x y:α} {c:Tre R} (h:(asD x y c).run g=some r):x=y∧c.run g=some r:=by
 unfold asD at h
 split at h
 ·exact ⟨‹_›,h⟩
 ·cases h
def fQ(q:ay)(p:Path)(a:AV)(c:Tre R):Tre R:=match a with
 |.ref q' p'=>if q'=q∧p'=p then c else .fail
 |_=>.fail
theorem ad7{q:ay}{p:Path}{a:AV}{c:Tre R}(h:(fQ q p a c).run g=some r):a=.ref q p∧c.run g=some r:=by
 unfold fQ at h
 split at h
 ·split at h
  ·rename_i hk;obtain ⟨rfl,rfl⟩:=hk;exact ⟨rfl,h⟩
  ·cases h
 ·cases h
def firstIdx:Path→Nat
 |.idx n::_=>n
 |_::p=>firstIdx p
 |[]=>0
def aqg:Path→Path→Bool
 |[],[]=>true
 |.fst::t,.fst::p=>aqg t p
 |.snd::t,.snd::p=>aqg t p
 |_,_=>false
def aml:Path→Path→Bool
 |.fst::t,.fst::p=>aml t p
 |.snd::t,.snd::p=>aml t p
 |.idx _::t,.idx _::p=>aqg t p
 |_,_=>false
def ap3:Path→Nat→Path
 |.idx _::t,n=>.idx n::t
 |s::t,n=>s::ap3 t n
 |[],_=>[]
theorem afs:∀(t p:Path),aqg t p=true→p=t
 |[],[],_=>rfl
 |.fst::t,.fst::p,h=>by rw [afs t p h]
 |.snd::t,.snd::p,h=>by rw [afs t p h]
theorem aft:∀(t p:Path),aml t p=true→p=ap3 t (firstIdx p)
 |.fst::t,.fst::p,h=>congrArg (Step.fst::·) (aft t p h)
 |.snd::t,.snd::p,h=>congrArg (Step.snd::·) (aft t p h)
 |.idx _::t,.idx n::p,h=>congrArg (Step.idx n::·) (afs t p h)
def Vx(q:ay)(t:Path)(a:AV)(c:Nat→Tre R):Tre R:=match a with
 |.ref r p=>bif req r q&&aml t p then c (firstIdx p) else .fail
 |_=>.fail
theorem aln{q:ay}{t:Path}{a:AV}{c:Nat→Tre R}(h:(Vx q t a c).run g=some r):∃n,a=.ref q (ap3 t n)∧(c n).run g=some r:=by
 unfold Vx at h
 split at h
 case h_2=>cases h
 rename_i r' p'
 cases hk:(req r' q&&aml t p') with
 |false=>rw [hk] at h;cases h
 |true=>
  rw [hk] at h
  simp only [Bool.and_eq_true] at hk
  have hr:=bX.1 hk.1
  subst hr
  exact ⟨_,congrArg (AV.ref r') (aft t p' hk.2),h⟩
def dH(q:ay)(p:Path)(a:AV)(c:Tre R):Tre R:=match a with
 |.ptr q' p'=>if q'=q∧p'=p then c else .fail
 |_=>.fail
theorem EY{q:ay}{p:Path}{a:AV}{c:Tre R}(h:(dH q p a c).run g=some r):a=.ptr q p∧c.run g=some r:=by
 unfold dH at h
 split at h
 ·split at h
  ·rename_i hk;obtain ⟨rfl,rfl⟩:=hk;exact ⟨rfl,h⟩
  ·cases h
 ·cases h
def xY(f:Nat)(caps:List ay)(a:AV)(c:Tre R):Tre R:=match a with
 |.fn f' caps'=>if f'=f∧caps'=caps then c else .fail
 |_=>.fail
theorem xB{f:Nat}{caps:List ay}{a:AV}{c:Tre R}(h:(xY f caps a c).run g=some r):a=.fn f caps∧c.run g=some r:=by
 unfold xY at h
 split at h
 ·split at h
  ·rename_i hk;obtain ⟨rfl,rfl⟩:=hk;exact ⟨rfl,h⟩
  ·cases h
 ·cases h
def alm(a:AV)(c:Tre R):Tre R:=match a with
 |.nil=>c
 |_=>.fail
theorem an8{a:AV}{c:Tre R}(h:(alm a c).run g=some r):a=.nil∧c.run g=some r:=by
 unfold alm at h
 split at h
 ·exact ⟨rfl,h⟩
 ·cases h
def aB{α:Type}(l:List α)(c:α→List α→Tre R):Tre R:=match l with
 |x::y=>c x y
 |_=>.fail
theorem abl{α:Type}{l:List α}{c:α→List α→Tre R}(h:(aB l c).run g=some r):∃x y,l=x::y∧(c x y).run g=some r:=by
 unfold aB at h
 split at h
 ·exact ⟨_,_,rfl,h⟩
 ·cases h
def aJ{α:Type}(l:List α)(c:Tre R):Tre R:=match l with
 |[]=>c
 |_=>.fail
theorem Vw{α:Type}{l:List α}{c:Tre R}(h:(aJ l c).run g=some r):l=[]∧c.run g=some r:=by
 unfold aJ at h
 split at h
 ·exact ⟨rfl,h⟩
 ·cases h
def iL(mem:Bool)(k:K)(x:Root)(c:Mask→k.den→Tre R):Tre R:=
 if h:x.k=k then (bif Bool.beq x.mem mem then c x.m (h ▸ x.d) else .fail) else .fail
 where Bool.beq:Bool→Bool→Bool
 |true,b=>b
 |false,b=>!b
theorem aiu{mem:Bool}{k:K}{x:Root}{c:Mask→k.den→Tre R}(h:(iL mem k x c).run g=some r):∃m d,x=⟨mem,k,m,d⟩∧(c m d).run g=some r:=by
 obtain ⟨mem',k',m',d'⟩:=x
 unfold iL at h
 split at h
 ·rename_i hk
  have hk:k'=k:=hk
  subst hk
  cases mem'<;>cases mem<;>first|exact ⟨_,_,rfl,h⟩|cases h
 ·cases h
def bq(mem:Bool)(k:K)(o:Option Root)(c:Mask→k.den→Tre R):Tre R:=match o with
 |some x=>iL mem k x c
 |none=>.fail
theorem gG{mem:Bool}{k:K}{o:Option Root}{c:Mask→k.den→Tre R}(h:(bq mem k o c).run g=some r):∃m d,o=some ⟨mem,k,m,d⟩∧(c m d).run g=some r:=by
 unfold bq at h
 split at h
 ·obtain ⟨m,d,hx,h2⟩:=aiu h;exact ⟨m,d,by rw [hx],h2⟩
 ·cases h
def asM(m0 m:Mask)(c:Tre R):Tre R:=if m=m0 then c else .fail
theorem vD{m0 m:Mask}{c:Tre R}(h:(asM m0 m c).run g=some r):m=m0∧c.run g=some r:=by
 unfold asM at h
 split at h
 ·exact ⟨‹_›,h⟩
 ·cases h
def fI(m:Mask)(c:Bool→Tre R):Tre R:=match m with
 |.imm z=>c z
 |_=>.fail
theorem BF{m:Mask}{c:Bool→Tre R}(h:(fI m c).run g=some r):∃z,m=.imm z∧(c z).run g=some r:=by
 unfold fI at h
 split at h
 ·exact ⟨_,rfl,h⟩
 ·cases h
end
section
variable {σ β : Type}
def runN (step:σ→Tre (σ ⊕ β)):Nat→σ→Option β
 |0,_=>none
 |n+1,x=>(step x).run fun
  |.inl y=>runN step n y
  |.inr b=>some b
theorem Lb(step:σ→Tre (σ ⊕ β))(n:Nat)(x:σ):runN step (n+1) x=((step x).run some).bind fun
  |.inl y=>runN step n y
  |.inr b=>some b:=Tre.run_bind _ _
theorem asb(step:σ→Tre (σ ⊕ β)):∀(n:Nat)(x:σ)(b:β),runN step n x=some b→runN step (n+1) x=some b:=by
 intro n
 induction n with
 |zero=>intro x b h;cases h
 |succ n ih=>
  intro x b h
  rw [Lb] at h ⊢
  cases hs:(step x).run some with
  |none=>rw [hs] at h;cases h
  |some y=>
   rw [hs] at h
   cases y with
   |inl y=>exact ih y b h
   |inr y=>exact h
theorem adP(step:σ→Tre (σ ⊕ β)){n m:Nat}(hnm:n≤m){x:σ}{b:β}(h:runN step n x=some b):runN step m x=some b:=by
 induction hnm with
 |refl=>exact h
 |step _ ih=>exact asb step _ _ _ ih
open Classical in
def aS (step:σ→Tre (σ ⊕ β)) (x:σ):Option β:=
 match runN step 1000000000000 x with
 |some b=>some b
 |none=>if h:∃b,∃n,runN step n x=some b then some (Classical.choose h) else none
theorem TD{step:σ→Tre (σ ⊕ β)}{x:σ}{b:β}:aS step x=some b ↔ ∃n,runN step n x=some b:=by
 unfold aS
 generalize hN:(1000000000000:Nat)=N
 cases hr:runN step N x with
 |some b'=>
  constructor
  ·intro h;cases h;exact ⟨N,hr⟩
  ·rintro ⟨n,hn⟩
   have h1:=adP step (Nat.le_max_left n N) hn
   have h2:=adP step (Nat.le_max_right n N) hr
   rw [h1] at h2
   exact h2.symm
 |none=>
  constructor
  ·intro h
   dsimp only at h
   split at h
   ·rename_i hx
    simp only [Option.some.injEq] at h
    rw [←h]
    exact Classical.choose_spec hx
   ·cases h
  ·rintro ⟨n,hn⟩
   have hx:∃b,∃n,runN step n x=some b:=⟨b,n,hn⟩
   dsimp only
   rw [dif_pos hx]
   obtain ⟨m,hm⟩:=Classical.choose_spec hx
   have h1:=adP step (Nat.le_max_left n m) hn
   have h2:=adP step (Nat.le_max_right n m) hm
   rw [h1] at h2
   exact h2.symm
theorem amq(step:σ→Tre (σ ⊕ β))(x:σ):aS step x=((step x).run some).bind fun
  |.inl y=>aS step y
  |.inr b=>some b:=by
 apply Option.ext
 intro b
 rw [TD]
 constructor
 ·rintro ⟨n,hn⟩
  cases n with
  |zero=>cases hn
  |succ n=>
   rw [Lb] at hn
   cases hs:(step x).run some with
   |none=>rw [hs] at hn;cases hn
   |some y=>
    rw [hs] at hn
    cases y with
    |inl y=>exact TD.2 ⟨n,hn⟩
    |inr y=>exact hn
 ·intro h
  cases hs:(step x).run some with
  |none=>rw [hs] at h;cases h
  |some y=>
   rw [hs] at h
   cases y with
   |inl y=>
    obtain ⟨n,hn⟩:=TD.1 h
    exact ⟨n+1,by rw [Lb,hs];exact hn⟩
   |inr y=>exact ⟨1,by rw [Lb,hs];exact h⟩
variable {V : Env} {A : List (Nat × bF)}
def bZ(kp kx:Keep)(c:St→Option (Ex×St))(e:Ex)(s:St):Option (Ex×St):=match e with
 |.normal=>c (restrict kp s)
 |e=>some (e,restrict kx s)
def cu(mk:σ→St)(out:β→Ex×St)(c:St→Option (Ex×St)):σ ⊕ β→Option (Ex×St)
 |.inl y=>c (mk y)
 |.inr b=>some (out b)
theorem arI{L:bF}{body:Code}{mk:σ→St}{out:β→Ex×St}{step:σ→Tre (σ ⊕ β)}
  (hstep:∀(x:σ)(c:St→Option (Ex×St)),den V A body (mk x) (bZ L.kp L.kx c)=(step x).run (cu mk out c)):∀(n:Nat)(x:σ)(b:β),runN step n x=some b→iter L (fun s (c:Ex→St→Option (Ex×St))=>den V A body s c) n (mk x) (fun e s'=>some (e,s'))=some (out b):=by
 intro n
 induction n with
 |zero=>intro x b h;cases h
 |succ n ih=>
  intro x b h
  rw [Lb] at h
  have h1:=hstep x fun s=>iter L (fun s (c:Ex→St→Option (Ex×St))=>den V A body s c) n s (fun e s'=>some (e,s'))
  rw [Tre.run_bind] at h1
  refine Eq.trans (Eq.trans ?_ h1) ?_
  ·rfl
  cases hs:(step x).run some with
  |none=>rw [hs] at h;cases h
  |some y=>
   rw [hs] at h
   cases y with
   |inl y=>exact ih y b h
   |inr y=>cases h;rfl
def bT (T:List (Nat×AV)) (U:List (ay×Option Root)):St:=⟨Zu T,YA U,J3 (YA U) (U.map (·.1))⟩
def allT(tm:TF):List (Nat×AV)→Prop
 |[]=>True
 | (t,v)::l=>tm t=v∧allT tm l
def asP(rs:RF):List (ay×Option Root)→Prop
 |[]=>True
 | (q,x)::l=>rs q=x∧asP rs l
theorem auH{tm:TF}:∀(l:List Nat)(t:Nat),t∈l→Zu (U2 tm l) t=tm t:=by
 intro l
 induction l with
 |nil=>intro t h;cases h
 |cons x l ih=>
  intro t h
  simp only [U2,Zu]
  by_cases he:t=x
  ·rw [beq_iff.2 he];subst he;rfl
  ·rw [gL he]
   exact ih t ((List.mem_cons.1 h).resolve_left he)
theorem amT{rs:RF}:∀(l:List ay)(q:ay),q∈l→YA (keepR rs l) q=rs q:=by
 intro l
 induction l with
 |nil=>intro t h;cases h
 |cons x l ih=>
  intro t h
  simp only [keepR,YA]
  by_cases he:t=x
  ·rw [bX.2 he];subst he;rfl
  ·rw [gT he]
   exact ih t ((List.mem_cons.1 h).resolve_left he)
theorem arJ{tm:TF}:∀(T:List (Nat×AV)),allT tm T→U2 tm (T.map (·.1))=T:=by
 intro T
 induction T with
 |nil=>intro _;rfl
 |cons x T ih=>intro h;obtain ⟨t,v⟩:=x;obtain ⟨h1,h2⟩:=h;simp only [List.map_cons,U2,ih h2,h1]
theorem aiS{rs:RF}:∀(U:List (ay×Option Root)),asP rs U→keepR rs (U.map (·.1))=U:=by
 intro U
 induction U with
 |nil=>intro _;rfl
 |cons x U ih=>intro h;obtain ⟨t,v⟩:=x;obtain ⟨h1,h2⟩:=h;simp only [List.map_cons,keepR,ih h2,h1]
theorem akn{rs rs':RF}:∀(l:List ay),(∀q∈l,rs' q=rs q)→J3 rs' l=J3 rs l:=by
 intro l
 induction l with
 |nil=>intro _;rfl
 |cons x l ih=>
  intro h
  funext n
  simp only [J3]
  rw [h x (by simp),ih fun q hq=>h q (by simp [hq])]
theorem ahd{kp:Keep}{s:St}:∀(T:List (Nat×AV)),(∀t∈T.map (·.1),t∈kp.1)→allT (restrict kp s).tmps T→allT s.tmps T:=by
 intro T
 induction T with
 |nil=>intro _ _;trivial
 |cons x T ih=>
  intro hm h
  obtain ⟨t,v⟩:=x
  refine ⟨?_,ih (fun u hu=>hm u (by simp at hu ⊢;exact .inr hu)) h.2⟩
  rw [←h.1]
  exact (auH _ t (hm t (by simp))).symm
theorem ahe{kp:Keep}{s:St}:∀(U:List (ay×Option Root)),(∀q∈U.map (·.1),q∈kp.2)→asP (restrict kp s).roots U→asP s.roots U:=by
 intro U
 induction U with
 |nil=>intro _ _;trivial
 |cons x U ih=>
  intro hm h
  obtain ⟨t,v⟩:=x
  refine ⟨?_,ih (fun u hu=>hm u (by simp at hu ⊢;exact .inr hu)) h.2⟩
  rw [←h.1]
  exact (amT _ t (hm t (by simp))).symm
theorem aT{kp:Keep}{s:St}{T:List (Nat×AV)}{U:List (ay×Option Root)}(h1:kp.1=T.map (·.1))(h2:kp.2=U.map (·.1))(hT:allT (restrict kp s).tmps T)(hU:asP (restrict kp s).roots U):restrict kp s=bT T U:=by
 have hT':=ahd T (by rw [h1];exact fun _ h=>h) hT
 have hU':=ahe U (by rw [h2];exact fun _ h=>h) hU
 unfold restrict bT
 rw [h1,h2,arJ T hT',aiS U hU']
 have:J3 s.roots (U.map (·.1))=J3 (YA U) (U.map (·.1)):=by
  refine akn _ fun q hq=>?_
  have h3:=aiS U hU'
  rw [←amT (rs:=s.roots) (U.map (·.1)) q hq,h3]
 rw [this]
def fB:Code→List Code
 |.seq a b=>fB a++fB b
 |.cond _ a b=>fB a++fB b
 |.block _ a=>fB a
 |.loop a=>a::fB a
 |_=>[]
theorem afx:∀(c:Code),(∀a∈fB c,∀i L,dZ a=some i→gK i A=some L→bU V A a L)→qU V A c:=by
 intro c
 induction c with
 |seq a b iha ihb=>intro h;exact ⟨iha fun x hx=>h x (by simp [fB,hx]),ihb fun x hx=>h x (by simp [fB,hx])⟩
 |cond x a b iha ihb=>intro h;exact ⟨iha fun x hx=>h x (by simp [fB,hx]),ihb fun x hx=>h x (by simp [fB,hx])⟩
 |block id a ih=>intro h;exact ih h
 |loop a ih=>intro h;exact ⟨ih fun x hx=>h x (by simp [fB,hx]),h a (by simp [fB])⟩
 |_=>intro _;trivial
def aV(c:Code)(n:Nat):Code:=(fB c).getD n .skip
theorem ams{c:Code}(h:(fB c).length=0):qU V A c:=afx c fun a ha=>by rw [List.eq_nil_of_length_eq_zero h] at ha;cases ha
theorem amr{c:Code}{n:Nat}(hn:(fB c).length=n)(h:∀k,k<n→∀i L,dZ (aV c k)=some i→gK i A=some L→bU V A (aV c k) L):qU V A c:=by
 refine afx c fun a ha=>?_
 obtain ⟨k,hk,rfl⟩:=List.mem_iff_getElem.1 ha
 have:=h k (by omega)
 unfold aV at this
 rw [List.getD_eq_getElem?_getD,List.getElem?_eq_getElem hk] at this
 exact this
theorem arO{a:Code}{id:Nat}{L:bF}(h1:dZ a=some id)(h2:gK id A=some L)(h:bU V A a L):∀i L',dZ a=some i→gK i A=some L'→bU V A a L':=by
 intro i L' h3 h4
 rw [h1] at h3
 cases h3
 rw [h2] at h4
 cases h4
 exact h
theorem fq{a:Code}{L:bF} (h:∀(s:St)(e:Ex)(s':St),(L.sm (restrict L.kp s)).run some=some (e,s') →
  ∃(σ β:Type) (mk:σ→St) (out:β→Ex×St) (step:σ→Tre (σ ⊕ β)) (x:σ) (b:β),restrict L.kp s=mk x∧aS step x=some b∧out b=(e,s') ∧
   ∀(x:σ)(c:St→Option (Ex×St)),den V A a (mk x) (bZ L.kp L.kx c)=(step x).run (cu mk out c)):bU V A a L:=by
 intro s e s' hs
 obtain ⟨σ,β,mk,out,step,x,b,h1,h2,h3,h4⟩:=h s e s' hs
 obtain ⟨n,hn⟩:=TD.1 h2
 refine ⟨n,?_⟩
 rw [h1,←h3]
 exact arI h4 n x b hn
theorem ahZ{α:Type}{b:Bool}{t f:Tre α}{x y:α}(h1:t.run some=some x)(h2:f.run some=some y):(Tre.cond b t f).run some=some (cond b x y):=by cases b<;>assumption
theorem adM{ρ γ δ:Type}{o:Option ρ}{out:ρ→γ}{x:δ}{c:γ→Option δ}(h:(Tre.mat o fun y=>Tre.ret (out y)).run c=some x):∃y,o=some y∧c (out y)=some x:=by
 rw [Tre.mZ] at h
 cases o with
 |none=>cases h
 |some y=>exact ⟨y,rfl,h⟩
theorem iA{β δ α:Type}{o:Option β}{k:β→Tre α}{x:δ}{c:α→Option δ}(h:(Tre.mat o k).run c=some x):∃y,o=some y∧(k y).run c=some x:=by
 rw [Tre.mZ] at h
 cases o with
 |none=>cases h
 |some y=>exact ⟨y,rfl,h⟩
theorem aW{ρ:Type}{t:Tre ρ}{out:ρ→au}{d:Option au}{co:au}(hd:d=t.run fun y=>some (out y))(h:(Tre.mat (t.run some) fun y=>Tre.ret (out y)).run some=some co):(Tre.mat d Tre.ret).run some=some co:=by
 obtain ⟨y,h1,h2⟩:=adM h
 rw [hd,Tre.run_bind t,h1]
 exact h2
theorem yt{ρ:Type}{t:Tre ρ}{out:ρ→au}{d:Option au}{co:au}{y:ρ}(hd:d=t.run fun y=>some (out y))(hs:t.run some=some y)(h:(Tre.ret (out y):Tre au).run some=some co):(Tre.mat d Tre.ret).run some=some co:=by
 rw [hd,Tre.run_bind t,hs]
 exact h
theorem Es{ρ:Type}{t:Tre ρ}{out:ρ→au}{d:Option au}{co:au}{o:Option ρ}(hd:d=t.run fun y=>some (out y))(hs:∀y,o=some y→t.run some=some y)(h:(Tre.mat o fun y=>Tre.ret (out y)).run some=some co):(Tre.mat d Tre.ret).run some=some co:=by
 obtain ⟨y,h1,h2⟩:=adM h
 exact yt hd (hs y h1) h2
theorem aju{P:Program}{Γ:Glb}{f:FuncId}{q0 q1 q:Ctr}{e:K}(h0:Contract P Γ f q0)(h1:Contract P Γ f q1) (hq:∀ci co,(q.G ci).run some=some co→∃z d,ci=⟨[.imm z (.sl e) d],[]⟩ ∧
  (q1.G ⟨[.nn z e d],[]⟩).run some=some co∧(d=[]→(q0.G ⟨[.nil],[]⟩).run some=some co)) (hs:q.soft=false:=by rfl):Contract P Γ f q:=by
 intro w C ci co vals hM hptr hsz hvals hgl hG
 obtain ⟨z,d,rfl,g1,g0⟩:=hq ci co hG
 obtain ⟨v,rfl⟩:∃v,vals = #[v]:=by
  match vals,hsz with
  |⟨[v]⟩,_=>exact ⟨v,rfl⟩
 have hv:=hvals 0 v _ rfl rfl
 obtain ⟨hA,hc⟩:=hv.cell (by simp) rfl (by simp) (by simp)
 have key:(v=.slice none 0 0∧d=[])∨∃a n c,v=.slice (some a) n c:=by
  rcases hA.2 with ⟨h,_⟩|⟨_,rfl,a,h⟩|⟨_,b,off,cap,c,T,fz,h,_⟩
  ·cases h
  ·simp only [List.cons.injEq,and_true] at h
   cases a with
   |none=>exact .inl ⟨h,rfl⟩
   |some a=>exact .inr ⟨a,_,_,h⟩
  ·simp only [List.cons.injEq,and_true] at h
   exact .inr ⟨_,_,_,h⟩
 have one:∀{av:AV},bL w C (YB []) v av→∀(i:Nat)(v':Value)(a:AV),(#[v]:Array Value)[i]?=some v'→[av][i]?=some a→bL w C (YB []) v' a:=by
  intro av hav i v' a h1 h2
  cases i with
  |zero=>simp only [List.getElem?_cons_zero,Option.some.injEq] at h2;subst h2;simp at h1;subst h1;exact hav
  |succ i=>simp at h2
 have conv:∀{args:List AV}{sf:Bool}{e':Ending}{w':World},(match e' with
   |.returned v=>∃C',Qb w C ⟨args,[]⟩ co v w' C'∧(sf=true→adX w C ⟨args,[]⟩ co w' C')
   |_=>False)→(match e' with
   |.returned v=>∃C',Qb w C ⟨[.imm z (.sl e) d],[]⟩ co v w' C'∧(q.soft=true→adX w C ⟨[.imm z (.sl e) d],[]⟩ co w' C')
   |_=>False):=by
  intro args sf e' w' h
  cases e' with
  |returned v=>obtain ⟨C',hp,_⟩:=h;exact ⟨C',⟨hp.Z,hp.S,hp.θ,hp.mem,hp.val,hp.ρ,hp.kept,hp.foot,hp.zn⟩,fun h=>by rw [hs] at h;cases h⟩
  |_=>exact h
 rcases key with ⟨rfl,hd⟩|⟨a,n,c,rfl⟩
 ·refine Calls.mono ?_ (fun e' w' h=>conv (args:=[.nil]) (sf:=q0.soft) h)
  exact h0 w C ⟨[.nil],[]⟩ co #[.slice none 0 0] hM (by simp) rfl (one (.inl (.inr (.inr ⟨rfl,rfl,rfl⟩)))) hgl (g0 hd)
 ·refine Calls.mono ?_ (fun e' w' h=>conv (args:=[.nn z e d]) (sf:=q1.soft) h)
  exact h1 w C ⟨[.nn z e d],[]⟩ co #[.slice (some a) n c] hM (by simp) rfl (one (.inl (.inr (.inr ⟨rfl,⟨hA.1,hA.2,a,n,c,rfl⟩,rfl⟩)))) hgl g1
end
end Go.Abs
namespace Go.Abs
theorem bY{n:Int}(h1:-9223372036854775808≤n)(h2:n≤9223372036854775807):aL .i64 n=n:=Go.IntWalk.i64_in n ⟨h1,h2⟩
theorem aY{i:Nat}(h:i<4611686018427387904):aL .i64 ((i:Int)+1)=((i+1:Nat):Int):=by
 rw [bY (by omega) (by omega)];rfl
theorem ER{n:Int}(h1:0≤n)(h2:n≤18446744073709551615):aL .u64 n=n:=by
 unfold aL IntKind.wrap
 simp only [IntKind.signed,IntKind.bits,Bool.false_and,Bool.false_eq_true,if_false]
 exact Int.emod_eq_of_lt h1 (by omega)
theorem oD(n:Int):0≤aL .u64 n:=by
 unfold aL IntKind.wrap
 simp only [IntKind.signed,IntKind.bits,Bool.false_and,Bool.false_eq_true,if_false]
 exact Int.emod_nonneg _ (by decide)
def inR(n a b:Int):Bool:=decide (a≤n)&&decide (n≤b)
theorem iT{n a b:Int}:inR n a b=true↔a≤n∧n≤b:=by simp [inR]
theorem arH{n a b:Int}:inR n a b=false↔n<a∨b<n:=by
 cases h:inR n a b with
 |true=>rw [iT] at h;simp;omega
 |false=>
  simp only [true_iff]
  have:¬(a≤n∧n≤b):=fun h2=>by rw [iT.2 h2] at h;cases h
  omega
def alo{α:Type}(b:Bool)(x:α):Option α:=cond b (some x) none
theorem Ah{α:Type}{b:Bool}{x y:α}(h:alo b x=some y):b=true∧x=y:=by
 cases b with
 |true=>exact ⟨rfl,Option.some.inj h⟩
 |false=>cases h
theorem kX{α:Type}{b:Bool}{x:α}(h:b=true):alo b x=some x:=by rw [h];rfl
def lim{α:Type}(n:Nat)(x:α):Option α:=if n≤1048576 then some x else none
theorem afu{α:Type}{n:Nat}{x y:α}(h:lim n x=some y):n≤1048576∧x=y:=by
 unfold lim at h
 split at h
 ·exact ⟨‹_›,Option.some.inj h⟩
 ·cases h
theorem aj3{α:Type}{n:Nat}{x:α}(h:n≤1048576):lim n x=some x:=if_pos h
abbrev yh{α:Type}(xs:List α):Option (List α):=lim xs.length xs
section
variable {σ β α γ ρ R : Type} {step : σ → Tre (σ ⊕ β)}
theorem iq{x y:σ}(h:(step x).run some=some (.inl y)):aS step x=aS step y:=by rw [amq,h];rfl
theorem eO{x:σ}{b:β}(h:(step x).run some=some (.inr b)):aS step x=some b:=by rw [amq,h];rfl
theorem eB{xs:List α}{i:Nat}{x:α}{k:α→Tre ρ}{e:Tre ρ}{c:ρ→Option R}(h:xs[i]?=some x) :
  (Tre.cond (decide ((i:Int)<(xs.length:Int))) (.ite (0≤(i:Int)∧(i:Int)<(xs.length:Int)) (.mat xs[(i:Int).toNat]? k)) e).run c=(k x).run c:=by
 have hi:i<xs.length:=(List.getElem?_eq_some_iff.1 h).1
 rw [Tre.aD,show decide ((i:Int)<(xs.length:Int))=true from by simp;omega,cond_true,Tre.run_ite,if_pos ⟨by omega,by omega⟩,Tre.mZ,Int.toNat_natCast,h]
 rfl
theorem gu{xs:List α}{i:Nat}{x:α}{k:α→Tre ρ}{c:ρ→Option R}(h:xs[i]?=some x) :
  (Tre.ite (0≤(i:Int)∧(i:Int)<(xs.length:Int)) (.mat xs[(i:Int).toNat]? k)).run c=(k x).run c:=by
 have hi:i<xs.length:=(List.getElem?_eq_some_iff.1 h).1
 rw [Tre.run_ite,if_pos ⟨by omega,by omega⟩,Tre.mZ,Int.toNat_natCast,h]
 rfl
theorem dR{n:Int}{t e:Tre ρ}{c:ρ→Option R}:(Tre.cond (decide (n<n)) t e).run c=e.run c:=by
 rw [Tre.aD,show decide (n<n)=false from by simp];rfl
theorem ah{o:Option α}{x:α}{k:α→Tre ρ}{c:ρ→Option R}(h:o=some x):(Tre.mat o k).run c=(k x).run c:=by rw [Tre.mZ,h];rfl
def xD(f:Nat→γ→α→γ ⊕ β)(fin:γ→β):Nat→γ→List α→β
 |_,acc,[]=>fin acc
 |i,acc,x::l=>match f i acc x with
  |.inl a=>xD f fin (i+1) a l
  |.inr b=>b
theorem oh{xs:List α}(st:Nat→γ→σ)(f:Nat→γ→α→γ ⊕ β)(fin:γ→β)(I:Nat→γ→Prop)
  (hs:∀i acc x,xs[i]?=some x→I i acc→(step (st i acc)).run some=some (match f i acc x with
   |.inl a=>.inl (st (i+1) a)
   |.inr b=>.inr b)∧∀a,f i acc x=.inl a→I (i+1) a)
  (he:∀acc,I xs.length acc→(step (st xs.length acc)).run some=some (.inr (fin acc))):∀(l:List α)(i:Nat)(acc:γ),xs.drop i=l→i≤xs.length→I i acc→aS step (st i acc)=some (xD f fin i acc l):=by
 intro l
 induction l with
 |nil=>
  intro i acc hl hi hI
  have:i=xs.length:=by have:=List.drop_eq_nil_iff.1 hl;omega
  subst this
  exact eO (he acc hI)
 |cons x l ih=>
  intro i acc hl hi hI
  have hx:xs[i]?=some x:=by
   have:=congrArg (·[0]?) hl
   simpa using this
  have hi':i<xs.length:=(List.getElem?_eq_some_iff.1 hx).1
  obtain ⟨h1,h2⟩:=hs i acc x hx hI
  simp only [xD]
  cases hf:f i acc x with
  |inl a=>
   rw [hf] at h1
   rw [iq h1]
   exact ih (i+1) a (by rw [←List.drop_drop,hl];rfl) (by omega) (h2 a hf)
  |inr b=>
   rw [hf] at h1
   exact eO h1
def zK(f:Nat→α→Option β)(fin:β):Nat→List α→β
 |_,[]=>fin
 |i,x::l=>match f i x with
  |some b=>b
  |none=>zK f fin (i+1) l
theorem tZ{step:Int→Tre (Int ⊕ β)}{xs:List α}(f:Nat→α→Option β)(fin:β)
  (hs:∀(i:Nat) x,xs[i]?=some x→(step (i:Int)).run some=some (match f i x with
   |none=>.inl ((i+1:Nat):Int)
   |some b=>.inr b)) (he:(step (xs.length:Int)).run some=some (.inr fin)):aS step 0=some (zK f fin 0 xs):=by
 have key:∀(l:List α)(i:Nat),xs.drop i=l→i≤xs.length→aS step (i:Int)=some (zK f fin i l):=by
  intro l
  induction l with
  |nil=>
   intro i hl hi
   have:i=xs.length:=by have:=List.drop_eq_nil_iff.1 hl;omega
   subst this
   exact eO he
  |cons x l ih=>
   intro i hl hi
   have hx:xs[i]?=some x:=by
    have:=congrArg (·[0]?) hl
    simpa using this
   have hi':i<xs.length:=(List.getElem?_eq_some_iff.1 hx).1
   have h1:=hs i x hx
   simp only [zK]
   cases hf:f i x with
   |none=>
    rw [hf] at h1
    rw [iq h1]
    exact ih (i+1) (by rw [←List.drop_drop,hl];rfl) (by omega)
   |some b=>
    rw [hf] at h1
    exact eO h1
 exact key xs 0 rfl (Nat.zero_le _)
theorem arA{p:α→Bool}{b c:β}:∀(l:List α)(i:Nat),zK (fun _ x=>cond (p x) none (some b)) c i l=cond (l.all p) c b:=by
 intro l
 induction l with
 |nil=>intro i;rfl
 |cons x l ih=>
  intro i
  simp only [zK,List.all_cons]
  cases p x with
  |true=>simp only [cond_true,Bool.true_and];exact ih _
  |false=>rfl
def lW(p:α→Bool):Nat→List α→Int
 |_,[]=>-1
 |i,x::l=>cond (p x) (i:Int) (lW p (i+1) l)
theorem Tk{p:α→Bool}:∀(l:List α)(i:Nat),(match zK (β:=Int ⊕ Unit) (fun i x=>cond (p x) (some (.inl (i:Int))) none) (.inr ()) i l with
  |.inl n=>n
  |.inr _=>-1)=lW p i l:=by
 intro l
 induction l with
 |nil=>intro i;rfl
 |cons x l ih=>
  intro i
  simp only [zK,lW]
  cases p x with
  |true=>rfl
  |false=>exact ih _
theorem al8{p:α→Bool}:∀(l:List α)(i:Nat),decide (lW p i l ≥ 0)=l.any p:=by
 intro l
 induction l with
 |nil=>intro i;rfl
 |cons x l ih=>
  intro i
  simp only [lW,List.any_cons]
  rcases Bool.eq_false_or_eq_true (p x) with hp|hp
  ·simp [hp]
  ·have:=ih (i+1)
   simp only [hp,cond_false,Bool.false_or]
   exact this
end
def auI(m:Int):Int:=aL .i64 (rX .i64 1 m-1)
def inP(m x:Int):Bool:=inR x 0 (auI m)
end Go.Abs
namespace Go.Abs
theorem Aw{n:Nat}(h:n<9223372036854775808):aL .i64 (n:Int)=n:=bY (by omega) (by omega)
theorem ES{n:Nat}(h:n<18446744073709551616):(BitVec.ofInt 64 (n:Int)).toNat=n:=by
 rw [BitVec.ofInt_natCast,BitVec.toNat_ofNat,Nat.mod_eq_of_lt h]
theorem lJ{a b:Nat}(ha:a<2 ^ 63)(hb:b<2 ^ 63):jT .i64 (a:Int) (b:Int)=((a^^^b:Nat):Int):=by
 have hx:a^^^b<2 ^ 63:=Nat.xor_lt_two_pow ha hb
 have:(BitVec.ofInt 64 (a:Int)^^^BitVec.ofInt 64 (b:Int)).toNat=a^^^b:=by
  rw [BitVec.toNat_xor,ES (by omega),ES (by omega)]
 unfold jT
 show aL .i64 (((BitVec.ofInt 64 (a:Int)^^^BitVec.ofInt 64 (b:Int)).toNat:Nat):Int)=_
 rw [this,Aw (by omega)]
theorem atE{a b:Nat}(ha:a<2 ^ 63)(hb:b<2 ^ 63):Nb .i64 (a:Int) (b:Int)=((a&&&b:Nat):Int):=by
 have hx:a&&&b<2 ^ 63:=Nat.and_lt_two_pow _ hb
 have:(BitVec.ofInt 64 (a:Int)&&&BitVec.ofInt 64 (b:Int)).toNat=a&&&b:=by
  rw [BitVec.toNat_and,ES (by omega),ES (by omega)]
 unfold Nb
 show aL .i64 (((BitVec.ofInt 64 (a:Int)&&&BitVec.ofInt 64 (b:Int)).toNat:Nat):Int)=_
 rw [this,Aw (by omega)]
theorem ame{a j:Nat}(hj:j≤64):Pz .i64 (a:Int) (j:Int)=((a >>> j:Nat):Int):=by
 unfold Pz
 rw [Int.toNat_natCast,show min j (IntKind.bits .i64)=j from Nat.min_eq_left hj,Nat.shiftRight_eq_div_pow,Int.fdiv_eq_ediv_of_nonneg _ (by exact_mod_cast Nat.zero_le _)]
 push_cast
 rfl
def zJ(x j:Int):Bool:=decide (Nb .i64 (Pz .i64 x j) 1=1)
theorem EO{a j:Nat}(ha:a<2 ^ 63)(hj:j≤64):zJ (a:Int) (j:Int)=a.testBit j:=by
 have h1:a >>> j<2 ^ 63:=by rw [Nat.shiftRight_eq_div_pow];exact Nat.lt_of_le_of_lt (Nat.div_le_self _ _) ha
 unfold zJ
 rw [ame hj,show (1:Int)=((1:Nat):Int) from rfl,atE h1 (by decide),Nat.and_one_is_mod,Nat.testBit_eq_decide_div_mod_eq,Nat.shiftRight_eq_div_pow]
 rw [Bool.eq_iff_iff]
 simp only [decide_eq_true_eq]
 omega
inductive Sp (l:List Nat):Nat→Prop
 |zero:Sp l 0
 |add {r v:Nat}:r∈l→Sp l v→Sp l (r^^^v)
theorem Sp.mem{l:List Nat}{r:Nat}(h:r∈l):Sp l r:=by
 have:=Sp.add h (Sp.zero)
 rwa [Nat.xor_zero] at this
theorem Sp.xor{l:List Nat}{a b:Nat}(ha:Sp l a)(hb:Sp l b):Sp l (a^^^b):=by
 induction ha with
 |zero=>rwa [Nat.zero_xor]
 |add h _ ih=>rw [Nat.xor_assoc];exact .add h ih
theorem Sp.trans{l l':List Nat}(h:∀r∈l,Sp l' r){v:Nat}(hv:Sp l v):Sp l' v:=by
 induction hv with
 |zero=>exact .zero
 |add hr _ ih=>exact (h _ hr).xor ih
def Lo(r p:Nat):Prop:=r.testBit p=true∧∀q,q<p→r.testBit q=false
theorem Lo.uniq{r p q:Nat}(h1:Lo r p)(h2:Lo r q):p=q:=by
 rcases Nat.lt_trichotomy p q with h|h|h
 ·have:=h2.2 p h;rw [h1.1] at this;cases this
 ·exact h
 ·have:=h1.2 q h;rw [h2.1] at this;cases this
def Red(c:Nat)(E:List (Nat×Nat)):Prop:=(∀a∈E,a.1<c∧Lo a.2 a.1)∧E.Pairwise fun a b=>a.1<b.1∧a.2.testBit b.1=false
def comb(f:Nat→Bool):List (Nat×Nat)→Nat
 |[]=>0
 |a::l=>cond (f a.1) (a.2^^^comb f l) (comb f l)
theorem aef(f g:Nat→Bool):∀l:List (Nat×Nat),comb (fun x=>f x ^^ g x) l=comb f l^^^comb g l:=by
 intro l
 induction l with
 |nil=>exact (Nat.xor_self 0).symm
 |cons a l ih=>
  simp only [comb,ih]
  cases f a.1<;>cases g a.1<;>simp only [Bool.false_xor,Bool.true_xor,Bool.not_true,Bool.not_false,cond_true,cond_false]
  ·rw [←Nat.xor_assoc,←Nat.xor_assoc,Nat.xor_comm a.2]
  ·rw [Nat.xor_assoc]
  ·rw [Nat.xor_assoc a.2,Nat.xor_comm (comb f l) (a.2^^^comb g l),←Nat.xor_assoc,←Nat.xor_assoc,Nat.xor_self,Nat.zero_xor,Nat.xor_comm]
theorem ZH(f:Nat→Bool):∀l:List (Nat×Nat),(∀a∈l,f a.1=false)→comb f l=0:=by
 intro l h
 induction l with
 |nil=>rfl
 |cons a l ih=>simp only [comb,h a (.head _),cond_false];exact ih fun x hx=>h x (.tail _ hx)
theorem VB(f:Nat→Bool){p:Nat}:∀l:List (Nat×Nat),(∀a∈l,a.2.testBit p=false)→(comb f l).testBit p=false:=by
 intro l h
 induction l with
 |nil=>simp [comb]
 |cons a l ih=>
  have:=ih fun x hx=>h x (.tail _ hx)
  simp only [comb]
  cases f a.1
  ·exact this
  ·simp [Nat.testBit_xor,this,h a (.head _)]
theorem Red.tail{c:Nat}{a:Nat×Nat}{l:List (Nat×Nat)}(h:Red c (a::l)):Red c l:=⟨fun x hx=>h.1 x (.tail _ hx),(List.pairwise_cons.1 h.2).2⟩
theorem asY{c:Nat}:∀(E:List (Nat×Nat)),Red c E→∀a∈E,comb (fun p=>p == a.1) E=a.2:=by
 intro E
 induction E with
 |nil=>intro _ a ha;cases ha
 |cons b l ih=>
  intro h a ha
  have hp:=(List.pairwise_cons.1 h.2).1
  simp only [comb]
  cases ha with
  |head=>
   rw [ZH _ l fun x hx=>by have:=(hp x hx).1;simp;omega]
   simp
  |tail _ ha=>
   have:(b.1 == a.1)=false:=by have:=(hp a ha).1;simp;omega
   rw [this]
   exact ih h.tail a ha
theorem Sp.comb{c:Nat}{E:List (Nat×Nat)}(h:Red c E){v:Nat}(hv:Sp (E.map (·.2)) v):∃f,v=Abs.comb f E:=by
 induction hv with
 |zero=>exact ⟨fun _=>false,(ZH _ _ fun _ _=>rfl).symm⟩
 |add hr _ ih=>
  obtain ⟨f,rfl⟩:=ih
  obtain ⟨a,ha,rfl⟩:=List.mem_map.1 hr
  exact ⟨_,by rw [aef (fun p=>p == a.1) f,asY E h a ha]⟩
theorem asW{c:Nat}(f:Nat→Bool):∀(E:List (Nat×Nat)),Red c E→∀a∈E,(comb f E).testBit a.1=f a.1:=by
 intro E
 induction E with
 |nil=>intro _ a ha;cases ha
 |cons b l ih=>
  intro h a ha
  have hp:=(List.pairwise_cons.1 h.2).1
  simp only [comb]
  cases ha with
  |head=>
   have h0:(comb f l).testBit b.1=false:=VB f l fun x hx=>(h.1 x (.tail _ hx)).2.2 _ (hp x hx).1
   cases hf:f b.1
   ·exact h0
   ·simp [Nat.testBit_xor,h0,(h.1 b (.head _)).2.1]
  |tail _ ha=>
   have hb:=(hp a ha).2
   have:=ih h.tail a ha
   cases f b.1
   ·exact this
   ·simp [Nat.testBit_xor,this,hb]
theorem asX{c:Nat}(f:Nat→Bool):∀(E:List (Nat×Nat)),Red c E→comb f E=0∨∃a∈E,Lo (comb f E) a.1:=by
 intro E
 induction E with
 |nil=>intro _;exact .inl rfl
 |cons b l ih=>
  intro h
  have hp:=(List.pairwise_cons.1 h.2).1
  have hb:=(h.1 b (.head _)).2
  simp only [comb]
  cases f b.1
  ·rcases ih h.tail with h0|⟨a,ha,hl⟩
   ·exact .inl h0
   ·exact .inr ⟨a,.tail _ ha,hl⟩
  ·refine .inr ⟨b,.head _,?_,fun q hq=>?_⟩
   ·have h0:(comb f l).testBit b.1=false:=VB f l fun x hx=>(h.1 x (.tail _ hx)).2.2 _ (hp x hx).1
    simp [Nat.testBit_xor,h0,hb.1]
   ·have h0:(comb f l).testBit q=false:=VB f l fun x hx=>(h.1 x (.tail _ hx)).2.2 _ (Nat.lt_trans hq (hp x hx).1)
    simp [Nat.testBit_xor,h0,hb.2 q hq]
theorem Red.apart{c:Nat}:∀{E:List (Nat×Nat)},Red c E→∀{a b:Nat×Nat},a∈E→b∈E→a.1≠b.1→a.2.testBit b.1=false:=by
 intro E
 induction E with
 |nil=>intro _ a b ha;cases ha
 |cons x l ih=>
  intro h a b ha hb hne
  have hp:=(List.pairwise_cons.1 h.2).1
  cases ha with
  |head=>
   cases hb with
   |head=>exact absurd rfl hne
   |tail _ hb=>exact (hp b hb).2
  |tail _ ha=>
   cases hb with
   |head=>exact (h.1 a (.tail _ ha)).2.2 _ (hp a ha).1
   |tail _ hb=>exact ih h.tail ha hb hne
theorem Red.find{c:Nat}{E:List (Nat×Nat)}(h:Red c E){v p:Nat}(hv:Sp (E.map (·.2)) v)(hl:Lo v p):∃a∈E,a.1=p:=by
 obtain ⟨f,rfl⟩:=hv.comb h
 rcases asX f E h with h0|⟨a,ha,hl'⟩
 ·rw [h0] at hl;have:=hl.1;simp at this
 ·exact ⟨a,ha,hl'.uniq hl⟩
theorem Red.sub{c c':Nat}{E E':List (Nat×Nat)}(h:Red c E)(h':Red c' E')(hs:∀v,Sp (E.map (·.2)) v↔Sp (E'.map (·.2)) v):∀a∈E,a∈E':=by
 intro a ha
 have ha1:=(h.1 a ha).2
 have hin:∀b∈E,∃b'∈E',b'.1=b.1:=fun b hb=>h'.find ((hs _).1 (.mem (List.mem_map.2 ⟨b,hb,rfl⟩))) (h.1 b hb).2
 obtain ⟨a',ha',he⟩:=hin a ha
 have ha1':=(h'.1 a' ha').2
 have hw:Sp (E.map (·.2)) (a.2^^^a'.2):=(Sp.mem (List.mem_map.2 ⟨a,ha,rfl⟩)).xor ((hs _).2 (.mem (List.mem_map.2 ⟨a',ha',rfl⟩)))
 obtain ⟨g,hg⟩:=hw.comb h
 have hz:∀b∈E,g b.1=false:=by
  intro b hb
  rw [←asW g E h b hb,←hg,Nat.testBit_xor]
  by_cases hab:a.1=b.1
  ·rw [←hab,ha1.1,←he,ha1'.1];rfl
  ·obtain ⟨b',hb',he'⟩:=hin b hb
   rw [h.apart ha hb hab,←he',h'.apart ha' hb' (by rw [he,he'];exact hab)];rfl
 rw [ZH g E hz] at hg
 have h2:a.2=a'.2:=by
  have h3:=congrArg (· ^^^ a'.2) hg
  simp only [Nat.xor_assoc,Nat.xor_self,Nat.xor_zero,Nat.zero_xor] at h3
  exact h3
 have:a=a':=Prod.ext he.symm h2
 rw [this]
 exact ha'
theorem asv:∀(E E':List (Nat×Nat)),(E.Pairwise fun a b=>a.1<b.1)→(E'.Pairwise fun a b=>a.1<b.1)→(∀a∈E,a∈E')→(∀a∈E',a∈E)→E=E':=by
 intro E
 induction E with
 |nil=>
  intro E' _ _ _ h
  cases E' with
  |nil=>rfl
  |cons b l=>have:=h b (.head _);cases this
 |cons a l ih=>
  intro E' hE hE' h1 h2
  cases E' with
  |nil=>have:=h1 a (.head _);cases this
  |cons b l'=>
   have hp:=List.pairwise_cons.1 hE
   have hp':=List.pairwise_cons.1 hE'
   have hab:a=b:=by
    have i1:=h1 a (.head _)
    have i2:=h2 b (.head _)
    cases i1 with
    |head=>rfl
    |tail _ i1=>
     cases i2 with
     |head=>rfl
     |tail _ i2=>have:=hp'.1 a i1;have:=hp.1 b i2;omega
   subst hab
   congr 1
   refine ih l' hp.2 hp'.2 (fun x hx=>?_) (fun x hx=>?_)
   ·have:=h1 x (.tail _ hx)
    cases this with
    |head=>have:=hp.1 _ hx;omega
    |tail _ h=>exact h
   ·have:=h2 x (.tail _ hx)
    cases this with
    |head=>have:=hp'.1 _ hx;omega
    |tail _ h=>exact h
theorem Red.uniq{c c':Nat}{E E':List (Nat×Nat)}(h:Red c E)(h':Red c' E')(hs:∀v,Sp (E.map (·.2)) v↔Sp (E'.map (·.2)) v):E=E':=
 asv E E' (h.2.imp fun h=>h.1) (h'.2.imp fun h=>h.1) (h.sub h' hs) (h'.sub h fun v=>(hs v).symm)
def jm(rows E:List Nat):Prop:=∃P c,Red c P∧P.map (·.2)=E∧∀v,Sp rows v↔Sp E v
def ech (rows:List Nat):List Nat:=by
 classical
 exact if h:∃E,jm rows E then Classical.choose h else []
theorem jm.eq{rows E E':List Nat}(h:jm rows E)(h':jm rows E'):E=E':=by
 obtain ⟨P,c,hr,rfl,hs⟩:=h
 obtain ⟨P',c',hr',rfl,hs'⟩:=h'
 rw [hr.uniq hr' fun v=>(hs v).symm.trans (hs' v)]
theorem aen{rows E:List Nat}(h:jm rows E):ech rows=E:=by
 have hx:∃E,jm rows E:=⟨E,h⟩
 unfold ech
 rw [dif_pos hx]
 exact (Classical.choose_spec hx).eq h
def gM(c r x:Nat):Nat:=cond (x.testBit c) (x^^^r) x
theorem aiH{c r x:Nat}(hr:r.testBit c=true):(gM c r x).testBit c=false:=by
 unfold gM
 cases h:x.testBit c
 ·exact h
 ·simp [Nat.testBit_xor,h,hr]
theorem Tj{c r x q:Nat}(hr:r.testBit q=false):(gM c r x).testBit q=x.testBit q:=by
 unfold gM
 cases x.testBit c
 ·rfl
 ·simp [Nat.testBit_xor,hr]
theorem Qi{c r x b:Nat}(hr:r<2 ^ b)(hx:x<2 ^ b):gM c r x<2 ^ b:=by
 unfold gM
 cases x.testBit c
 ·exact hx
 ·exact Nat.xor_lt_two_pow hx hr
structure Inv(orig:List Nat)(c:Nat)(E:List (Nat×Nat))(R:List Nat):Prop where
 red:Red c E
 low:∀x∈R,∀q,q<c→x.testBit q=false
 span:∀v,Sp orig v↔Sp (E.map (·.2)++R) v
theorem Inv.skip{orig:List Nat}{c:Nat}{E:List (Nat×Nat)}{R:List Nat}(h:Inv orig c E R)(hc:∀x∈R,x.testBit c=false):Inv orig (c+1) E R:=
 ⟨⟨fun a ha=>⟨Nat.lt_succ_of_lt (h.red.1 a ha).1,(h.red.1 a ha).2⟩,h.red.2⟩,fun x hx q hq=>by
  rcases Nat.lt_succ_iff_lt_or_eq.1 hq with h1|rfl
  ·exact h.low x hx q h1
  ·exact hc x hx,h.span⟩
theorem Inv.step{orig:List Nat}{c:Nat}{E:List (Nat×Nat)}{R R':List Nat}{r:Nat}(h:Inv orig c E R)(hr:r∈R)(hb:r.testBit c=true)
  (h1:∀y∈R',y=0∨∃x∈R,y=gM c r x) (h2:∀x∈R,x=r∨gM c r x∈R'):Inv orig (c+1) (E.map (fun a=>(a.1,gM c r a.2))++[(c,r)]) R':=by
 have hlow:=h.low r hr
 refine ⟨⟨?_,?_⟩,?_,?_⟩
 ·intro a ha
  rcases List.mem_append.1 ha with ha|ha
  ·obtain ⟨b,hb',rfl⟩:=List.mem_map.1 ha
   obtain ⟨i1,i2⟩:=h.red.1 b hb'
   refine ⟨Nat.lt_succ_of_lt i1,?_,fun q hq=>?_⟩
   ·dsimp only;rw [Tj (hlow _ i1)];exact i2.1
   ·dsimp only at hq ⊢;rw [Tj (hlow _ (Nat.lt_trans hq i1))];exact i2.2 q hq
  ·simp only [List.mem_singleton] at ha
   subst ha
   exact ⟨Nat.lt_succ_self _,hb,hlow⟩
 ·refine List.pairwise_append.2 ⟨?_,List.pairwise_singleton _ _,?_⟩
  ·refine List.pairwise_map.2 ((List.pairwise_iff_forall_sublist.2 ?_))
   intro a b hs
   have hmem:a∈E∧b∈E:=⟨hs.subset (.head _),hs.subset (.tail _ (.head _))⟩
   have:=List.pairwise_iff_forall_sublist.1 h.red.2 hs
   exact ⟨this.1,by dsimp only;rw [Tj (hlow _ (h.red.1 b hmem.2).1)];exact this.2⟩
  ·intro a ha b hb'
   simp only [List.mem_singleton] at hb'
   subst hb'
   obtain ⟨x,hx,rfl⟩:=List.mem_map.1 ha
   exact ⟨(h.red.1 x hx).1,aiH hb⟩
 ·intro y hy q hq
  rcases h1 y hy with rfl|⟨x,hx,rfl⟩
  ·simp
  ·rcases Nat.lt_succ_iff_lt_or_eq.1 hq with h3|rfl
   ·rw [Tj (hlow _ h3)];exact h.low x hx q h3
   ·exact aiH hb
 ·have hr1:Sp (E.map (·.2)++R) r:=.mem (List.mem_append_right _ hr)
  have key:∀{L:List Nat}{x:Nat},Sp L r→Sp L x→Sp L (gM c r x):=by
   intro L x i1 i2
   unfold gM
   cases x.testBit c
   ·exact i2
   ·exact i2.xor i1
  have key2:∀{L:List Nat}{x:Nat},Sp L r→Sp L (gM c r x)→Sp L x:=by
   intro L x i1 i2
   unfold gM at i2
   cases hx:x.testBit c
   ·rw [hx] at i2;exact i2
   ·rw [hx] at i2
    have:=Sp.xor i2 i1
    simp only [cond_true] at this
    rwa [Nat.xor_assoc,Nat.xor_self,Nat.xor_zero] at this
  have hmap:(E.map (fun a=>(a.1,gM c r a.2))++[(c,r)]).map (·.2)=E.map (fun a=>gM c r a.2)++[r]:=by simp [List.map_map,Function.comp_def]
  rw [hmap]
  intro v
  rw [h.span v]
  have hr2:Sp (E.map (fun a=>gM c r a.2)++[r]++R') r:=.mem (by simp)
  constructor
  ·refine Sp.trans fun x hx=>?_
   rcases List.mem_append.1 hx with hx|hx
   ·obtain ⟨a,ha,rfl⟩:=List.mem_map.1 hx
    exact key2 hr2 (.mem (List.mem_append_left _ (List.mem_append_left _ (List.mem_map.2 ⟨a,ha,rfl⟩))))
   ·rcases h2 x hx with rfl|h3
    ·exact hr2
    ·exact key2 hr2 (.mem (List.mem_append_right _ h3))
  ·refine Sp.trans fun x hx=>?_
   rcases List.mem_append.1 hx with hx|hx
   ·rcases List.mem_append.1 hx with hx|hx
    ·obtain ⟨a,ha,rfl⟩:=List.mem_map.1 hx
     exact key hr1 (.mem (List.mem_append_left _ (List.mem_map.2 ⟨a,ha,rfl⟩)))
    ·simp only [List.mem_singleton] at hx
     subst hx
     exact hr1
   ·rcases h1 x hx with rfl|⟨y,hy,rfl⟩
    ·exact .zero
    ·exact key hr1 (.mem (List.mem_append_right _ hy))
theorem Inv.done{orig:List Nat}{c:Nat}{E:List (Nat×Nat)}{R:List Nat}(h:Inv orig c E R)(hz:∀x∈R,x=0):jm orig (E.map (·.2)):=by
 refine ⟨E,c,h.red,rfl,fun v=>(h.span v).trans ⟨?_,?_⟩⟩
 ·refine Sp.trans fun x hx=>?_
  rcases List.mem_append.1 hx with hx|hx
  ·exact .mem hx
  ·rw [hz x hx];exact .zero
 ·exact Sp.trans fun x hx=>.mem (List.mem_append_left _ hx)
theorem Inv.start(orig:List Nat):Inv orig 0 [] orig:=⟨⟨fun a ha=>by (cases ha),.nil⟩,fun _ _ q hq=>absurd hq (Nat.not_lt_zero q),fun _=>Iff.rfl⟩
theorem Oh{x b:Nat}(h:x<2 ^ b)(hq:∀q,q<b→x.testBit q=false):x=0:=by
 refine Nat.eq_of_testBit_eq fun q=>?_
 rw [Nat.zero_testBit]
 by_cases h1:q<b
 ·exact hq q h1
 ·exact Nat.testBit_lt_two_pow (Nat.lt_of_lt_of_le h (Nat.pow_le_pow_right (by decide) (by omega)))
abbrev up(l:List Nat):List Int:=l.map fun n:Nat=>(n:Int)
theorem Tf{l:List Nat}{i x:Nat}(h:l[i]?=some x):(up l)[i]?=some (x:Int):=by simp [up,h]
theorem Og(l:List Nat)(i x:Nat):(up l).set i (x:Int)=up (l.set i x):=by simp [up,List.map_set]
theorem eX(l:List Nat):(up l).length=l.length:=by simp [up]
def xP(g:Nat→Nat→Nat)(i:Nat)(l:List Nat):List Nat:=l.mapIdx fun j x=>if j<i then g j x else x
theorem Yq(g:Nat→Nat→Nat)(i:Nat)(l:List Nat):(xP g i l).length=l.length:=by simp [xP]
theorem adN{g:Nat→Nat→Nat}{i j x:Nat}{l:List Nat}(h:l[j]?=some x):(xP g i l)[j]?=some (if j<i then g j x else x):=by simp [xP,h]
theorem ar2(g:Nat→Nat→Nat)(l:List Nat):xP g 0 l=l:=by
 refine List.ext_getElem? fun j=>?_
 simp [xP]
theorem amR{g:Nat→Nat→Nat}{i x:Nat}{l:List Nat}(h:l[i]?=some x):(xP g i l).set i (g i x)=xP g (i+1) l:=by
 refine List.ext_getElem? fun j=>?_
 have hi:i<l.length:=(List.getElem?_eq_some_iff.1 h).1
 rw [List.getElem?_set]
 by_cases hj:i=j
 ·subst hj
  rw [if_pos rfl,Yq,if_pos hi,adN h,if_pos (Nat.lt_succ_self _)]
 ·rw [if_neg hj]
  unfold xP
  rw [List.getElem?_mapIdx,List.getElem?_mapIdx]
  congr 1
  funext y
  by_cases h1:j<i
  ·rw [if_pos h1,if_pos (by omega)]
  ·rw [if_neg h1,if_neg (by omega)]
theorem aul(g:Nat→Nat→Nat)(l:List Nat):xP g l.length l=l.mapIdx g:=by
 refine List.ext_getElem? fun j=>?_
 unfold xP
 rw [List.getElem?_mapIdx,List.getElem?_mapIdx]
 cases h:l[j]? with
 |none=>rfl
 |some x=>simp [(List.getElem?_eq_some_iff.1 h).1]
theorem ai5{β:Type}{step:(Int×List Int)→Tre ((Int×List Int) ⊕ β)}(g:Nat→Nat→Nat)(l:List Nat)(fin:List Int→β)
  (hs:∀(i:Nat) x,l[i]?=some x→(step ((i:Int),up (xP g i l))).run some=some (.inl (((i+1:Nat):Int),up (xP g (i+1) l))))
  (he:(step ((l.length:Int),up (xP g l.length l))).run some=some (.inr (fin (up (xP g l.length l))))):aS step (0,up l)=some (fin (up (l.mapIdx g))):=by
 have key:∀(n i:Nat),i+n=l.length→aS step ((i:Int),up (xP g i l))=some (fin (up (l.mapIdx g))):=by
  intro n
  induction n with
  |zero=>
   intro i hi
   have:i=l.length:=hi
   subst this
   rw [←aul]
   exact eO he
  |succ n ih=>
   intro i hi
   have h1:i<l.length:=by omega
   rw [iq (hs i l[i] (List.getElem?_eq_getElem h1))]
   exact ih (i+1) (by omega)
 have:=key l.length 0 (by omega)
 rw [ar2] at this
 exact this
theorem aj4(f:Nat→Nat)(l:List Nat):l.mapIdx (fun _ x=>f x)=l.map f:=by
 refine List.ext_getElem? fun i=>?_
 simp
theorem aj5{A B:List Nat}{r k:Nat}{f:Nat→Nat}{g:Nat→Nat→Nat}(hk:A.length=k)(hg:∀i x,i≠k→g i x=f x)(hr:g k r=r):(A++r::B).mapIdx g=A.map f++r::B.map f:=by
 subst hk
 refine List.ext_getElem? fun i=>?_
 rw [List.getElem?_mapIdx]
 rcases Nat.lt_trichotomy i A.length with h|h|h
 ·rw [List.getElem?_append_left h,List.getElem?_append_left (by simpa using h),List.getElem?_map]
  congr 1
  funext x
  exact hg i x (by omega)
 ·subst h
  rw [List.getElem?_append_right (Nat.le_refl _),List.getElem?_append_right (by simp)]
  simp [hr]
 ·rw [List.getElem?_append_right (by omega),List.getElem?_append_right (by simp;omega),List.length_map]
  obtain ⟨n,hn⟩:∃n,i-A.length=n+1:=⟨i-A.length-1,by omega⟩
  rw [hn,List.getElem?_cons_succ,List.getElem?_cons_succ,List.getElem?_map]
  congr 1
  funext x
  exact hg i x (by omega)
theorem wT{α:Type}(p:α→Bool):∀(l:List α)(i:Nat),(lW p i l = -1∧∀x∈l,p x=false)∨∃k x,l[k]?=some x∧p x=true∧lW p i l=((i+k:Nat):Int):=by
 intro l
 induction l with
 |nil=>intro i;exact .inl ⟨rfl,fun x hx=>by cases hx⟩
 |cons a l ih=>
  intro i
  simp only [lW]
  cases ha:p a
  ·rcases ih (i+1) with ⟨h1,h2⟩|⟨k,x,h1,h2,h3⟩
   ·exact .inl ⟨h1,fun x hx=>by
     cases hx with
     |head=>exact ha
     |tail _ hx=>exact h2 x hx⟩
   ·exact .inr ⟨k+1,x,h1,h2,by rw [cond_false,h3];congr 1;omega⟩
  ·exact .inr ⟨0,a,rfl,ha,rfl⟩
theorem akr{α ρ R:Type}{xs:List α}{i:Nat}{x:α}{k:α→Tre ρ}{c:ρ→Option R}(h:xs[i]?=some x) :
  (Tre.ite (0≤(i:Int)∧(i:Int)<(xs.length:Int)) (.mat xs[i]? k)).run c=(k x).run c:=by
 have hi:i<xs.length:=(List.getElem?_eq_some_iff.1 h).1
 rw [Tre.run_ite,if_pos ⟨by omega,by omega⟩,Tre.mZ,h]
 rfl
def FY(b:Nat)(xs:List Int):Bool:=decide (xs.length≤1048576)&&xs.all fun x=>decide (0≤x)&&decide (x<((2 ^ b:Nat):Int))
theorem aaL{b:Nat}{xs:List Int}(h:FY b xs=true):∃ns:List Nat,xs=up ns∧ns.length≤1048576∧(∀n∈ns,n<2 ^ b)∧xs.map Int.toNat=ns:=by
 unfold FY at h
 simp only [Bool.and_eq_true,decide_eq_true_eq,List.all_eq_true] at h
 refine ⟨xs.map Int.toNat,?_,by simpa using h.1,?_,rfl⟩
 ·unfold up
  rw [List.map_map]
  exact ((List.map_congr_left (g:=id) fun x hx=>Int.toNat_of_nonneg (h.2 x hx).1).trans (List.map_id _)).symm
 ·intro n hn
  obtain ⟨x,hx,rfl⟩:=List.mem_map.1 hn
  have:=h.2 x hx
  omega
theorem aaK{b:Nat}{ns:List Nat}(h1:ns.length≤1048576)(h2:∀n∈ns,n<2 ^ b):FY b (up ns)=true:=by
 unfold FY
 simp only [Bool.and_eq_true,decide_eq_true_eq,List.all_eq_true]
 refine ⟨by simpa using h1,fun x hx=>?_⟩
 obtain ⟨n,hn,rfl⟩:=List.mem_map.1 hx
 have:=h2 n hn
 omega
def TR (xs:List Int):List Int:=up (ech (xs.map Int.toNat))
theorem up_toNat(ns:List Nat):(up ns).map Int.toNat=ns:=by
 unfold up
 rw [List.map_map]
 exact (List.map_congr_left (g:=id) fun x _=>rfl).trans (List.map_id _)
theorem wV{b c:Nat}(h:b≤c):2 ^ b≤2 ^ c:=Nat.pow_le_pow_right (by decide) h
theorem anT{m:Nat}(h:m≤62):auI (m:Int)=((2 ^ m-1:Nat):Int):=by
 have h1:=wV h
 have h2:0<2 ^ m:=Nat.two_pow_pos m
 unfold auI rX
 rw [Int.toNat_natCast,show min m (IntKind.bits .i64)=m from Nat.min_eq_left (by show m≤64;omega),Int.one_mul]
 have h3:(2:Int) ^ m=((2 ^ m:Nat):Int):=by push_cast;rfl
 rw [h3]
 show aL .i64 (aL .i64 _-1)=_
 rw [Aw (by omega),show ((2 ^ m:Nat):Int)-1=((2 ^ m-1:Nat):Int) from by omega,Aw (by omega)]
theorem aqb{m:Nat}{x:Int}(h:m≤62)(hx:inP (m:Int) x=true):∃n:Nat,x=(n:Int)∧n<2 ^ m:=by
 unfold inP at hx
 rw [iT,anT h] at hx
 have h2:0<2 ^ m:=Nat.two_pow_pos m
 exact ⟨x.toNat,by omega,by omega⟩
end Go.Abs
namespace Go.Abs
end Go.Abs
namespace Go.Abs
end Go.Abs
namespace Go.Abs
def oO:List Nat→List Nat
 |[]=>[0]
 |x::l=>oO l++(oO l).map (x ^^^ ·)
theorem Ob:∀l:List Nat,(oO l).length=2 ^ l.length:=by
 intro l
 induction l with
 |nil=>rfl
 |cons x l ih=>simp only [oO,List.length_append,List.length_map,ih,List.length_cons,Nat.pow_succ];omega
theorem anO:∀l:List Nat,0∈oO l:=by
 intro l
 induction l with
 |nil=>simp [oO]
 |cons x l ih=>exact List.mem_append.2 (.inl ih)
theorem GY(a b:Nat):a^^^(a^^^b)=b:=by rw [←Nat.xor_assoc,Nat.xor_self,Nat.zero_xor]
theorem apM:∀{l:List Nat}{r v:Nat},r∈l→v∈oO l→r^^^v∈oO l:=by
 intro l
 induction l with
 |nil=>intro r v hr;cases hr
 |cons x l ih=>
  intro r v hr hv
  simp only [oO,List.mem_append,List.mem_map] at hv ⊢
  cases hr with
  |head=>
   rcases hv with hv|⟨w,hw,rfl⟩
   ·exact .inr ⟨v,hv,rfl⟩
   ·exact .inl (by rw [GY];exact hw)
  |tail _ hr=>
   rcases hv with hv|⟨w,hw,rfl⟩
   ·exact .inl (ih hr hv)
   ·exact .inr ⟨r^^^w,ih hr hw,by rw [←Nat.xor_assoc,Nat.xor_comm x r,Nat.xor_assoc]⟩
theorem Sp.sums{l:List Nat}{v:Nat}(h:Sp l v):v∈oO l:=by
 induction h with
 |zero=>exact anO l
 |add hr _ ih=>exact apM hr ih
theorem aqV:∀{l:List Nat}{v:Nat},v∈oO l→Sp l v:=by
 intro l
 induction l with
 |nil=>intro v hv;simp only [oO,List.mem_singleton] at hv;subst hv;exact .zero
 |cons x l ih=>
  intro v hv
  simp only [oO,List.mem_append,List.mem_map] at hv
  have hs:∀{w},Sp l w→Sp (x::l) w:=fun h=>h.trans fun r hr=>Sp.mem (.tail _ hr)
  rcases hv with hv|⟨w,hw,rfl⟩
  ·exact hs (ih hv)
  ·exact .add (.head _) (hs (ih hw))
theorem anP{p:Nat}:∀{l:List Nat}{v:Nat},(∀r∈l,r.testBit p=false)→v∈oO l→v.testBit p=false:=by
 intro l
 induction l with
 |nil=>intro v _ hv;simp only [oO,List.mem_singleton] at hv;subst hv;simp
 |cons x l ih=>
  intro v h hv
  simp only [oO,List.mem_append,List.mem_map] at hv
  rcases hv with hv|⟨w,hw,rfl⟩
  ·exact ih (fun r hr=>h r (.tail _ hr)) hv
  ·rw [Nat.testBit_xor,h x (.head _),ih (fun r hr=>h r (.tail _ hr)) hw];rfl
theorem Red.nodup{c:Nat}:∀{E:List (Nat×Nat)},Red c E→(oO (E.map (·.2))).Nodup:=by
 intro E
 induction E with
 |nil=>intro _;simp [oO]
 |cons a l ih=>
  intro h
  have hp:=(List.pairwise_cons.1 h.2).1
  have hl:∀r∈l.map (·.2),r.testBit a.1=false:=by
   intro r hr
   obtain ⟨b,hb,rfl⟩:=List.mem_map.1 hr
   exact ((h.1 b (.tail _ hb)).2).2 a.1 (hp b hb).1
  have ha:a.2.testBit a.1=true:=(h.1 a (.head _)).2.1
  simp only [List.map_cons,oO]
  rw [List.nodup_append]
  refine ⟨ih h.tail,?_,?_⟩
  ·rw [List.nodup_iff_pairwise_ne]
   refine List.pairwise_map.2 ((List.nodup_iff_pairwise_ne.1 (ih h.tail)).imp ?_)
   intro x y hxy hne
   exact hxy (by rw [←GY a.2 x,hne,GY])
  ·intro x hx y hy hxy
   obtain ⟨w,hw,rfl⟩:=List.mem_map.1 hy
   have h1:=anP hl hx
   have h2:=anP hl hw
   rw [hxy,Nat.testBit_xor,ha,h2] at h1
   cases h1
theorem Yp{α:Type} [DecidableEq α]:∀{l l':List α},l.Nodup→(∀x∈l,x∈l')→l.length≤l'.length:=by
 intro l
 induction l with
 |nil=>intro l' _ _;exact Nat.zero_le _
 |cons x l ih=>
  intro l' hn hs
  rw [List.nodup_cons] at hn
  have hx:=hs x (.head _)
  have:=ih (l':=l'.erase x) hn.2 (fun y hy=>by
   have hne:y≠x:=by rintro rfl;exact hn.1 hy
   exact (List.mem_erase_of_ne hne).2 (hs y (.tail _ hy)))
  rw [List.length_erase_of_mem hx] at this
  have hpos:0<l'.length:=List.length_pos_of_mem hx
  simp only [List.length_cons]
  omega
theorem jm.le{rows E:List Nat}(h:jm rows E):E.length≤rows.length:=by
 obtain ⟨P,c,hr,rfl,hs⟩:=h
 have:=Yp hr.nodup (fun x hx=>((hs x).2 (aqV hx)).sums)
 rw [Ob,Ob] at this
 exact (Nat.pow_le_pow_iff_right (by decide)).1 this
theorem jm.map_le{rows E E':List Nat}{f:Nat→Nat}(h0:f 0=0)(hf:∀a b,f (a^^^b)=f a^^^f b)(h:jm rows E)(h':jm (rows.map f) E'):E'.length≤E.length:=by
 obtain ⟨P,c,hr,rfl,hs⟩:=h
 obtain ⟨P',c',hr',rfl,hs'⟩:=h'
 have key:∀v,Sp (rows.map f) v→∃w,Sp rows w∧f w=v:=by
  intro v hv
  induction hv with
  |zero=>exact ⟨0,.zero,h0⟩
  |add hx _ ih=>
   obtain ⟨w,hw,rfl⟩:=ih
   obtain ⟨r,hr,rfl⟩:=List.mem_map.1 hx
   exact ⟨r^^^w,.add hr hw,hf r w⟩
 have:=Yp (l':=(oO (P.map (·.2))).map f) hr'.nodup (fun x hx=>by
  obtain ⟨w,hw,rfl⟩:=key x ((hs' x).2 (aqV hx))
  exact List.mem_map.2 ⟨w,((hs w).1 hw).sums,rfl⟩)
 rw [List.length_map,Ob,Ob] at this
 exact (Nat.pow_le_pow_iff_right (by decide)).1 this
theorem Sp.map{rows:List Nat}{f:Nat→Nat}(h0:f 0=0)(hf:∀a b,f (a^^^b)=f a^^^f b){v:Nat}(h:Sp rows v):Sp (rows.map f) (f v):=by
 induction h with
 |zero=>rw [h0];exact .zero
 |add hr _ ih=>rw [hf];exact .add (List.mem_map.2 ⟨_,hr,rfl⟩) ih
end Go.Abs
namespace Go.Abs
def oM(h:Nat):Nat→List Nat→Nat
 |_,[]=>0
 |i,x::l=>cond (h.testBit i) x 0^^^oM h (i+1) l
theorem ajd{h:Nat}:∀(l:List Nat)(i:Nat),(∀q,i≤q→h.testBit q=false)→oM h i l=0:=by
 intro l
 induction l with
 |nil=>intro i _;rfl
 |cons x l ih=>
  intro i hq
  simp only [oM]
  rw [hq i (Nat.le_refl i),ih (i+1) fun q h=>hq q (by omega),cond_false,Nat.xor_self]
theorem LH(l:List Nat)(i:Nat):oM 0 i l=0:=ajd l i fun q _=>Nat.zero_testBit q
theorem auT(x a b:Nat):a^^^b=(x^^^a)^^^(x^^^b):=by
 rw [Nat.xor_comm x a,Nat.xor_assoc,←Nat.xor_assoc x x b,Nat.xor_self,Nat.zero_xor]
theorem S9(a b:Nat):∀(l:List Nat)(i:Nat),oM (a^^^b) i l=oM a i l^^^oM b i l:=by
 intro l
 induction l with
 |nil=>intro i;exact (Nat.xor_self 0).symm
 |cons x l ih=>
  intro i
  simp only [oM]
  rw [ih,Nat.testBit_xor]
  cases a.testBit i<;>cases b.testBit i
  ·simp only [Bool.xor_false,cond_false,Nat.zero_xor]
  ·simp only [Bool.false_xor,cond_true,cond_false,Nat.zero_xor]
   rw [Nat.xor_comm,Nat.xor_assoc,Nat.xor_comm (oM b (i+1) l)]
  ·simp only [Bool.xor_false,cond_true,cond_false,Nat.zero_xor]
   rw [Nat.xor_assoc]
  ·simp only [Bool.xor_self,cond_true,cond_false,Nat.zero_xor]
   exact auT x _ _
theorem SY:∀(l:List Nat)(i j:Nat){x:Nat},l[j]?=some x→oM (2 ^ (i+j)) i l=x:=by
 intro l
 induction l with
 |nil=>intro i j x h;simp at h
 |cons y l ih=>
  intro i j x h
  simp only [oM]
  cases j with
  |zero=>
   simp only [List.getElem?_cons_zero,Option.some.injEq] at h
   subst h
   rw [Nat.add_zero,Nat.testBit_two_pow_self,cond_true,ajd l (i+1) fun q hq=>by rw [Nat.testBit_two_pow];exact decide_eq_false (by omega),Nat.xor_zero]
  |succ j=>
   simp only [List.getElem?_cons_succ] at h
   rw [Nat.testBit_two_pow,decide_eq_false (by omega),cond_false,Nat.zero_xor,show i+(j+1)=i+1+j by omega]
   exact ih (i+1) j h
theorem akV(h:Nat)(l':List Nat):∀(l:List Nat)(i:Nat),(∀x∈l,x∈l')→Sp l' (oM h i l):=by
 intro l
 induction l with
 |nil=>intro i _;exact .zero
 |cons x l ih=>
  intro i hs
  simp only [oM]
  have h1:=ih (i+1) fun y hy=>hs y (.tail _ hy)
  cases h.testBit i
  ·rw [cond_false,Nat.zero_xor];exact h1
  ·exact .add (hs x (.head _)) h1
structure Oi(N:Nat)(S:List Nat):Prop where
 len:S.length=N
 head:∀i x,S[i]?=some x→x&&&(2 ^ N-1)=2 ^ i
theorem Oi.bit{N:Nat}{S:List Nat}(h:Oi N S){i x q:Nat}(hx:S[i]?=some x)(hq:q<N):x.testBit q=decide (i=q):=by
 have:=congrArg (·.testBit q) (h.head i x hx)
 simpa [Nat.testBit_and,Nat.testBit_two_pow_sub_one,Nat.testBit_two_pow,hq] using this
theorem Oi.back{N:Nat}{S:List Nat}(h:Oi N S){v:Nat}(hv:Sp S v):oM (v&&&(2 ^ N-1)) 0 S=v:=by
 induction hv with
 |zero=>rw [Nat.zero_and,LH]
 |add hr _ ih=>
  obtain ⟨i,hi⟩:=List.getElem?_of_mem hr
  rw [Nat.and_xor_distrib_right,S9,ih,h.head i _ hi]
  have:=SY S 0 i hi
  rw [Nat.zero_add] at this
  rw [this]
theorem Oi.rank{N:Nat}{S rows E E':List Nat}(h:Oi N S)(hs:∀r∈rows,Sp S r)(he:jm rows E)(he':jm (rows.map (· &&& (2 ^ N-1))) E'):E'.length=E.length:=by
 refine Nat.le_antisymm (he.map_le (f:=(· &&& (2 ^ N-1))) (Nat.zero_and _) (fun a b=>Nat.and_xor_distrib_right) he') ?_
 refine he'.map_le (f:=fun x=>oM x 0 S) (LH S 0) (fun a b=>S9 a b S 0) ?_
 have:(rows.map (· &&& (2 ^ N-1))).map (fun x=>oM x 0 S)=rows:=by
  rw [List.map_map]
  exact (List.map_congr_left fun r hr=>h.back (hs r hr)).trans (List.map_id _)
 rw [this]
 exact he
theorem Xl:∀(l:List (Nat×Nat))(lo b:Nat),(l.Pairwise fun a b=>a.1<b.1)→(∀a∈l,lo≤a.1∧a.1<b)→l.length≤b-lo:=by
 intro l
 induction l with
 |nil=>intro lo b _ _;exact Nat.zero_le _
 |cons a l ih=>
  intro lo b h hb
  obtain ⟨h1,h2⟩:=List.pairwise_cons.1 h
  have:=ih (a.1+1) b h2 fun x hx=>⟨h1 x hx,(hb x (.tail _ hx)).2⟩
  have h0:=hb a (.head _)
  simp only [List.length_cons]
  omega
theorem Zo:∀(l:List (Nat×Nat))(lo:Nat),(l.Pairwise fun a b=>a.1<b.1)→(∀a∈l,lo≤a.1∧a.1<lo+l.length)→∀(i:Nat)(a:Nat×Nat),l[i]?=some a→a.1=lo+i:=by
 intro l
 induction l with
 |nil=>intro lo _ _ i a h;simp at h
 |cons b l ih=>
  intro lo h hb i a ha
  obtain ⟨h1,h2⟩:=List.pairwise_cons.1 h
  simp only [List.length_cons] at hb
  have h0:=hb b (.head _)
  have hl:=Xl l (b.1+1) (lo+(l.length+1)) h2 fun x hx=>⟨h1 x hx,(hb x (.tail _ hx)).2⟩
  have hb0:b.1=lo:=by omega
  cases i with
  |zero=>simp only [List.getElem?_cons_zero,Option.some.injEq] at ha;subst ha;exact hb0
  |succ i=>
   simp only [List.getElem?_cons_succ] at ha
   rw [ih (lo+1) h2 (fun x hx=>⟨by have:=h1 x hx;omega,by have:=(hb x (.tail _ hx)).2;omega⟩) i a ha]
   omega
theorem Oi.full{N:Nat}{S rows E:List Nat}(h:Oi N S)(hs:∀r∈rows,Sp S r)(he:jm rows E)(hl:E.length=N):E=S:=by
 obtain ⟨P,c,hr,rfl,hsp⟩:=he
 rw [List.length_map] at hl
 have hin:∀a∈P,Sp S a.2:=fun a ha=>Sp.trans hs ((hsp a.2).2 (Sp.mem (List.mem_map.2 ⟨a,ha,rfl⟩)))
 have hpos:∀a∈P,a.1<N:=fun a ha=>by
  refine Nat.lt_of_not_le fun hge=>?_
  have h0:a.2&&&(2 ^ N-1)=0:=by
   refine Nat.eq_of_testBit_eq fun q=>?_
   rw [Nat.testBit_and,Nat.testBit_two_pow_sub_one,Nat.zero_testBit]
   by_cases hq:q<N
   ·rw [(hr.1 a ha).2.2 q (by omega)];rfl
   ·rw [decide_eq_false hq,Bool.and_false]
  have h1:=h.back (hin a ha)
  rw [h0,LH] at h1
  have h2:=(hr.1 a ha).2.1
  rw [←h1,Nat.zero_testBit] at h2
  cases h2
 have hidx:=Zo P 0 (hr.2.imp fun h=>h.1) fun a ha=>⟨Nat.zero_le _,by have:=hpos a ha;omega⟩
 refine List.ext_getElem? fun i=>?_
 rw [List.getElem?_map]
 cases ha:P[i]? with
 |none=>
  have hi:=List.getElem?_eq_none_iff.1 ha
  rw [List.getElem?_eq_none_iff.2 (show S.length≤i by have:=h.len;omega)]
  rfl
 |some a=>
  have hi:i<P.length:=(List.getElem?_eq_some_iff.1 ha).1
  have ham:=List.mem_of_getElem? ha
  have ha1:a.1=i:=by rw [hidx i a ha];omega
  have hiS:i<S.length:=by have:=h.len;omega
  have hx:S[i]?=some S[i]:=List.getElem?_eq_getElem hiS
  have hhead:a.2&&&(2 ^ N-1)=2 ^ i:=by
   refine Nat.eq_of_testBit_eq fun q=>?_
   rw [Nat.testBit_and,Nat.testBit_two_pow_sub_one,Nat.testBit_two_pow]
   by_cases hq:q<N
   ·rw [decide_eq_true hq,Bool.and_true]
    by_cases hqi:i=q
    ·subst hqi;rw [decide_eq_true rfl,←ha1];exact (hr.1 a ham).2.1
    ·have hb:P[q]?=some P[q]:=List.getElem?_eq_getElem (by omega)
     have hb1:P[q].1=q:=by rw [hidx q _ hb];omega
     have:=hr.apart ham (List.mem_of_getElem? hb) (by omega)
     rw [hb1] at this
     rw [this,decide_eq_false hqi]
   ·rw [decide_eq_false hq,Bool.and_false,decide_eq_false (by omega)]
  have h1:=h.back (hin a ham)
  have h2:=SY S 0 i hx
  rw [Nat.zero_add] at h2
  rw [hhead,h2] at h1
  rw [hx,Option.map_some,h1]
theorem Oi.ech{N:Nat}{S:List Nat}(h:Oi N S):jm S S:=by
 refine ⟨(List.range N).zip S,N,⟨fun a ha=>?_,?_⟩,?_,fun v=>Iff.rfl⟩
 ·obtain ⟨i,hi⟩:=List.getElem?_of_mem ha
  rw [List.getElem?_zip_eq_some] at hi
  obtain ⟨h1,h2⟩:=hi
  have hiN:i<N:=by have:=(List.getElem?_eq_some_iff.1 h1).1;simpa using this
  rw [List.getElem?_range hiN,Option.some.injEq] at h1
  refine ⟨by omega,by rw [h.bit h2 (by omega)];exact decide_eq_true h1,fun q hq=>by rw [h.bit h2 (by omega)];exact decide_eq_false (by omega)⟩
 ·rw [List.pairwise_iff_getElem]
  intro i j hi hj hij
  simp only [List.length_zip,List.length_range,h.len,Nat.min_self] at hi hj
  simp only [List.getElem_zip,List.getElem_range]
  refine ⟨hij,?_⟩
  rw [h.bit (List.getElem?_eq_getElem (by have:=h.len;omega)) hj]
  exact decide_eq_false (by omega)
 ·exact List.map_snd_zip (by simp [h.len])
theorem jm.heads{N:Nat}{rows E A:List Nat}(h:jm rows E)(hA:jm (rows.map (· &&& (2 ^ N-1))) A)(hE:E.length=N)(hAl:A.length=N):Oi N E:=by
 obtain ⟨P,c,hr,rfl,hs⟩:=h
 rw [List.length_map] at hE
 have hlow:∀a∈P,a.1<N:=by
  intro a ha
  refine Decidable.byContradiction fun hn=>?_
  have hz:∀q,q<N→a.2.testBit q=false:=fun q hq=>(hr.1 a ha).2.2 q (by omega)
  have hza:a.2&&&(2 ^ N-1)=0:=by
   refine Nat.eq_of_testBit_eq fun q=>?_
   rw [Nat.testBit_and,Nat.testBit_two_pow_sub_one,Nat.zero_testBit]
   by_cases hq:q<N
   ·rw [hz q hq];rfl
   ·simp [hq]
  have hA2:jm (((P.erase a).map (·.2)).map (· &&& (2 ^ N-1))) A:=by
   obtain ⟨Q,d,h1,h2,h3⟩:=hA
   refine ⟨Q,d,h1,h2,fun v=>Iff.trans ⟨fun hv=>?_,fun hv=>?_⟩ (h3 v)⟩
   ·refine Sp.trans (fun x hx=>?_) hv
    obtain ⟨y,hy,rfl⟩:=List.mem_map.1 hx
    obtain ⟨b,hb,rfl⟩:=List.mem_map.1 hy
    have:=((hs b.2).2 (Sp.mem (List.mem_map.2 ⟨b,List.mem_of_mem_erase hb,rfl⟩))).map (f:=(· &&& (2 ^ N-1))) (Nat.zero_and _) (fun a b=>Nat.and_xor_distrib_right)
    exact this
   ·have key:∀w,Sp (P.map (·.2)) w→Sp (((P.erase a).map (·.2)).map (· &&& (2 ^ N-1))) (w&&&(2 ^ N-1)):=by
     intro w hw
     induction hw with
     |zero=>rw [Nat.zero_and];exact .zero
     |add hx _ ih=>
      obtain ⟨b,hb,rfl⟩:=List.mem_map.1 hx
      rw [Nat.and_xor_distrib_right]
      by_cases hba:b=a
      ·rw [hba,hza,Nat.zero_xor];exact ih
      ·exact .add (List.mem_map.2 ⟨b.2,List.mem_map.2 ⟨b,(List.mem_erase_of_ne hba).2 hb,rfl⟩,rfl⟩) ih
    refine Sp.trans (fun x hx=>?_) hv
    obtain ⟨r,hr2,rfl⟩:=List.mem_map.1 hx
    exact key r ((hs r).1 (Sp.mem hr2))
  have:=hA2.le
  rw [List.length_map,List.length_map,List.length_erase_of_mem ha] at this
  have:=List.length_pos_of_mem ha
  omega
 have hsort:=hr.2.imp (S:=fun a b:Nat×Nat=>a.1<b.1) fun h=>h.1
 have hat:=Zo P 0 hsort fun a ha=>⟨Nat.zero_le _,by have:=hlow a ha;omega⟩
 refine ⟨by rw [List.length_map];exact hE,fun i x hx=>?_⟩
 rw [List.getElem?_map] at hx
 obtain ⟨a,ha,rfl⟩:=Option.map_eq_some_iff.1 hx
 have hai:=hat i a ha
 have ham:=List.mem_of_getElem? ha
 have hiN:=hlow a ham
 refine Nat.eq_of_testBit_eq fun q=>?_
 rw [Nat.testBit_and,Nat.testBit_two_pow_sub_one,Nat.testBit_two_pow]
 by_cases hq:q<N
 ·obtain ⟨b,hb⟩:∃b,P[q]?=some b:=⟨_,List.getElem?_eq_getElem (by omega)⟩
  have hbq:=hat q b hb
  by_cases hiq:i=q
  ·subst hiq
   have:=(hr.1 a ham).2.1
   rw [show a.1=i by omega] at this
   simp [this,hq]
  ·have:=hr.apart ham (List.mem_of_getElem? hb) (by omega)
   rw [show b.1=q by omega] at this
   simp [this,hiq]
 ·have:i≠q:=by omega
  simp [hq,this]
theorem ars{rows:List Nat}(h:∀r∈rows,r=0):jm rows []:=
 ⟨[],0,⟨(fun a ha=>by cases ha),List.Pairwise.nil⟩,rfl,fun v=>⟨fun hv=>Sp.trans (fun r hr=>by rw [h r hr];exact .zero) hv,fun hv=>Sp.trans (fun r hr=>by cases hr) hv⟩⟩
end Go.Abs
namespace Go.Abs
end Go.Abs
namespace Go.Abs
abbrev K.n:K:=.int .i64
abbrev K.il:K:=.sl (.int .i64)
abbrev AV.i(x:Int):AV:=.imm true (.int .i64) x
section
variable {R R' : Type} {r : R'} {g : R → Option R'}
theorem dF{k:K}{a:AV}{c:Bool→k.den→Tre R}{W:Prop}(h:∀z d,(c z d).run g=some r→a=.imm z k d→W)(e:(bB k a c).run g=some r):W:=
 let ⟨z,d,e1,e2⟩:=dJ e
 h z d e2 e1
theorem aO{z0:Bool}{k:K}{a:AV}{c:k.den→Tre R}{W:Prop}(h:∀d,(c d).run g=some r→a=.imm z0 k d→W)(e:(aF z0 k a c).run g=some r):W:=
 let ⟨d,e1,e2⟩:=bO e
 h d e2 e1
theorem tNn{e:K}{a:AV}{c:Bool→List e.den→Tre R}{W:Prop}(h:∀z d,(c z d).run g=some r→a=.nn z e d→W)(e:(au2 e a c).run g=some r):W:=
 let ⟨z,d,e1,e2⟩:=aq2 e
 h z d e2 e1
theorem nR{q:ay}{p:Path}{a:AV}{c:Tre R}{W:Prop}(h:(c).run g=some r→a=.ref q p→W)(e:(fQ q p a c).run g=some r):W:=
 let ⟨e1,e2⟩:=ad7 e
 h e2 e1
theorem aqW{q:ay}{t:Path}{a:AV}{c:Nat→Tre R}{W:Prop}(h:∀n,(c n).run g=some r→a=.ref q (ap3 t n)→W)(e:(Vx q t a c).run g=some r):W:=
 let ⟨n,e1,e2⟩:=aln e
 h n e2 e1
theorem gy{q:ay}{p:Path}{a:AV}{c:Tre R}{W:Prop}(h:(c).run g=some r→a=.ptr q p→W)(e:(dH q p a c).run g=some r):W:=
 let ⟨e1,e2⟩:=EY e
 h e2 e1
theorem tFn{f:Nat}{caps:List ay}{a:AV}{c:Tre R}{W:Prop}(h:(c).run g=some r→a=.fn f caps→W)(e:(xY f caps a c).run g=some r):W:=
 let ⟨e1,e2⟩:=xB e
 h e2 e1
theorem aAl{a:AV}{c:Tre R}{W:Prop}(h:(c).run g=some r→a=.nil→W)(e:(alm a c).run g=some r):W:=
 let ⟨e1,e2⟩:=an8 e
 h e2 e1
theorem aI{α:Type}{l:List α}{c:α→List α→Tre R}{W:Prop}(h:∀x y,(c x y).run g=some r→l=x::y→W)(e:(aB l c).run g=some r):W:=
 let ⟨x,y,e1,e2⟩:=abl e
 h x y e2 e1
theorem aZ{α:Type}{l:List α}{c:Tre R}{W:Prop}(h:(c).run g=some r→l=[]→W)(e:(aJ l c).run g=some r):W:=
 let ⟨e1,e2⟩:=Vw e
 h e2 e1
theorem tRt{mem:Bool}{k:K}{x:Root}{c:Mask→k.den→Tre R}{W:Prop}(h:∀m d,(c m d).run g=some r→x=⟨mem,k,m,d⟩→W)(e:(iL mem k x c).run g=some r):W:=
 let ⟨m,d,e1,e2⟩:=aiu e
 h m d e2 e1
theorem cO{mem:Bool}{k:K}{o:Option Root}{c:Mask→k.den→Tre R}{W:Prop}(h:∀m d,(c m d).run g=some r→o=some ⟨mem,k,m,d⟩→W)(e:(bq mem k o c).run g=some r):W:=
 let ⟨m,d,e1,e2⟩:=gG e
 h m d e2 e1
theorem tM{m0 m:Mask}{c:Tre R}{W:Prop}(h:(c).run g=some r→m=m0→W)(e:(asM m0 m c).run g=some r):W:=
 let ⟨e1,e2⟩:=vD e
 h e2 e1
theorem nQ{m:Mask}{c:Bool→Tre R}{W:Prop}(h:∀z,(c z).run g=some r→m=.imm z→W)(e:(fI m c).run g=some r):W:=
 let ⟨z,e1,e2⟩:=BF e
 h z e2 e1
theorem tD{α:Type} [DecidableEq α] {y:α} {x:α} {c:Tre R} {W:Prop} (h:(c).run g=some r→x=y→W) (e:(asD x y c).run g=some r):W:=
 let ⟨e1,e2⟩:=asT e
 h e2 e1
end
theorem dB{V:Env}{A:List (Nat×bF)}{a:Code}{kp kx:Keep}{D:St→Tre (Ex×St)} (h:∀(s:St)(e:Ex)(s':St),(D (restrict kp s)).run some=some (e,s') →
  ∃(σ β:Type) (mk:σ→St) (out:β→Ex×St) (step:σ→Tre (σ ⊕ β)) (x:σ) (b:β),restrict kp s=mk x∧aS step x=some b∧out b=(e,s') ∧
   ∀(x:σ)(c:St→Option (Ex×St)),den V A a (mk x) (bZ kp kx c)=(step x).run (cu mk out c)):bU V A a ⟨kp,kx,D⟩:=fq h
theorem cK{V:Env}{A:List (Nat×bF)}{a:Code}{kp kx:Keep}{σ β:Type}{mk:σ→St}{out:β→Ex×St}{step:σ→Tre (σ ⊕ β)}{s:St}{e:Ex×St}{x:σ}
  (h4:∀(x:σ)(c:St→Option (Ex×St)),den V A a (mk x) (bZ kp kx c)=(step x).run (cu mk out c)) (h:(Tre.mat (aS step x) fun y=>Tre.ret (out y)).run some=some e) (h1:restrict kp s=mk x) :
  ∃(σ β:Type) (mk:σ→St) (out:β→Ex×St) (step:σ→Tre (σ ⊕ β)) (x:σ) (b:β),restrict kp s=mk x∧aS step x=some b∧out b=e ∧
   ∀(x:σ)(c:St→Option (Ex×St)),den V A a (mk x) (bZ kp kx c)=(step x).run (cu mk out c):=by
 obtain ⟨y,hy,hz⟩:=adM h
 exact ⟨σ,β,mk,out,step,x,y,h1,hy,Option.some.inj hz,h4⟩
def fnI(fn:Func)(A:List (Nat×bF)):FnI:=⟨fn.body.getD .skip,fn.results.toList,fn.resultTypes.toList,A⟩
def dx(rw:List Nat)(G:List AV→List Root→Tre au):Ctr:=⟨rw,fun ci=>G ci.args ci.roots,false⟩
theorem aC{P:Program}{V:Env}{Γ:Glb}{fn:Func}{A:List (Nat×bF)}{G:List AV→List Root→Tre au}{f:FuncId}{rw:List Nat}(hT:gF P V)(hE:aip P Γ V)(hf:P.funcs[f]?=some fn)(hL:qU V A (fn.body.getD .skip))
  (h:∀av rs co,(G av rs).run some=some co→(Tre.mat (bH V (fnI fn A) ⟨av,rs⟩) Tre.ret).run some=some co) (hb:fn.body=some (fn.body.getD .skip):=by kernel_rfl)
  (hd:BJ fn.ntmps (fn.body.getD .skip)=true:=by kernel_rfl):Contract P Γ f (dx rw G):=
 (alC (F:=fnI fn A) hT hE hf hb rfl hd hL rw).weaken fun ci co h'=>h ci.args ci.roots co h'
theorem bn{V:Env}{A:List (Nat×bF)}{c:Code}(h:(fB c).length=0:=by kernel_rfl):qU V A c:=ams h
theorem bP{V:Env}{A:List (Nat×bF)}{a:Code}{id:Nat}{L:bF}(h:bU V A a L)(h1:dZ a=some id:=by kernel_rfl)(h2:gK id A=some L:=by kernel_rfl):∀i L',dZ a=some i→gK i A=some L'→bU V A a L':=arO h1 h2 h
theorem bM{V:Env}{A:List (Nat×bF)}{c:Code}{n:Nat}(h:∀k,k<n→∀i L,dZ (aV c k)=some i→gK i A=some L→bU V A (aV c k) L)(hn:(fB c).length=n:=by kernel_rfl):qU V A c:=amr hn h
end Go.Abs
namespace Go.Abs
open Go.Sort
structure apX where
 g:List Int→List Int
 len:∀d,(g d).length=d.length
 cut:Option (List Int→Nat)
 le:∀n,cut=some n→∀d,n d≤d.length
def apX.res(o:apX)(d:List Int):AV:=match o.cut with
 |none=>.tnil
 |some n=>.slc (0,0) [] 0 (n d)
def apX.val(o:apX)(d:List Int)(a:Option Addr)(cap:Nat):Value:=match o.cut with
 |none=>.tuple #[]
 |some n=>.slice a (n d) cap
end Go.Abs
namespace Go.Proofs.YtmilokkchghpjaaGreat
open Go Go.Abs Go.Proofs
abbrev aM:K:=(.pair .n (.pair .n .unit))
abbrev aK:K:=(.pair .n (.pair .il .unit))
abbrev gq:K:=(.pair (.sl (.int .u8)) (.pair .n (.pair (.int .u64) .unit)))
abbrev Nf:K:=(.pair aM (.pair .il (.pair .n .unit)))
abbrev aP:K:=(.pair aM (.pair .n (.pair (.sl .il) .unit)))
abbrev avI:K:=(.pair aM (.pair .n (.pair .n (.pair (.sl .il) (.pair (.sl .il) .unit)))))
def tau:List (Nat×TI):=[(27,⟨.il,24,2⟩),(2,⟨.n,8,0⟩),(34,⟨aM,16,0⟩),(55,⟨aK,32,0⟩),(24,⟨(.sl .il),24,27⟩),(65,⟨aP,48,0⟩),(67,⟨(.sl aK),24,55⟩),(3,⟨.n,8,0⟩),(178,⟨gq,40,0⟩),(49,⟨(.sl (.int .u8)),24,5⟩),(134,⟨.fn,8,0⟩),(176,⟨(.int .u64),8,0⟩),(174,⟨(.sl aM),24,34⟩),(5,⟨(.int .u8),1,0⟩),(1,⟨.fn,8,0⟩),(4,⟨.bool,1,0⟩),(9,⟨.str,16,0⟩),(12,⟨(.int .u64),8,0⟩),(13,⟨(.pair .str (.pair (.int .u64) .unit)),24,0⟩),(21,⟨(.int .i32),4,0⟩),(22,⟨aM,16,0⟩),(23,⟨aM,16,0⟩),(25,⟨avI,80,0⟩),(26,⟨avI,80,0⟩),(28,⟨Nf,48,0⟩),(29,⟨Nf,48,0⟩),(30,⟨.fn,8,0⟩),(31,⟨.fn,8,0⟩),(33,⟨.fn,8,0⟩),(35,⟨avI,80,0⟩),(36,⟨avI,80,0⟩),(37,⟨.fn,8,0⟩),(38,⟨Nf,48,0⟩),(39,⟨Nf,48,0⟩),(40,⟨.fn,8,0⟩),(41,⟨.fn,8,0⟩),(42,⟨.fn,8,0⟩),(43,⟨.fn,8,0⟩),(44,⟨.fn,8,0⟩),(45,⟨.fn,8,0⟩),(46,⟨.fn,8,0⟩),(47,⟨.fn,8,0⟩),(48,⟨.fn,8,0⟩),(50,⟨.fn,8,0⟩),(51,⟨.fn,8,0⟩),(52,⟨.fn,8,0⟩),(53,⟨.fn,8,0⟩),(54,⟨aK,32,0⟩),(57,⟨.fn,8,0⟩),(58,⟨.fn,8,0⟩),(59,⟨.fn,8,0⟩),(60,⟨.fn,8,0⟩),(62,⟨.fn,8,0⟩),(63,⟨.fn,8,0⟩),(64,⟨aP,48,0⟩),(66,⟨.fn,8,0⟩),(69,⟨.fn,8,0⟩),(70,⟨.fn,8,0⟩),(71,⟨.fn,8,0⟩),(72,⟨.fn,8,0⟩),(73,⟨.fn,8,0⟩),(74,⟨.fn,8,0⟩),(76,⟨.fn,8,0⟩),(77,⟨.fn,8,0⟩),(78,⟨.fn,8,0⟩),(79,⟨.fn,8,0⟩),(80,⟨.fn,8,0⟩),(81,⟨.fn,8,0⟩),(83,⟨.fn,8,0⟩),(85,⟨.fn,8,0⟩),(86,⟨.fn,8,0⟩),(87,⟨.fn,8,0⟩),(88,⟨.ptr,8,0⟩),(89,⟨.fn,8,0⟩),(90,⟨.ptr,8,0⟩),(91,⟨.fn,8,0⟩),(92,⟨.fn,8,0⟩),(93,⟨.fn,8,0⟩),(94,⟨.fn,8,0⟩),(96,⟨.fn,8,0⟩),(97,⟨.ptr,8,0⟩),(98,⟨.fn,8,0⟩),(99,⟨.fn,8,0⟩),(101,⟨.fn,8,0⟩),(102,⟨.fn,8,0⟩),(103,⟨.fn,8,0⟩),(104,⟨.fn,8,0⟩),(105,⟨.fn,8,0⟩),(106,⟨.fn,8,0⟩),(107,⟨.fn,8,0⟩),(108,⟨.fn,8,0⟩),(109,⟨.fn,8,0⟩),(110,⟨.fn,8,0⟩),(111,⟨.il,24,3⟩),(112,⟨.fn,8,0⟩),(114,⟨.fn,8,0⟩),(115,⟨.fn,8,0⟩),(116,⟨.fn,8,0⟩),(117,⟨.fn,8,0⟩),(118,⟨.ptr,8,0⟩),(119,⟨.fn,8,0⟩),(120,⟨.fn,8,0⟩),(121,⟨.fn,8,0⟩),(122,⟨.fn,8,0⟩),(123,⟨.fn,8,0⟩),(124,⟨.fn,8,0⟩),(125,⟨.fn,8,0⟩),(126,⟨.fn,8,0⟩),(127,⟨.fn,8,0⟩),(128,⟨.fn,8,0⟩),(129,⟨.fn,8,0⟩),(130,⟨.fn,8,0⟩),(131,⟨.fn,8,0⟩),(132,⟨.fn,8,0⟩),(133,⟨.fn,8,0⟩),(135,⟨.fn,8,0⟩),(136,⟨.ptr,8,0⟩),(137,⟨.fn,8,0⟩),(138,⟨.fn,8,0⟩),(139,⟨.fn,8,0⟩),(140,⟨.fn,8,0⟩),(141,⟨.fn,8,0⟩),(142,⟨.fn,8,0⟩),(143,⟨.fn,8,0⟩),(144,⟨.fn,8,0⟩),(145,⟨.fn,8,0⟩),(146,⟨.fn,8,0⟩),(147,⟨.fn,8,0⟩),(148,⟨.fn,8,0⟩),(149,⟨.fn,8,0⟩),(150,⟨.fn,8,0⟩),(151,⟨.fn,8,0⟩),(152,⟨.fn,8,0⟩),(153,⟨.fn,8,0⟩),(154,⟨.fn,8,0⟩),(155,⟨.fn,8,0⟩),(156,⟨.fn,8,0⟩),(157,⟨.fn,8,0⟩),(158,⟨.fn,8,0⟩),(159,⟨.fn,8,0⟩),(160,⟨(.int .u64),8,0⟩),(161,⟨.fn,8,0⟩),(162,⟨.fn,8,0⟩),(163,⟨.fn,8,0⟩),(164,⟨.fn,8,0⟩),(165,⟨.fn,8,0⟩),(166,⟨.fn,8,0⟩),(167,⟨.fn,8,0⟩),(168,⟨.fn,8,0⟩),(169,⟨.fn,8,0⟩),(170,⟨.fn,8,0⟩),(171,⟨.fn,8,0⟩),(172,⟨.fn,8,0⟩),(173,⟨.fn,8,0⟩),(175,⟨.fn,8,0⟩),(177,⟨gq,40,0⟩),(179,⟨.fn,8,0⟩),(180,⟨.fn,8,0⟩),(181,⟨.fn,8,0⟩),(182,⟨.fn,8,0⟩),(183,⟨.fn,8,0⟩),(184,⟨.fn,8,0⟩),(185,⟨.fn,8,0⟩),(186,⟨.fn,8,0⟩),(187,⟨.fn,8,0⟩),(188,⟨.fn,8,0⟩),(189,⟨.fn,8,0⟩),(190,⟨.fn,8,0⟩),(191,⟨.fn,8,0⟩),(192,⟨.fn,8,0⟩),(193,⟨.fn,8,0⟩),(194,⟨.fn,8,0⟩),(195,⟨.fn,8,0⟩),(196,⟨.fn,8,0⟩),(197,⟨.fn,8,0⟩),(199,⟨.fn,8,0⟩),(200,⟨.fn,8,0⟩),(201,⟨.fn,8,0⟩),(202,⟨.fn,8,0⟩),(203,⟨.fn,8,0⟩),(205,⟨.fn,8,0⟩),(206,⟨.fn,8,0⟩),(207,⟨.fn,8,0⟩),(208,⟨.fn,8,0⟩),(209,⟨.fn,8,0⟩),(210,⟨.fn,8,0⟩),(211,⟨.fn,8,0⟩),(212,⟨.fn,8,0⟩),(213,⟨.fn,8,0⟩),(214,⟨.fn,8,0⟩),(215,⟨.fn,8,0⟩),(216,⟨.fn,8,0⟩),(222,⟨.fn,8,0⟩),(223,⟨(.int .u32),4,0⟩),(226,⟨.fn,8,0⟩),(227,⟨.ptr,8,0⟩)]
theorem aR{E:List (Nat×Ctr)}{Z:List (Nat×List Frz)}:gF Tryz.prog ⟨tau,E,Z⟩:=auO (auN (by kernel_rfl)) (by kernel_rfl)
theorem azy:Go.Abs.Enters Tryz.prog 20:=⟨Tryz.f20,Tryz.func20,by kernel_rfl,by kernel_rfl⟩
theorem azz:Go.Abs.Enters Tryz.prog 21:=⟨Tryz.f21,Tryz.func21,by kernel_rfl,by kernel_rfl⟩
theorem azA:Go.Abs.Enters Tryz.prog 22:=⟨Tryz.f22,Tryz.func22,by kernel_rfl,by kernel_rfl⟩
theorem azB:Go.Abs.Enters Tryz.prog 23:=⟨Tryz.f23,Tryz.func23,by kernel_rfl,by kernel_rfl⟩
theorem azC:Go.Abs.Enters Tryz.prog 24:=⟨Tryz.f24,Tryz.func24,by kernel_rfl,by kernel_rfl⟩
theorem azD:Go.Abs.Enters Tryz.prog 25:=⟨Tryz.f25,Tryz.func25,by kernel_rfl,by kernel_rfl⟩
theorem awQ:Go.Abs.Enters Tryz.prog 26:=⟨Tryz.f26,Tryz.func26,by kernel_rfl,by kernel_rfl⟩
theorem azE:Go.Abs.Enters Tryz.prog 27:=⟨Tryz.f27,Tryz.func27,by kernel_rfl,by kernel_rfl⟩
theorem azF:Go.Abs.Enters Tryz.prog 28:=⟨Tryz.f28,Tryz.func28,by kernel_rfl,by kernel_rfl⟩
theorem azG:Go.Abs.Enters Tryz.prog 29:=⟨Tryz.f29,Tryz.func29,by kernel_rfl,by kernel_rfl⟩
theorem azH:Go.Abs.Enters Tryz.prog 30:=⟨Tryz.f30,Tryz.func30,by kernel_rfl,by kernel_rfl⟩
theorem azI:Go.Abs.Enters Tryz.prog 31:=⟨Tryz.f31,Tryz.func31,by kernel_rfl,by kernel_rfl⟩
theorem azJ:Go.Abs.Enters Tryz.prog 32:=⟨Tryz.f32,Tryz.func32,by kernel_rfl,by kernel_rfl⟩
theorem azK:Go.Abs.Enters Tryz.prog 33:=⟨Tryz.f33,Tryz.func33,by kernel_rfl,by kernel_rfl⟩
theorem azL:Go.Abs.Enters Tryz.prog 34:=⟨Tryz.f34,Tryz.func34,by kernel_rfl,by kernel_rfl⟩
theorem azM:Go.Abs.Enters Tryz.prog 35:=⟨Tryz.f35,Tryz.func35,by kernel_rfl,by kernel_rfl⟩
theorem azN:Go.Abs.Enters Tryz.prog 36:=⟨Tryz.f36,Tryz.func36,by kernel_rfl,by kernel_rfl⟩
theorem azO:Go.Abs.Enters Tryz.prog 37:=⟨Tryz.f37,Tryz.func37,by kernel_rfl,by kernel_rfl⟩
theorem alO:Go.Abs.Enters Tryz.prog 54:=⟨Tryz.f54,Tryz.func54,by kernel_rfl,by kernel_rfl⟩
theorem awR:Go.Abs.Enters Tryz.prog 56:=⟨Tryz.f56,Tryz.func56,by kernel_rfl,by kernel_rfl⟩
theorem aiI:Go.Abs.Enters Tryz.prog 67:=⟨Tryz.f67,Tryz.func67,by kernel_rfl,by kernel_rfl⟩
theorem awS:Go.Abs.Enters Tryz.prog 69:=⟨Tryz.f69,Tryz.func69,by kernel_rfl,by kernel_rfl⟩
theorem awT:Go.Abs.Enters Tryz.prog 78:=⟨Tryz.f78,Tryz.func78,by kernel_rfl,by kernel_rfl⟩
theorem ap2:Go.Abs.Enters Tryz.prog 79:=⟨Tryz.f79,Tryz.func79,by kernel_rfl,by kernel_rfl⟩
theorem alP:Go.Abs.Enters Tryz.prog 80:=⟨Tryz.f80,Tryz.func80,by kernel_rfl,by kernel_rfl⟩
theorem awU:Go.Abs.Enters Tryz.prog 81:=⟨Tryz.f81,Tryz.func81,by kernel_rfl,by kernel_rfl⟩
theorem awV:Go.Abs.Enters Tryz.prog 82:=⟨Tryz.f82,Tryz.func82,by kernel_rfl,by kernel_rfl⟩
theorem atp:Go.Abs.Enters Tryz.prog 83:=⟨Tryz.f83,Tryz.func83,by kernel_rfl,by kernel_rfl⟩
theorem azP:Go.Abs.Enters Tryz.prog 84:=⟨Tryz.f84,Tryz.func84,by kernel_rfl,by kernel_rfl⟩
theorem awW:Go.Abs.Enters Tryz.prog 85:=⟨Tryz.f85,Tryz.func85,by kernel_rfl,by kernel_rfl⟩
theorem atq:Go.Abs.Enters Tryz.prog 86:=⟨Tryz.f86,Tryz.func86,by kernel_rfl,by kernel_rfl⟩
theorem azQ:Go.Abs.Enters Tryz.prog 87:=⟨Tryz.f87,Tryz.func87,by kernel_rfl,by kernel_rfl⟩
theorem atr:Go.Abs.Enters Tryz.prog 88:=⟨Tryz.f88,Tryz.func88,by kernel_rfl,by kernel_rfl⟩
theorem att:Go.Abs.Enters Tryz.prog 89:=⟨Tryz.f89,Tryz.func89,by kernel_rfl,by kernel_rfl⟩
theorem abr:Go.Abs.Enters Tryz.prog 90:=⟨Tryz.f90,Tryz.func90,by kernel_rfl,by kernel_rfl⟩
theorem awX:Go.Abs.Enters Tryz.prog 91:=⟨Tryz.f91,Tryz.func91,by kernel_rfl,by kernel_rfl⟩
theorem azR:Go.Abs.Enters Tryz.prog 92:=⟨Tryz.f92,Tryz.func92,by kernel_rfl,by kernel_rfl⟩
theorem awY:Go.Abs.Enters Tryz.prog 93:=⟨Tryz.f93,Tryz.func93,by kernel_rfl,by kernel_rfl⟩
theorem awZ:Go.Abs.Enters Tryz.prog 94:=⟨Tryz.f94,Tryz.func94,by kernel_rfl,by kernel_rfl⟩
theorem azS:Go.Abs.Enters Tryz.prog 95:=⟨Tryz.f95,Tryz.func95,by kernel_rfl,by kernel_rfl⟩
theorem azT:Go.Abs.Enters Tryz.prog 96:=⟨Tryz.f96,Tryz.func96,by kernel_rfl,by kernel_rfl⟩
theorem aw0:Go.Abs.Enters Tryz.prog 97:=⟨Tryz.f97,Tryz.func97,by kernel_rfl,by kernel_rfl⟩
theorem aw1:Go.Abs.Enters Tryz.prog 98:=⟨Tryz.f98,Tryz.func98,by kernel_rfl,by kernel_rfl⟩
theorem aw2:Go.Abs.Enters Tryz.prog 99:=⟨Tryz.f99,Tryz.func99,by kernel_rfl,by kernel_rfl⟩
theorem axC:Go.Abs.Enters Tryz.prog 100:=⟨Tryz.f100,Tryz.func100,by kernel_rfl,by kernel_rfl⟩
theorem axD:Go.Abs.Enters Tryz.prog 101:=⟨Tryz.f101,Tryz.func101,by kernel_rfl,by kernel_rfl⟩
theorem atb:Go.Abs.Enters Tryz.prog 102:=⟨Tryz.f102,Tryz.func102,by kernel_rfl,by kernel_rfl⟩
theorem axE:Go.Abs.Enters Tryz.prog 103:=⟨Tryz.f103,Tryz.func103,by kernel_rfl,by kernel_rfl⟩
theorem axF:Go.Abs.Enters Tryz.prog 104:=⟨Tryz.f104,Tryz.func104,by kernel_rfl,by kernel_rfl⟩
theorem axG:Go.Abs.Enters Tryz.prog 105:=⟨Tryz.f105,Tryz.func105,by kernel_rfl,by kernel_rfl⟩
theorem axH:Go.Abs.Enters Tryz.prog 106:=⟨Tryz.f106,Tryz.func106,by kernel_rfl,by kernel_rfl⟩
theorem aoy:Go.Abs.Enters Tryz.prog 113:=⟨Tryz.f113,Tryz.func113,by kernel_rfl,by kernel_rfl⟩
theorem atc:Go.Abs.Enters Tryz.prog 114:=⟨Tryz.f114,Tryz.func114,by kernel_rfl,by kernel_rfl⟩
theorem axI:Go.Abs.Enters Tryz.prog 115:=⟨Tryz.f115,Tryz.func115,by kernel_rfl,by kernel_rfl⟩
theorem atd:Go.Abs.Enters Tryz.prog 121:=⟨Tryz.f121,Tryz.func121,by kernel_rfl,by kernel_rfl⟩
theorem ate:Go.Abs.Enters Tryz.prog 124:=⟨Tryz.f124,Tryz.func124,by kernel_rfl,by kernel_rfl⟩
theorem atf:Go.Abs.Enters Tryz.prog 132:=⟨Tryz.f132,Tryz.func132,by kernel_rfl,by kernel_rfl⟩
theorem axJ:Go.Abs.Enters Tryz.prog 134:=⟨Tryz.f134,Tryz.func134,by kernel_rfl,by kernel_rfl⟩
theorem aeo:Go.Abs.Enters Tryz.prog 137:=⟨Tryz.f137,Tryz.func137,by kernel_rfl,by kernel_rfl⟩
theorem atg:Go.Abs.Enters Tryz.prog 139:=⟨Tryz.f139,Tryz.func139,by kernel_rfl,by kernel_rfl⟩
theorem axK:Go.Abs.Enters Tryz.prog 140:=⟨Tryz.f140,Tryz.func140,by kernel_rfl,by kernel_rfl⟩
theorem ath:Go.Abs.Enters Tryz.prog 152:=⟨Tryz.f152,Tryz.func152,by kernel_rfl,by kernel_rfl⟩
theorem axL:Go.Abs.Enters Tryz.prog 153:=⟨Tryz.f153,Tryz.func153,by kernel_rfl,by kernel_rfl⟩
theorem ajz:Go.Abs.Enters Tryz.prog 154:=⟨Tryz.f154,Tryz.func154,by kernel_rfl,by kernel_rfl⟩
theorem aoz:Go.Abs.Enters Tryz.prog 159:=⟨Tryz.f159,Tryz.func159,by kernel_rfl,by kernel_rfl⟩
theorem aoA:Go.Abs.Enters Tryz.prog 162:=⟨Tryz.f162,Tryz.func162,by kernel_rfl,by kernel_rfl⟩
theorem axM:Go.Abs.Enters Tryz.prog 165:=⟨Tryz.f165,Tryz.func165,by kernel_rfl,by kernel_rfl⟩
theorem axN:Go.Abs.Enters Tryz.prog 166:=⟨Tryz.f166,Tryz.func166,by kernel_rfl,by kernel_rfl⟩
theorem axO:Go.Abs.Enters Tryz.prog 167:=⟨Tryz.f167,Tryz.func167,by kernel_rfl,by kernel_rfl⟩
theorem axP:Go.Abs.Enters Tryz.prog 168:=⟨Tryz.f168,Tryz.func168,by kernel_rfl,by kernel_rfl⟩
theorem axQ:Go.Abs.Enters Tryz.prog 169:=⟨Tryz.f169,Tryz.func169,by kernel_rfl,by kernel_rfl⟩
theorem axR:Go.Abs.Enters Tryz.prog 170:=⟨Tryz.f170,Tryz.func170,by kernel_rfl,by kernel_rfl⟩
theorem axS:Go.Abs.Enters Tryz.prog 171:=⟨Tryz.f171,Tryz.func171,by kernel_rfl,by kernel_rfl⟩
theorem aoB:Go.Abs.Enters Tryz.prog 172:=⟨Tryz.f172,Tryz.func172,by kernel_rfl,by kernel_rfl⟩
theorem axT:Go.Abs.Enters Tryz.prog 173:=⟨Tryz.f173,Tryz.func173,by kernel_rfl,by kernel_rfl⟩
theorem axU:Go.Abs.Enters Tryz.prog 174:=⟨Tryz.f174,Tryz.func174,by kernel_rfl,by kernel_rfl⟩
theorem ati:Go.Abs.Enters Tryz.prog 175:=⟨Tryz.f175,Tryz.func175,by kernel_rfl,by kernel_rfl⟩
theorem axV:Go.Abs.Enters Tryz.prog 176:=⟨Tryz.f176,Tryz.func176,by kernel_rfl,by kernel_rfl⟩
theorem axW:Go.Abs.Enters Tryz.prog 177:=⟨Tryz.f177,Tryz.func177,by kernel_rfl,by kernel_rfl⟩
theorem axX:Go.Abs.Enters Tryz.prog 178:=⟨Tryz.f178,Tryz.func178,by kernel_rfl,by kernel_rfl⟩
theorem atj:Go.Abs.Enters Tryz.prog 179:=⟨Tryz.f179,Tryz.func179,by kernel_rfl,by kernel_rfl⟩
theorem axY:Go.Abs.Enters Tryz.prog 180:=⟨Tryz.f180,Tryz.func180,by kernel_rfl,by kernel_rfl⟩
theorem axZ:Go.Abs.Enters Tryz.prog 181:=⟨Tryz.f181,Tryz.func181,by kernel_rfl,by kernel_rfl⟩
theorem ax0:Go.Abs.Enters Tryz.prog 182:=⟨Tryz.f182,Tryz.func182,by kernel_rfl,by kernel_rfl⟩
theorem ax1:Go.Abs.Enters Tryz.prog 183:=⟨Tryz.f183,Tryz.func183,by kernel_rfl,by kernel_rfl⟩
theorem ax2:Go.Abs.Enters Tryz.prog 184:=⟨Tryz.f184,Tryz.func184,by kernel_rfl,by kernel_rfl⟩
theorem ax3:Go.Abs.Enters Tryz.prog 185:=⟨Tryz.f185,Tryz.func185,by kernel_rfl,by kernel_rfl⟩
theorem aoC:Go.Abs.Enters Tryz.prog 187:=⟨Tryz.f187,Tryz.func187,by kernel_rfl,by kernel_rfl⟩
theorem aoD:Go.Abs.Enters Tryz.prog 189:=⟨Tryz.f189,Tryz.func189,by kernel_rfl,by kernel_rfl⟩
theorem aoE:Go.Abs.Enters Tryz.prog 194:=⟨Tryz.f194,Tryz.func194,by kernel_rfl,by kernel_rfl⟩
theorem atl:Go.Abs.Enters Tryz.prog 196:=⟨Tryz.f196,Tryz.func196,by kernel_rfl,by kernel_rfl⟩
theorem ax4:Go.Abs.Enters Tryz.prog 197:=⟨Tryz.f197,Tryz.func197,by kernel_rfl,by kernel_rfl⟩
theorem ax5:Go.Abs.Enters Tryz.prog 198:=⟨Tryz.f198,Tryz.func198,by kernel_rfl,by kernel_rfl⟩
theorem aoF:Go.Abs.Enters Tryz.prog 199:=⟨Tryz.f199,Tryz.func199,by kernel_rfl,by kernel_rfl⟩
theorem aoG:Go.Abs.Enters Tryz.prog 203:=⟨Tryz.f203,Tryz.func203,by kernel_rfl,by kernel_rfl⟩
theorem ax6:Go.Abs.Enters Tryz.prog 212:=⟨Tryz.f212,Tryz.func212,by kernel_rfl,by kernel_rfl⟩
theorem atm:Go.Abs.Enters Tryz.prog 217:=⟨Tryz.f217,Tryz.func217,by kernel_rfl,by kernel_rfl⟩
theorem ax7:Go.Abs.Enters Tryz.prog 218:=⟨Tryz.f218,Tryz.func218,by kernel_rfl,by kernel_rfl⟩
theorem atn:Go.Abs.Enters Tryz.prog 219:=⟨Tryz.f219,Tryz.func219,by kernel_rfl,by kernel_rfl⟩
theorem ax8:Go.Abs.Enters Tryz.prog 220:=⟨Tryz.f220,Tryz.func220,by kernel_rfl,by kernel_rfl⟩
theorem ax9:Go.Abs.Enters Tryz.prog 221:=⟨Tryz.f221,Tryz.func221,by kernel_rfl,by kernel_rfl⟩
theorem aya:Go.Abs.Enters Tryz.prog 222:=⟨Tryz.f222,Tryz.func222,by kernel_rfl,by kernel_rfl⟩
theorem ayb:Go.Abs.Enters Tryz.prog 223:=⟨Tryz.f223,Tryz.func223,by kernel_rfl,by kernel_rfl⟩
theorem ayc:Go.Abs.Enters Tryz.prog 224:=⟨Tryz.f224,Tryz.func224,by kernel_rfl,by kernel_rfl⟩
theorem ayd:Go.Abs.Enters Tryz.prog 225:=⟨Tryz.f225,Tryz.func225,by kernel_rfl,by kernel_rfl⟩
theorem aye:Go.Abs.Enters Tryz.prog 226:=⟨Tryz.f226,Tryz.func226,by kernel_rfl,by kernel_rfl⟩
theorem ayf:Go.Abs.Enters Tryz.prog 227:=⟨Tryz.f227,Tryz.func227,by kernel_rfl,by kernel_rfl⟩
theorem ayg:Go.Abs.Enters Tryz.prog 228:=⟨Tryz.f228,Tryz.func228,by kernel_rfl,by kernel_rfl⟩
theorem ayh:Go.Abs.Enters Tryz.prog 230:=⟨Tryz.f230,Tryz.func230,by kernel_rfl,by kernel_rfl⟩
theorem ato:Go.Abs.Enters Tryz.prog 232:=⟨Tryz.f232,Tryz.func232,by kernel_rfl,by kernel_rfl⟩
theorem ayi:Go.Abs.Enters Tryz.prog 240:=⟨Tryz.f240,Tryz.func240,by kernel_rfl,by kernel_rfl⟩
theorem ayj:Go.Abs.Enters Tryz.prog 241:=⟨Tryz.f241,Tryz.func241,by kernel_rfl,by kernel_rfl⟩
abbrev aA:=(Int×((List Int)×Unit))
abbrev cB:=((List Int)×(Int×(Int×Unit)))
abbrev aG:=((Int×(Int×Unit))×(Int×((List (List Int))×Unit)))
def aqe (p0:List Int):Tre Bool:=
 .ret (decide ((p0.length:Int)>4096))
def arK (p0:List Int):Option Bool:=(aqe p0).run some
def xO(p0:List Int):Bool:=
 decide ((p0.length:Int)>4096)
theorem ajZ(p0:List Int):arK p0=some (xO p0):=rfl
def aiU:Env:=⟨tau,[],[]⟩
def arM:FnI:=fnI Tryz.f20 []
def abG (_:Bool) (_:List Int):Bool→au:=fun r=>⟨(.imm true .bool r),[],[]⟩
theorem ao4:∀(zp0:Bool)(p0:List Int),bH aiU arM ⟨[(.imm zp0 (.sl (.int .u8)) p0)],[]⟩=(aqe p0).run fun r=>some (abG zp0 p0 r):=fun _ _=>by kernel_rfl
def arL (av:List AV) (rs:List Root):Tre au:=
 aB av fun a0_ av0=>
 aJ av0<|
 aJ rs<|
 bB (.sl (.int .u8)) a0_ fun z2 d1=>
 .ret (abG z2 d1 (xO d1))
def aiV:Ctr:=dx [] arL
theorem ao5:Contract Tryz.prog .none 20 aiV:=aC (V:=aiU) aR aH Tryz.func20 bn fun _ _ _=>aI fun _ _=>aZ<|aZ<|dF fun _ _=>fun h=>by intros;subst_vars;exact yt (ao4 _ _) (ajZ _) h
def ai8 (p0:List Int):Tre cB:=
 .ret (p0,(0,(0,())))
def am8 (p0:List Int):Option cB:=(ai8 p0).run some
theorem aga(p0:List Int):am8 p0=some (p0,(0,(0,()))):=rfl
def abW:Env:=⟨tau,[],[]⟩
def ana:FnI:=fnI Tryz.f79 []
def Vd (zp0:Bool) (_:List Int):cB→au:=fun r=>⟨(.ptr (1,0) []),[],[⟨true,gq,(.imm zp0),r⟩]⟩
theorem akB:∀(zp0:Bool)(p0:List Int),bH abW ana ⟨[(.imm zp0 (.sl (.int .u8)) p0)],[]⟩=(ai8 p0).run fun r=>some (Vd zp0 p0 r):=fun _ _=>by kernel_rfl
def am9 (av:List AV) (rs:List Root):Tre au:=
 aB av fun a0_ av0=>
 aJ av0<|
 aJ rs<|
 bB (.sl (.int .u8)) a0_ fun z2 d1=>
 .ret (Vd z2 d1 (d1,(0,(0,()))))
def Cv:Ctr:=dx [] am9
theorem EJ:Contract Tryz.prog .none 79 Cv:=aC (V:=abW) aR aH Tryz.func79 bn fun _ _ _=>aI fun _ _=>aZ<|aZ<|dF fun _ _=>fun h=>by intros;subst_vars;exact yt (akB _ _) (aga _) h
def wW (p0:cB):Tre (Int×cB):=
 .cond (decide (p0.2.1<(p0.1.length:Int)))
  (.ite (0≤p0.2.1∧p0.2.1<(p0.1.length:Int))<|
  .mat (p0.1[p0.2.1.toNat]?) fun x1=>
  let v2:=aL .u64 (p0.2.2.1*6364136223846793005)
  let v3:=aL .u64 (aL .i64 x1)
  let v4:=aL .u64 ((aL .u64 (v2+v3))+1442695040888963407)
  .cond (decide (aL .i64 (p0.2.1+1)≤(p0.1.length:Int)))
   (.ret (aL .i64 x1,(p0.1,(aL .i64 (p0.2.1+1),(v4,p0.2.2.2)))))
   (let v5:=Nb .u64 (Pz .u64 v4 40) 255
   .ret (aL .i64 v5,(p0.1,(aL .i64 (p0.2.1+1),(v4,p0.2.2.2))))))
  (let v6:=aL .u64 (p0.2.2.1*6364136223846793005)
  let v7:=aL .u64 ((aL .u64 (v6+0))+1442695040888963407)
  .cond (decide (aL .i64 (p0.2.1+1)≤(p0.1.length:Int)))
   (.ret (0,(p0.1,(aL .i64 (p0.2.1+1),(v7,p0.2.2.2)))))
   (let v8:=Nb .u64 (Pz .u64 v7 40) 255
   .ret (aL .i64 v8,(p0.1,(aL .i64 (p0.2.1+1),(v7,p0.2.2.2))))))
def jP (p0:cB):Option (Int×cB):=(wW p0).run some
def Cw:Env:=⟨tau,[],[]⟩
def RV:FnI:=fnI Tryz.f166 []
def y8 (zp0:Bool) (_:cB):(Int×cB)→au:=fun r=>⟨(.i r.1),[⟨true,gq,(.imm zp0),r.2⟩],[]⟩
theorem PE:∀(zp0:Bool)(p0:cB),bH Cw RV ⟨[(.ptr (0,0) [])],[⟨true,gq,(.imm zp0),p0⟩]⟩=(wW p0).run fun r=>some (y8 zp0 p0 r):=fun _ _=>by kernel_rfl
def RU (av:List AV) (rs:List Root):Tre au:=
 aB av fun a0_ av0=>
 aJ av0<|
 aB rs fun r0_ rs0=>
 aJ rs0<|
 dH (0,0) [] a0_<|
 iL true gq r0_ fun m1 d2=>
 fI m1 fun z3=>
 .mat (jP d2) fun r=>.ret (y8 z3 d2 r)
def Cx:Ctr:=dx [] RU
theorem PG:Contract Tryz.prog .none 166 Cx:=aC (V:=Cw) aR aH Tryz.func166 bn fun _ _ _=>aI fun _ _=>aZ<|aI fun _ _=>aZ<|gy<|tRt fun _ _=>nQ fun _=>fun h=>by intros;subst_vars;exact aW (PE _ _) h
def wX (p0:Int) (p1:cB):Tre (Int×cB):=
 .cond (decide (p0≤1))
  (.ret (0,p1))
  (.mat (jP p1) fun r1=>
  .cond (decide (p0>200))
   (.mat (jP r1.2) fun r2=>
   let v3:=aL .i64 ((aL .i64 (r1.1*256))+r2.1)
   .ifn (p0=0)<|
   .ret (Int.tmod v3 p0,r2.2))
   (.ifn (p0=0)<|
   .ret (Int.tmod r1.1 p0,r1.2)))
def dO (p0:Int) (p1:cB):Option (Int×cB):=(wX p0 p1).run some
def Cy:Env:=⟨tau,[(166,Cx)],[]⟩
def R3:FnI:=fnI Tryz.f80 []
def za (zp0:Bool) (_:Int) (_:cB):(Int×cB)→au:=fun r=>⟨(.i r.1),[⟨true,gq,(.imm zp0),r.2⟩],[]⟩
theorem PI:∀(zp0:Bool)(p0:Int)(p1:cB),bH Cy R3 ⟨[(.ptr (0,0) []),(.i p0)],[⟨true,gq,(.imm zp0),p1⟩]⟩=(wX p0 p1).run fun r=>some (za zp0 p0 p1 r):=fun _ _ _=>by kernel_rfl
def RZ (av:List AV) (rs:List Root):Tre au:=
 aB av fun a0_ av0=>
 aB av0 fun a1_ av1=>
 aJ av1<|
 aB rs fun r0_ rs0=>
 aJ rs0<|
 dH (0,0) [] a0_<|
 aF true .n a1_ fun d1=>
 iL true gq r0_ fun m2 d3=>
 fI m2 fun z4=>
 .mat (dO d1 d3) fun r=>.ret (za z4 d1 d3 r)
def iC:Ctr:=dx [] RZ
theorem jr:Contract Tryz.prog .none 80 iC:=aC (V:=Cy) aR (ak PG axN aH) Tryz.func80 bn fun _ _ _=>aI fun _ _=>aI fun _ _=>aZ<|aI fun _ _=>aZ<|gy<|aO fun _=>tRt fun _ _=>nQ fun _=>fun h=>by intros;subst_vars;exact aW (PI _ _ _) h
def Gc:(Int×Int)→Tre ((Int×Int) ⊕ Int):=fun s2=>
 .cond (decide (s2.1>0))
  (let v1:=aL .i64 (Int.tdiv s2.1 2)
  .ret (.inl (v1,aL .i64 (s2.2+1))))
  (.ret (.inr s2.2))
def ab2 (p0:Int):Tre Int:=
 .mat (aS Gc (p0,-1)) fun l2=>
 .ret l2
def nN (p0:Int):Option Int:=(ab2 p0).run some
def Bp:Env:=⟨tau,[],[]⟩
def Vg:Code:=(Tryz.f199.body).getD .skip
def Jh:(Int×Int)→St:=fun x=>bT [(0,(.i x.1)),(3,(.i x.2))] []
def Gd:Int→Ex×St:=fun x=>(.exit 0,bT [(3,(.i x))] [])
def aaU (s:St):Tre (Ex×St):=
 aF true .n (s.tmps 0) fun d2=>
 aF true .n (s.tmps 3) fun d4=>
 .mat (aS Gc (d2,d4)) fun x=>.ret (Gd x)
def uz:bF:=⟨([0,3],[]),([3],[]),aaU⟩
def J7:List (Nat×bF):=[(2,uz)]
theorem Ur:∀(x:(Int×Int))(c:St→Option (Ex×St)),den Bp J7 (aV Vg 0) (Jh x) (bZ uz.kp uz.kx c)=(Gc x).run (cu (Jh) (Gd) c):=fun _ _=>by
 kernel_rfl
theorem YQ:bU Bp J7 (aV Vg 0) uz:=dB fun _ _ _=>aO fun _=>aO fun _=>fun h e3 e1=>cK Ur h (by subst_vars;exact aT rfl rfl ⟨e1,e3,trivial⟩ trivial)
def ah6:FnI:=fnI Tryz.f199 J7
def OU (_:Int):Int→au:=fun r=>⟨(.i r),[],[]⟩
theorem agk:∀(p0:Int),bH Bp ah6 ⟨[(.i p0)],[]⟩=(ab2 p0).run fun r=>some (OU p0 r):=fun _=>by kernel_rfl
def ah5 (av:List AV) (rs:List Root):Tre au:=
 aB av fun a0_ av0=>
 aJ av0<|
 aJ rs<|
 aF true .n a0_ fun d1=>
 .mat (nN d1) fun r=>.ret (OU d1 r)
def Bq:Ctr:=dx [] ah5
theorem Gf:Contract Tryz.prog .none 199 Bq:=aC (V:=Bp) aR aH Tryz.func199 (bM (n:=1) fun k hk=>by
 match k,hk with
 |0,_=>exact bP (id:=2) YQ) fun _ _ _=>aI fun _ _=>aZ<|aZ<|aO fun _=>fun h=>by intros;subst_vars;exact aW (agk _) h
def NK (bK:Int) (eH:Int):Int→Tre (Int ⊕ Int):=fun s2=>
 .mat (nN s2) fun r2=>
 .cond (decide (r2 ≥ eH))
  (.mat (nN s2) fun r3=>
  let v4:=aL .u64 (aL .i64 (r3-eH))
  .ite (0≤v4)<|
  let v5:=jT .i64 s2 (rX .i64 bK v4)
  .ret (.inl v5))
  (.ret (.inr s2))
def ajc (p0:Int) (p1:Int):Tre Int:=
 .mat (nN p1) fun r1=>
 .mat (aS (NK p1 r1) p0) fun l6=>
 .ret l6
def Sc (p0:Int) (p1:Int):Option Int:=(ajc p0 p1).run some
def Jk:Env:=⟨tau,[(199,Bq)],[]⟩
def ab5:Code:=(Tryz.f232.body).getD .skip
def OX (bK:Int) (eH:Int):Int→St:=fun x=>bT [(0,(.i x)),(1,(.i bK)),(5,(.i eH))] []
def Lj (_:Int) (_:Int):Int→Ex×St:=fun x=>(.exit 0,bT [(0,(.i x))] [])
def agv (s:St):Tre (Ex×St):=
 aF true .n (s.tmps 0) fun d2=>
 aF true .n (s.tmps 1) fun d4=>
 aF true .n (s.tmps 5) fun d6=>
 .mat (aS (NK d4 d6) d2) fun x=>.ret (Lj d4 d6 x)
def ze:bF:=⟨([0,1,5],[]),([0],[]),agv⟩
def Sb:List (Nat×bF):=[(2,ze)]
theorem YX:∀(bK eH x:Int)(c:St→Option (Ex×St)),den Jk Sb (aV ab5 0) (OX bK eH x) (bZ ze.kp ze.kx c)=(NK bK eH x).run (cu (OX bK eH) (Lj bK eH) c):=fun _ _ _ _=>by
 kernel_rfl
theorem adp:bU Jk Sb (aV ab5 0) ze:=dB fun _ _ _=>aO fun _=>aO fun _=>aO fun _=>fun h e5 e3 e1=>cK (YX _ _) h (by subst_vars;exact aT rfl rfl ⟨e1,e3,e5,trivial⟩ trivial)
def anq:FnI:=fnI Tryz.f232 Sb
def Vj (_:Int) (_:Int):Int→au:=fun r=>⟨(.i r),[],[]⟩
theorem akJ:∀(p0 p1:Int),bH Jk anq ⟨[(.i p0),(.i p1)],[]⟩=(ajc p0 p1).run fun r=>some (Vj p0 p1 r):=fun _ _=>by kernel_rfl
def anp (av:List AV) (rs:List Root):Tre au:=
 aB av fun a0_ av0=>
 aB av0 fun a1_ av1=>
 aJ av1<|
 aJ rs<|
 aF true .n a0_ fun d1=>
 aF true .n a1_ fun d2=>
 .mat (Sc d1 d2) fun r=>.ret (Vj d1 d2 r)
def Sd:Ctr:=dx [] anp
theorem YZ:Contract Tryz.prog .none 232 Sd:=aC (V:=Jk) aR (ak Gf aoF aH) Tryz.func232 (bM (n:=1) fun k hk=>by
 match k,hk with
 |0,_=>exact bP (id:=2) adp) fun _ _ _=>aI fun _ _=>aI fun _ _=>aZ<|aZ<|aO fun _=>aO fun _=>fun h=>by intros;subst_vars;exact aW (akJ _ _) h
def nY (pz:Int) (Qo:Int):Int→Tre (Int ⊕ (Bool ⊕ Unit)):=fun s5=>
 .mat (nN s5) fun r2=>
 .cond (decide (r2<Qo))
  (.mat (Sc pz s5) fun r3=>
  .cond (decide (r3=0))
   (.ret (.inr (.inl false)))
   (.ret (.inl (aL .i64 (s5+1)))))
  (.ret (.inr (.inr ())))
def Lh (p0:Int):Tre Bool:=
 .mat (nN p0) fun r1=>
 .cond (decide (r1<1))
  (.ret false)
  (.cond (decide (r1>5))
   (.ret false)
   (.mat (aS (nY p0 r1) 2) fun l4=>
   .alt l4
    (fun a5=>
     .ret a5)
    (fun _=>
     .ret true)))
def wZ (p0:Int):Option Bool:=(Lh p0).run some
def pX:Env:=⟨tau,[(199,Bq),(232,Sd)],[]⟩
def Gi:Code:=(Tryz.f217.body).getD .skip
def pY (pz:Int) (Qo:Int):Int→St:=fun x=>bT [(0,(.i pz)),(3,(.i Qo)),(4,(.i x))] []
def j5 (_:Int) (_:Int):(Bool ⊕ Unit)→Ex×St
 |.inl x=>(.ret,bT [(2,(.imm true .bool x))] [])
 |.inr _=>(.exit 0,bT [(2,.dead)] [])
def Aa (s:St):Tre (Ex×St):=
 aF true .n (s.tmps 0) fun d2=>
 aF true .n (s.tmps 3) fun d4=>
 aF true .n (s.tmps 4) fun d6=>
 .mat (aS (nY d2 d4) d6) fun x=>.alt x (fun a0=>.ret (j5 d2 d4 (.inl a0))) (fun b0=>.ret (j5 d2 d4 (.inr b0)))
def jv:bF:=⟨([0,3,4],[]),([2],[]),Aa⟩
def wY:List (Nat×bF):=[(5,jv)]
theorem J9:∀(pz Qo x:Int)(c:St→Option (Ex×St)),den pX wY (aV Gi 0) (pY pz Qo x) (bZ jv.kp jv.kx c)=(nY pz Qo x).run (cu (pY pz Qo) (j5 pz Qo) c):=fun _ _ _ _=>by
 kernel_rfl
theorem NG:bU pX wY (aV Gi 0) jv:=fq fun s e s' h=>by
 generalize hs:restrict jv.kp s=s1 at h
 have h:(Aa s1).run some=some (e,s'):=h
 obtain ⟨d2,e1,h_0⟩:=bO h
 obtain ⟨d4,e3,h_1⟩:=bO h_0
 obtain ⟨d6,e5,h_2⟩:=bO h_1
 obtain ⟨y,hy,hz⟩:=iA h_2
 refine ⟨_,_,pY d2 d4,j5 d2 d4,nY d2 d4,d6,y,?_,hy,?_,J9 d2 d4⟩
 ·subst hs;exact aT (T:=[(0,(.i d2)),(3,(.i d4)),(4,(.i d6))]) (U:=[]) rfl rfl ⟨e1,e3,e5,trivial⟩ trivial
 ·rcases y with x|x<;>exact Option.some.inj hz
def WO:FnI:=fnI Tryz.f217 wY
def Cz (_:Int):Bool→au:=fun r=>⟨(.imm true .bool r),[],[]⟩
theorem Ut:∀(p0:Int),bH pX WO ⟨[(.i p0)],[]⟩=(Lh p0).run fun r=>some (Cz p0 r):=fun _=>by kernel_rfl
def WM (av:List AV) (rs:List Root):Tre au:=
 aB av fun a0_ av0=>
 aJ av0<|
 aJ rs<|
 aF true .n a0_ fun d1=>
 .mat (wZ d1) fun r=>.ret (Cz d1 r)
def w9:Ctr:=dx [] WM
theorem D8:Contract Tryz.prog .none 217 w9:=aC (V:=pX) aR (ak Gf aoF (ak YZ ato aH)) Tryz.func217 (bM (n:=1) fun k hk=>by
 match k,hk with
 |0,_=>exact bP (id:=5) NG) fun _ _ _=>aI fun _ _=>aZ<|aZ<|aO fun _=>fun h=>by intros;subst_vars;exact aW (Ut _) h
-- shared
def allI{α:Type}(p:Nat→α→Bool):Nat→List α→Bool
 |_,[]=>true
 |i,x::l=>p i x&&allI p (i+1) l
theorem an5{α:Type}{p:α→Bool}:∀(l:List α)(i:Nat),allI (fun _ x=>p x) i l=l.all p:=by
 intro l
 induction l with
 |nil=>intro i;rfl
 |cons x l ih=>intro i;simp only [allI,List.all_cons,ih]
theorem aoL{α β:Type}{p:Nat→α→Bool}{b0 b1:β}:∀(l:List α)(i:Nat),xD (γ:=Unit) (fun i _ x=>cond (p i x) (.inl ()) (.inr b0)) (fun _=>b1) i () l=cond (allI p i l) b1 b0:=by
 intro l
 induction l with
 |nil=>intro i;rfl
 |cons x l ih=>
  intro i
  simp only [xD,allI]
  cases p i x with
  |true=>simp only [cond_true,Bool.true_and];exact ih _
  |false=>rfl
theorem asQ{α β:Type}{step:Int→Tre (Int ⊕ β)}{xs:List α}(p:Nat→α→Bool)(b0 b1:β)
  (hs:∀i x,xs[i]?=some x→(∀j y,j<i→xs[j]?=some y→p j y=true)→(step (i:Int)).run some=some (cond (p i x) (.inl ((i+1:Nat):Int)) (.inr b0)))
  (he:(step (xs.length:Int)).run some=some (.inr b1)):aS step 0=some (cond (allI p 0 xs) b1 b0):=by
 have:=oh (xs:=xs) (step:=step) (γ:=Unit) (fun i _=>(i:Int)) (fun i _ x=>cond (p i x) (.inl ()) (.inr b0)) (fun _=>b1) (fun i _=>∀j y,j<i→xs[j]?=some y→p j y=true)
  (by
   intro i acc x hx hI
   refine ⟨?_,?_⟩
   ·rw [hs i x hx hI]
    cases p i x<;>rfl
   ·intro a ha j y hj hy
    cases hp:p i x with
    |false=>rw [hp] at ha;cases ha
    |true=>
     by_cases hji:j=i
     ·subst hji;rw [hx] at hy;cases hy;exact hp
     ·exact hI j y (by omega) hy)
  (fun _ _=>he) xs 0 () rfl (Nat.zero_le _) (by intro j y h;omega)
 rw [←aoL xs 0]
 exact this
theorem air{α β:Type}{step:Int→Tre (Int ⊕ β)}{xs:List α}(p:α→Bool)(b0 b1:β)
  (hs:∀(i:Nat) x,xs[i]?=some x→(step (i:Int)).run some=some (cond (p x) (.inl ((i+1:Nat):Int)) (.inr b0)))
  (he:(step (xs.length:Int)).run some=some (.inr b1)):aS step 0=some (cond (xs.all p) b1 b0):=by
 rw [←an5 xs 0]
 exact asQ (fun _ x=>p x) b0 b1 (fun i x hx _=>hs i x hx) he
theorem atF{α:Type}{p:α→Bool}(l:List α):(!decide (lW (fun x=>!p x) 0 l ≥ 0))=l.all p:=by
 rw [al8]
 induction l with
 |nil=>rfl
 |cons x l ih=>simp only [List.any_cons,List.all_cons,←ih,Bool.not_or,Bool.not_not]
def aun{α β:Type}(f:Nat→α→Option β):Nat→List α→List β
 |_,[]=>[]
 |i,x::l=>match f i x with
  |some y=>y::aun f (i+1) l
  |none=>aun f (i+1) l
def Kk(l:List (List Int)):Nat:=l.length+(l.map List.length).sum
theorem Ta(l:List (List Int)):l.flatten.length≤Kk l:=by
 unfold Kk
 rw [List.length_flatten]
 omega
theorem len2{e:List Int}(h:e.length=2):∃a b,e=[a,b]:=by
 match e,h with
 |[a,b],_=>exact ⟨a,b,rfl⟩
-- shared
abbrev TF3:=Int×Int×Unit
def aer:List (Int×Int):=[(1,2),(1,3),(2,7),(3,11),(3,13),(4,19),(4,25),(4,31),(5,37),(5,41),(5,47),(5,55),(5,59),(5,61)]
def aQ(f:TF3):Bool:=aer.contains (f.1,f.2.1)
theorem Qk{f:TF3}(h:aQ f=true):(f.1,f.2.1)∈aer:=by simpa [aQ] using h
theorem dM{f:TF3}(h:aQ f=true):1≤f.1∧f.1≤5:=by
 have h:=Qk h
 have:∀x∈aer,1≤x.1∧x.1≤5:=by decide
 exact this _ h
theorem ajA{f:TF3}(h:aQ f=true):2≤f.2.1∧f.2.1≤61:=by
 have h:=Qk h
 have:∀x∈aer,2≤x.2∧x.2≤61:=by decide
 exact this _ h
theorem alQ{F:TF3→Option Bool}(hd:∀f:TF3,inR f.1 1 5=false→F f=some false)
  (hb:∀f:TF3,(f.2.1<0∨64≤f.2.1)→F f=some false)
  (hk:((List.range' 1 5).all fun d=>(List.range 64).all fun p=>F ((d:Int),(p:Int),()) == some (aQ ((d:Int),(p:Int),())))=true) (f:TF3):F f=some (aQ f):=by
 have hno:∀g:TF3,(¬(1≤g.1∧g.1≤5)∨¬(0≤g.2.1∧g.2.1<64))→aQ g=false:=by
  intro g hg
  cases h:aQ g with
  |false=>rfl
  |true=>
   have h1:=dM h
   have h2:=ajA h
   omega
 obtain ⟨d,p,⟨⟩⟩:=f
 by_cases h1:1≤d∧d≤5
 ·by_cases h2:0≤p∧p<64
  ·obtain ⟨n,rfl⟩:=Int.eq_ofNat_of_zero_le (show 0≤d by omega)
   obtain ⟨m,rfl⟩:=Int.eq_ofNat_of_zero_le h2.1
   have h3:=List.all_eq_true.1 (List.all_eq_true.1 hk n (List.mem_range'_1.2 (by omega))) m (List.mem_range.2 (by omega))
   exact eq_of_beq h3
  ·rw [hb _ (by show p<0∨64≤p;omega),hno _ (.inr h2)]
 ·rw [hd _ (arH.2 (by show d<1∨5<d;omega)),hno _ (.inl h1)]
-- shared
def azw:Nat→Nat→Nat→Nat
 |0,_,_=>0
 |n+1,a,b=>Nat.xor (bif Nat.beq (b%2) 1 then a else 0) (azw n (2*a) (b/2))
def axq:Nat→Nat→Nat→Nat
 |0,c,_=>c
 |n+1,c,p=>bif Nat.ble (Nat.log2 p) (Nat.log2 c) then axq n (Nat.xor c (Nat.shiftLeft p (Nat.log2 c-Nat.log2 p))) p else c
def mulN(p a b:Nat):Nat:=axq 6 (azw 6 a b) p
def gX(f:TF3)(a b:Int):Int:=((mulN f.2.1.toNat a.toNat b.toNat:Nat):Int)
def inF(f:TF3)(a:Int):Prop:=0≤a∧a<((2 ^ f.1.toNat:Nat):Int)
def jc:List (Nat×Nat):=[(1,2),(1,3),(2,7),(3,11),(3,13),(4,19),(4,25),(4,31),(5,37),(5,41),(5,47),(5,55),(5,59),(5,61)]
def yc(F:TF3→Int→Int→Option Int)(G:Nat→Nat→Nat→Nat)(d p:Nat):Bool:=(List.range (2 ^ d)).all fun a=>(List.range (2 ^ d)).all fun b=>F ((d:Int),(p:Int),()) (a:Int) (b:Int) == some ((G p a b:Nat):Int)
theorem Al{f:TF3}(h:aQ f=true):∃d p:Nat,(d,p)∈jc∧f=((d:Int),(p:Int),()):=by
 have h1:=Qk h
 obtain ⟨a,b,⟨⟩⟩:=f
 have key:∀x∈aer,∃q∈jc,x=((q.1:Int),(q.2:Int)):=by decide
 obtain ⟨q,h2,h3⟩:=key _ h1
 simp only [Prod.mk.injEq] at h3
 exact ⟨q.1,q.2,h2,by rw [h3.1,h3.2]⟩
theorem auL{F:TF3→Int→Int→Option Int}{G:Nat→Nat→Nat→Nat}(h:∀q∈jc,yc F G q.1 q.2=true){f:TF3}(hf:aQ f=true){a b:Int}(ha:inF f a)(hb:inF f b):F f a b=some ((G f.2.1.toNat a.toNat b.toNat:Nat):Int):=by
 obtain ⟨d,p,hq,rfl⟩:=Al hf
 obtain ⟨ha0,ha1⟩:=ha
 obtain ⟨hb0,hb1⟩:=hb
 simp only [Int.toNat_natCast] at ha1 hb1
 obtain ⟨m,rfl⟩:=Int.eq_ofNat_of_zero_le ha0
 obtain ⟨n,rfl⟩:=Int.eq_ofNat_of_zero_le hb0
 have h1:=List.all_eq_true.1 (List.all_eq_true.1 (h _ hq) m (List.mem_range.2 (by exact_mod_cast ha1))) n (List.mem_range.2 (by exact_mod_cast hb1))
 exact eq_of_beq h1
def Gg (bI:Int):(Int×(List (Int×(Int×Unit))))→Tre ((Int×(List (Int×(Int×Unit)))) ⊕ (List (Int×(Int×Unit)))):=fun s3=>
 .ite (0≤aL .u64 bI)<|
 let v2:=rX .i64 2 (aL .u64 bI)
 .cond (decide (s3.1<v2))
  (.mat (wZ s3.1) fun r3=>
  .cond r3
   (.ite ((s3.2.length+1)*16≤bQ∧1≤16)<|
   let v4:=s3.2++([(bI,(s3.1,()))])
   .ret (.inl (aL .i64 (s3.1+1),v4)))
   (.ret (.inl (aL .i64 (s3.1+1),s3.2))))
  (.ret (.inr s3.2))
def ab3 (p0:Int):Tre (List (Int×(Int×Unit))):=
 .ite (0≤aL .u64 p0)<|
 let v1:=rX .i64 1 (aL .u64 p0)
 .mat (aS (Gg p0) (v1,[])) fun l5=>
 .ret l5
def Br (p0:Int):Option (List (Int×(Int×Unit))):=(ab3 p0).run some
-- more
def Ih(d:Nat):List TF3:=(jc.filter fun q=>q.1 == d).map fun q=>((q.1:Int),(q.2:Int),())
theorem aoJ:((List.range' 1 5).all fun d=>Br (d:Int) == some (Ih d))=true:=by kernel_rfl
theorem arw{d:Nat}(h1:1≤d)(h2:d≤5):Br (d:Int)=some (Ih d):=by
 have:=List.all_eq_true.1 aoJ d (List.mem_range'_1.2 (by omega))
 exact eq_of_beq this
theorem aoI{d:Nat}(h1:1≤d)(h2:d≤5):1≤(Ih d).length∧(Ih d).length≤6∧∀f∈Ih d,aQ f=true∧f.1=(d:Int):=by
 have:∀d∈List.range' 1 5,1≤(Ih d).length∧(Ih d).length≤6∧∀f∈Ih d,aQ f=true∧f.1=(d:Int):=by decide
 exact this d (List.mem_range'_1.2 (by omega))
def Bt:Env:=⟨tau,[(217,w9)],[]⟩
def Vh:Code:=(Tryz.f165.body).getD .skip
def Ji (bI:Int):(Int×(List (Int×(Int×Unit))))→St:=fun x=>bT [(0,(.i bI)),(3,(.ref (5,0) [])),(4,(.i x.1))] [((5,0),some ⟨false,(.sl aM),.own,x.2⟩)]
def Gh (_:Int):(List (Int×(Int×Unit)))→Ex×St:=fun x=>(.exit 0,bT [(3,(.ref (5,0) []))] [((5,0),some ⟨false,(.sl aM),.own,x⟩)])
def aaV (s:St):Tre (Ex×St):=
 aF true .n (s.tmps 0) fun d2=>
 fQ (5,0) [] (s.tmps 3)<|
 aF true .n (s.tmps 4) fun d5=>
 bq false (.sl aM) (s.roots (5,0)) fun m7 d8=>
 asM .own m7<|
 .mat (aS (Gg d2) (d5,d8)) fun x=>.ret (Gh d2 x)
def uD:bF:=⟨([0,3,4],[(5,0)]),([3],[(5,0)]),aaV⟩
def J8:List (Nat×bF):=[(3,uD)]
theorem Us:∀(bI:Int)(x:(Int×(List (Int×(Int×Unit)))))(c:St→Option (Ex×St)),den Bt J8 (aV Vh 0) (Ji bI x) (bZ uD.kp uD.kx c)=(Gg bI x).run (cu (Ji bI) (Gh bI) c):=fun _ _ _=>by
 kernel_rfl
theorem YR:bU Bt J8 (aV Vh 0) uD:=dB fun _ _ _=>aO fun _=>nR<|aO fun _=>cO fun _ _=>tM<|fun h _ e6 e4 e3 e1=>cK (Us _) h (by subst_vars;exact aT rfl rfl ⟨e1,e3,e4,trivial⟩ ⟨e6,trivial⟩)
def ah8:FnI:=fnI Tryz.f165 J8
def OV (_:Int):(List (Int×(Int×Unit)))→au:=fun r=>⟨(.ref (1,0) []),[],[⟨false,(.sl aM),.own,r⟩]⟩
theorem agl:∀(p0:Int),bH Bt ah8 ⟨[(.i p0)],[]⟩=(ab3 p0).run fun r=>some (OV p0 r):=fun _=>by kernel_rfl
def ah7 (av:List AV) (rs:List Root):Tre au:=
 aB av fun a0_ av0=>
 aJ av0<|
 aJ rs<|
 aF true .n a0_ fun d1=>
 .mat (Br d1) fun r=>.ret (OV d1 r)
def Vi:Ctr:=dx [] ah7
theorem agm:Contract Tryz.prog .none 165 Vi:=aC (V:=Bt) aR (ak D8 atm aH) Tryz.func165 (bM (n:=1) fun k hk=>by
 match k,hk with
 |0,_=>exact bP (id:=3) YR) fun _ _ _=>aI fun _ _=>aZ<|aZ<|aO fun _=>fun h=>by intros;subst_vars;exact aW (agl _) h
-- shared
def fu{α:Type}(t:Tre α)(Q:α→Prop):Prop:=∃a,t.run some=some a∧Q a
theorem fu.ret{α:Type}{a:α}{Q:α→Prop}(h:Q a):fu (.ret a) Q:=⟨a,rfl,h⟩
theorem fu.cond{α:Type}{b:Bool}{t f:Tre α}{Q:α→Prop}(ht:b=true→fu t Q)(hf:b=false→fu f Q):fu (.cond b t f) Q:=by
 cases b
 ·exact hf rfl
 ·exact ht rfl
theorem fu.aiE{α:Type}{p:Prop} [Decidable p] {t f:Tre α} {Q:α→Prop} (ht:p→fu t Q) (hf:¬p→fu f Q):fu (.cond (decide p) t f) Q:=
 fu.cond (fun h=>ht (of_decide_eq_true h)) (fun h=>hf (of_decide_eq_false h))
theorem fu.ite{α:Type}{p:Prop} [h:Decidable p] {t:Tre α} {Q:α→Prop} (hp:p) (ht:p→fu t Q):fu (.ite p t) Q:=by
 obtain ⟨a,h1,h2⟩:=ht hp
 exact ⟨a,by rw [Tre.run_ite,if_pos hp];exact h1,h2⟩
theorem fu.ifn{α:Type}{p:Prop} [h:Decidable p] {t:Tre α} {Q:α→Prop} (hp:¬p) (ht:fu t Q):fu (.ifn p t) Q:=by
 obtain ⟨a,h1,h2⟩:=ht
 exact ⟨a,by rw [Tre.YE,if_neg hp];exact h1,h2⟩
theorem fu.mat{α β:Type}{o:Option β}{k:β→Tre α}{P:β→Prop}{Q:α→Prop}(h:∃x,o=some x∧P x)(hk:∀x,P x→fu (k x) Q):fu (.mat o k) Q:=by
 obtain ⟨x,rfl,hx⟩:=h
 exact hk x hx
theorem fu.get{α β:Type}{o:Option β}{x:β}{k:β→Tre α}{Q:α→Prop}(h:o=some x)(hk:fu (k x) Q):fu (.mat o k) Q:=by
 subst h;exact hk
theorem fu.at{α β:Type}{xs:List β}{i:Int}{k:β→Tre α}{Q:α→Prop}(hi:0≤i∧i<(xs.length:Int))(hk:∀x,x∈xs→fu (k x) Q):fu (.mat xs[i.toNat]? k) Q:=by
 have hl:i.toNat<xs.length:=by omega
 exact .get (List.getElem?_eq_getElem hl) (hk _ (List.getElem_mem hl))
theorem fu.at0{α β:Type}{xs:List β}{k:β→Tre α}{Q:α→Prop}(hi:0<xs.length)(hk:∀x,x∈xs→fu (k x) Q):fu (.mat xs[0]? k) Q:=
 .get (List.getElem?_eq_getElem hi) (hk _ (List.getElem_mem hi))
theorem fu.run{α:Type}{t:Tre α}{Q:α→Prop}(h:fu t Q):∃a,t.run some=some a∧Q a:=h
abbrev Src:=List Int×Int×Int×Unit
def vZ(c:Nat)(s:Src):Prop:=s.1.length≤5000∧(∀x∈s.1,0≤x∧x≤255)∧0≤s.2.1∧s.2.1≤(c:Int)
theorem vZ.mono{c c':Nat}{s:Src}(h:vZ c s)(hc:c≤c'):vZ c' s:=⟨h.1,h.2.1,h.2.2.1,by have:=h.2.2.2;omega⟩
theorem axx(a:Int):0≤Nb .u64 a 255∧Nb .u64 a 255≤255:=by
 have h:(BitVec.ofInt 64 a&&&BitVec.ofInt 64 255).toNat≤255:=by
  rw [BitVec.toNat_and]
  exact Nat.le_trans Nat.and_le_right (by decide)
 unfold Nb
 show 0≤aL .u64 (((BitVec.ofInt 64 a&&&BitVec.ofInt 64 255).toNat:Nat):Int)∧aL .u64 (((BitVec.ofInt 64 a&&&BitVec.ofInt 64 255).toNat:Nat):Int)≤255
 rw [ER (by omega) (by omega)]
 omega
theorem aqi{c:Nat}{s:Src}(h:vZ c s)(hc:c≤100000):∃r,jP s=some r∧((0≤r.1∧r.1≤255)∧vZ (c+1) r.2):=by
 obtain ⟨h1,h2,h3,h4⟩:=h
 have hw:aL .i64 (s.2.1+1)=s.2.1+1:=bY (by omega) (by omega)
 have hsrc:∀v:Int,vZ (c+1) (s.1,aL .i64 (s.2.1+1),v,s.2.2.2):=fun v=>⟨h1,h2,by show 0≤aL .i64 (s.2.1+1);omega,by show aL .i64 (s.2.1+1)≤((c+1:Nat):Int);omega⟩
 have hand:∀a:Int,0≤aL .i64 (Nb .u64 a 255)∧aL .i64 (Nb .u64 a 255)≤255:=fun a=>by
  have:=axx a
  rw [bY (by omega) (by omega)];exact this
 unfold jP wW
 refine fu.run (fu.aiE (fun hlt=>fu.ite ⟨h3,hlt⟩ fun hi=>fu.at hi fun x hx=>?_) (fun _=>?_))
 ·have hb:=h2 x hx
  have hx1:aL .i64 x=x:=bY (by omega) (by omega)
  exact fu.aiE (fun _=>.ret ⟨by rw [hx1];exact hb,hsrc _⟩) (fun _=>.ret ⟨hand _,hsrc _⟩)
 ·exact fu.aiE (fun _=>.ret ⟨⟨Int.le_refl 0,by show (0:Int)≤255;omega⟩,hsrc _⟩) (fun _=>.ret ⟨hand _,hsrc _⟩)
theorem anS{x n:Int}(hx:0≤x)(hn:0<n):0≤Int.tmod x n∧Int.tmod x n<n:=⟨Int.tmod_nonneg n hx,Int.tmod_lt_of_pos x hn⟩
theorem Ny{n:Int}{c:Nat}{s:Src}(h:vZ c s)(hc:c≤90000):∃r,dO n s=some r∧((0≤r.1∧(r.1=0∨r.1<n))∧vZ (c+2) r.2):=by
 unfold dO wX
 refine fu.run (fu.aiE (fun _=>.ret ⟨⟨Int.le_refl _,.inl rfl⟩,h.mono (by omega)⟩) (fun hn=>fu.mat (aqi h (by omega)) fun x hx=>fu.aiE (fun _=>fu.mat (aqi hx.2 (by omega)) fun y hy=>?_) (fun _=>?_)))
 ·refine fu.ifn (by omega) (.ret ⟨?_,hy.2⟩)
  have h1:aL .i64 (x.1*256)=x.1*256:=bY (by omega) (by omega)
  have h2:aL .i64 (aL .i64 (x.1*256)+y.1)=x.1*256+y.1:=by rw [h1];exact bY (by omega) (by omega)
  show 0≤Int.tmod (aL .i64 (aL .i64 (x.1*256)+y.1)) n∧(Int.tmod (aL .i64 (aL .i64 (x.1*256)+y.1)) n=0∨Int.tmod (aL .i64 (aL .i64 (x.1*256)+y.1)) n<n)
  rw [h2]
  have:=anS (x:=x.1*256+y.1) (n:=n) (by omega) (by omega)
  exact ⟨this.1,.inr this.2⟩
 ·refine fu.ifn (by omega) (.ret ⟨?_,hx.2.mono (by omega)⟩)
  have:=anS (x:=x.1) (n:=n) (by omega) (by omega)
  exact ⟨this.1,.inr this.2⟩
def y9 (p0:Int) (p1:cB):Tre (Bool×cB):=
 .mat (dO p0 p1) fun r1=>
 .ret (decide (r1.1=0),r1.2)
def nX (p0:Int) (p1:cB):Option (Bool×cB):=(y9 p0 p1).run some
def D6:Env:=⟨tau,[(80,iC)],[]⟩
def Uq:FnI:=fnI Tryz.f167 []
def zZ (zp0:Bool) (_:Int) (_:cB):(Bool×cB)→au:=fun r=>⟨(.imm true .bool r.1),[⟨true,gq,(.imm zp0),r.2⟩],[]⟩
theorem RX:∀(zp0:Bool)(p0:Int)(p1:cB),bH D6 Uq ⟨[(.ptr (0,0) []),(.i p0)],[⟨true,gq,(.imm zp0),p1⟩]⟩=(y9 p0 p1).run fun r=>some (zZ zp0 p0 p1 r):=fun _ _ _=>by kernel_rfl
def Uo (av:List AV) (rs:List Root):Tre au:=
 aB av fun a0_ av0=>
 aB av0 fun a1_ av1=>
 aJ av1<|
 aB rs fun r0_ rs0=>
 aJ rs0<|
 dH (0,0) [] a0_<|
 aF true .n a1_ fun d1=>
 iL true gq r0_ fun m2 d3=>
 fI m2 fun z4=>
 .mat (nX d1 d3) fun r=>.ret (zZ z4 d1 d3 r)
def D7:Ctr:=dx [] Uo
theorem RY:Contract Tryz.prog .none 167 D7:=aC (V:=D6) aR (ak jr alP aH) Tryz.func167 bn fun _ _ _=>aI fun _ _=>aI fun _ _=>aZ<|aI fun _ _=>aZ<|gy<|aO fun _=>tRt fun _ _=>nQ fun _=>fun h=>by intros;subst_vars;exact aW (RX _ _ _) h
-- shared
theorem ay5{n:Int}{c:Nat}{s:Src}(h:vZ c s)(hc:c≤90000):∃r,nX n s=some r∧vZ (c+2) r.2:=by
 unfold nX y9
 exact fu.run (fu.mat (Ny h hc) fun x hx=>.ret hx.2)
def u7 (p0:Int) (p1:cB):Tre ((Int×(Int×Unit))×cB):=
 .mat (dO p0 p1) fun r1=>
 .mat (Br (aL .i64 (1+r1.1))) fun r2=>
 .mat (dO (r2.length:Int) r1.2) fun r3=>
 .ite (0≤r3.1∧r3.1<(r2.length:Int))<|
 .mat (r2[r3.1.toNat]?) fun x4=>
 .ret (x4,r3.2)
def jw (p0:Int) (p1:cB):Option ((Int×(Int×Unit))×cB):=(u7 p0 p1).run some
-- more
theorem Xv{m:Nat}(h1:1≤m)(h2:m≤5){c:Nat}{s:Src}(h:vZ c s)(hc:c≤80000):∃r,jw (m:Int) s=some r∧((aQ r.1=true∧1≤r.1.1∧r.1.1≤(m:Int))∧vZ (c+4) r.2):=by
 unfold jw u7
 refine fu.run (fu.mat (Ny h (by omega)) fun a ha=>?_)
 obtain ⟨d,hd⟩:∃d:Nat,a.1=(d:Int):=⟨a.1.toNat,by omega⟩
 have hw:aL .i64 (1+a.1)=((d+1:Nat):Int):=by rw [bY (by omega) (by omega)];omega
 have hf:=aoI (d:=d+1) (by omega) (by omega)
 rw [hw]
 refine fu.get (arw (by omega) (by omega)) (fu.mat (Ny ha.2 (by omega)) fun b hb=>fu.ite ⟨hb.1.1,by omega⟩ fun hi=>fu.at hi fun x hx=>.ret ?_)
 have:=hf.2.2 x hx
 exact ⟨⟨this.1,by show 1≤x.1;omega,by show x.1≤_;omega⟩,hb.2⟩
def Ab:Env:=⟨tau,[(80,iC),(165,Vi)],[]⟩
def PU:FnI:=fnI Tryz.f78 []
def xS (zp0:Bool) (_:Int) (_:cB):((Int×(Int×Unit))×cB)→au:=fun r=>⟨(.imm true aM r.1),[⟨true,gq,(.imm zp0),r.2⟩],[]⟩
theorem NS:∀(zp0:Bool)(p0:Int)(p1:cB),bH Ab PU ⟨[(.ptr (0,0) []),(.i p0)],[⟨true,gq,(.imm zp0),p1⟩]⟩=(u7 p0 p1).run fun r=>some (xS zp0 p0 p1 r):=fun _ _ _=>by kernel_rfl
def PS (av:List AV) (rs:List Root):Tre au:=
 aB av fun a0_ av0=>
 aB av0 fun a1_ av1=>
 aJ av1<|
 aB rs fun r0_ rs0=>
 aJ rs0<|
 dH (0,0) [] a0_<|
 aF true .n a1_ fun d1=>
 iL true gq r0_ fun m2 d3=>
 fI m2 fun z4=>
 .mat (jw d1 d3) fun r=>.ret (xS z4 d1 d3 r)
def qO:Ctr:=dx [] PS
theorem zu:Contract Tryz.prog .none 78 qO:=aC (V:=Ab) aR (ak jr alP (ak agm axM aH)) Tryz.func78 bn fun _ _ _=>aI fun _ _=>aI fun _ _=>aZ<|aI fun _ _=>aZ<|gy<|aO fun _=>tRt fun _ _=>nQ fun _=>fun h=>by intros;subst_vars;exact aW (NS _ _ _) h
def aaR (p0:List Int) (p1:Int):Tre (Int×(Int×Unit)):=
 .mat (jw p1 (p0,(0,(0,())))) fun r1=>
 .ret r1.1
def Cu (p0:List Int) (p1:Int):Option (Int×(Int×Unit)):=(aaR p0 p1).run some
-- more
theorem apj{code:List Int}(hl:code.length≤5000)(hc:∀x∈code,0≤x∧x≤255){m:Nat}(h1:1≤m)(h2:m≤5):∃r,Cu code (m:Int)=some r∧(aQ r=true∧1≤r.1∧r.1≤(m:Int)):=by
 have h0:vZ 0 (code,0,0,()):=⟨hl,hc,Int.le_refl _,Int.le_refl _⟩
 unfold Cu aaR
 exact fu.run (fu.mat (Xv h1 h2 h0 (by decide)) fun a ha=>.ret ha.1)
def abU:Env:=⟨tau,[(79,Cv),(78,qO)],[]⟩
def am3:FnI:=fnI Tryz.f21 []
def Vb (_:Bool) (_:List Int) (_:Int):(Int×(Int×Unit))→au:=fun r=>⟨(.imm true aM r),[],[]⟩
theorem akz:∀(zp0:Bool)(p0:List Int)(p1:Int),bH abU am3 ⟨[(.imm zp0 (.sl (.int .u8)) p0),(.i p1)],[]⟩=(aaR p0 p1).run fun r=>some (Vb zp0 p0 p1 r):=fun _ _ _=>by kernel_rfl
def am2 (av:List AV) (rs:List Root):Tre au:=
 aB av fun a0_ av0=>
 aB av0 fun a1_ av1=>
 aJ av1<|
 aJ rs<|
 bB (.sl (.int .u8)) a0_ fun z2 d1=>
 aF true .n a1_ fun d3=>
 .mat (Cu d1 d3) fun r=>.ret (Vb z2 d1 d3 r)
def abV:Ctr:=dx [] am2
theorem akA:Contract Tryz.prog .none 21 abV:=aC (V:=abU) aR (ak EJ ap2 (ak zu awT aH)) Tryz.func21 bn fun _ _ _=>aI fun _ _=>aI fun _ _=>aZ<|aZ<|dF fun _ _=>aO fun _=>fun h=>by intros;subst_vars;exact aW (akz _ _ _) h
def af2 (p0:List Int) (p1:Int):Tre Int:=
 .mat (dO p1 (p0,(0,(0,())))) fun r1=>
 .ret r1.1
def NA (p0:List Int) (p1:Int):Option Int:=(af2 p0 p1).run some
-- more
theorem ar1{code:List Int}(hl:code.length≤5000)(hc:∀x∈code,0≤x∧x≤255)(n:Int):∃r,NA code n=some r∧(0≤r∧(r=0∨r<n)):=by
 have h0:vZ 0 (code,0,0,()):=⟨hl,hc,Int.le_refl _,Int.le_refl _⟩
 unfold NA af2
 exact fu.run (fu.mat (Ny h0 (by omega)) fun a ha=>.ret ha.1)
def af3:Env:=⟨tau,[(79,Cv),(80,iC)],[]⟩
def apr:FnI:=fnI Tryz.f22 []
def YL (_:Bool) (_:List Int) (_:Int):Int→au:=fun r=>⟨(.i r),[],[]⟩
theorem am4:∀(zp0:Bool)(p0:List Int)(p1:Int),bH af3 apr ⟨[(.imm zp0 (.sl (.int .u8)) p0),(.i p1)],[]⟩=(af2 p0 p1).run fun r=>some (YL zp0 p0 p1 r):=fun _ _ _=>by kernel_rfl
def apq (av:List AV) (rs:List Root):Tre au:=
 aB av fun a0_ av0=>
 aB av0 fun a1_ av1=>
 aJ av1<|
 aJ rs<|
 bB (.sl (.int .u8)) a0_ fun z2 d1=>
 aF true .n a1_ fun d3=>
 .mat (NA d1 d3) fun r=>.ret (YL z2 d1 d3 r)
def af4:Ctr:=dx [] apq
theorem am5:Contract Tryz.prog .none 22 af4:=aC (V:=af3) aR (ak EJ ap2 (ak jr alP aH)) Tryz.func22 bn fun _ _ _=>aI fun _ _=>aI fun _ _=>aZ<|aZ<|dF fun _ _=>aO fun _=>fun h=>by intros;subst_vars;exact aW (am4 _ _ _) h
def TP (p0:(Int×(Int×Unit))):Tre Int:=
 .ite (0≤aL .u64 p0.1)<|
 let v1:=rX .i64 1 (aL .u64 p0.1)
 .ret v1
def iD (p0:(Int×(Int×Unit))):Option Int:=(TP p0).run some
def ab6:Env:=⟨tau,[],[]⟩
def ant:FnI:=fnI Tryz.f137 []
def Vk (_:(Int×(Int×Unit))):Int→au:=fun r=>⟨(.i r),[],[]⟩
theorem akK:∀(p0:(Int×(Int×Unit))),bH ab6 ant ⟨[(.imm true aM p0)],[]⟩=(TP p0).run fun r=>some (Vk p0 r):=fun _=>by kernel_rfl
def anr (av:List AV) (rs:List Root):Tre au:=
 aB av fun a0_ av0=>
 aJ av0<|
 aJ rs<|
 aF true aM a0_ fun d1=>
 .mat (iD d1) fun r=>.ret (Vk d1 r)
def xR:Ctr:=dx [] anr
theorem zf:Contract Tryz.prog .none 137 xR:=aC (V:=ab6) aR aH Tryz.func137 bn fun _ _ _=>aI fun _ _=>aZ<|aZ<|aO fun _=>fun h=>by intros;subst_vars;exact aW (akK _) h
-- shared
def aAi(p a:Nat):Nat→Nat
 |0=>1
 |n+1=>mulN p (aAi p a n) a
def qN(d p a:Nat):Nat:=aAi p a (2 ^ d-2)
def yT(f:TF3)(a:Int):Int:=((qN f.1.toNat f.2.1.toNat a.toNat:Nat):Int)
def xZ(F:TF3→Int→Option Int)(G:Nat→Nat→Nat→Nat)(d p:Nat):Bool:=(List.range (2 ^ d)).all fun a=>F ((d:Int),(p:Int),()) (a:Int) == some ((G d p a:Nat):Int)
theorem auk{F:TF3→Int→Option Int}{G:Nat→Nat→Nat→Nat}(h:∀q∈jc,xZ F G q.1 q.2=true){f:TF3}(hf:aQ f=true){a:Int}(ha:inF f a):F f a=some ((G f.1.toNat f.2.1.toNat a.toNat:Nat):Int):=by
 obtain ⟨d,p,hq,rfl⟩:=Al hf
 obtain ⟨ha0,ha1⟩:=ha
 simp only [Int.toNat_natCast] at ha1
 obtain ⟨m,rfl⟩:=Int.eq_ofNat_of_zero_le ha0
 have h1:=List.all_eq_true.1 (h _ hq) m (List.mem_range.2 (by exact_mod_cast ha1))
 exact eq_of_beq h1
def atU(d p:Nat):Bool:=(List.range (2 ^ d)).all fun a=>(List.range (2 ^ d)).all fun b=>Nat.blt (mulN p a b) (2 ^ d)&&Nat.beq (mulN p a b) (mulN p b a)
def atJ(d p:Nat):Bool:=(List.range (2 ^ d)).all fun a=>Nat.blt (qN d p a) (2 ^ d)&&(Nat.beq a 0||Nat.beq (mulN p a (qN d p a)) 1)
theorem Yj:(jc.all fun q=>atU q.1 q.2)=true:=by kernel_rfl
theorem X7:(jc.all fun q=>atJ q.1 q.2)=true:=by kernel_rfl
theorem AB{f:TF3}(hf:aQ f=true){a b:Int}(ha:inF f a)(hb:inF f b):inF f (gX f a b)∧gX f a b=gX f b a:=by
 obtain ⟨d,p,hq,rfl⟩:=Al hf
 obtain ⟨ha0,ha1⟩:=ha
 obtain ⟨hb0,hb1⟩:=hb
 simp only [Int.toNat_natCast] at ha1 hb1
 obtain ⟨m,rfl⟩:=Int.eq_ofNat_of_zero_le ha0
 obtain ⟨n,rfl⟩:=Int.eq_ofNat_of_zero_le hb0
 have h0:=List.all_eq_true.1 Yj _ hq
 have h1:=List.all_eq_true.1 (List.all_eq_true.1 h0 m (List.mem_range.2 (by exact_mod_cast ha1))) n (List.mem_range.2 (by exact_mod_cast hb1))
 rw [Bool.and_eq_true] at h1
 have h2:mulN p m n<2 ^ d:=Nat.le_of_ble_eq_true h1.1
 have h3:mulN p m n=mulN p n m:=Nat.eq_of_beq_eq_true h1.2
 refine ⟨⟨Int.natCast_nonneg _,?_⟩,?_⟩
 ·show ((mulN p m n:Nat):Int)<_
  simp only [Int.toNat_natCast]
  exact_mod_cast h2
 ·show ((mulN p m n:Nat):Int)=((mulN p n m:Nat):Int)
  rw [h3]
theorem Av{f:TF3}(hf:aQ f=true){a:Int}(ha:inF f a):inF f (yT f a)∧(a≠0→gX f a (yT f a)=1):=by
 obtain ⟨d,p,hq,rfl⟩:=Al hf
 obtain ⟨ha0,ha1⟩:=ha
 simp only [Int.toNat_natCast] at ha1
 obtain ⟨m,rfl⟩:=Int.eq_ofNat_of_zero_le ha0
 have h0:=List.all_eq_true.1 X7 _ hq
 have h1:=List.all_eq_true.1 h0 m (List.mem_range.2 (by exact_mod_cast ha1))
 rw [Bool.and_eq_true,Bool.or_eq_true] at h1
 have h2:qN d p m<2 ^ d:=Nat.le_of_ble_eq_true h1.1
 refine ⟨⟨Int.natCast_nonneg _,?_⟩,fun hne=>?_⟩
 ·show ((qN d p m:Nat):Int)<_
  simp only [Int.toNat_natCast]
  exact_mod_cast h2
 ·rcases h1.2 with h|h
  ·exact absurd (by rw [Nat.eq_of_beq_eq_true h];rfl) hne
  ·show ((mulN p m (qN d p m):Nat):Int)=1
   rw [Nat.eq_of_beq_eq_true h];rfl
-- shared
def vC(f:TF3)(u w:List Int)(x:Int):List Int:=(u.zip w).map fun p=>jT .i64 p.1 (gX f p.2 x)
theorem Tn{α β γ:Type}(g:α→γ)(fin:List γ→β):∀(l:List α)(i:Nat)(acc:List γ),xD (fun _ acc x=>(.inl (acc++[g x]):List γ ⊕ β)) fin i acc l=fin (acc++l.map g):=by
 intro l
 induction l with
 |nil=>intro i acc;simp only [xD,List.map_nil,List.append_nil]
 |cons y l ih=>intro i acc;simp only [xD];rw [ih];simp
-- shared
theorem Xy{f:TF3}(hf:aQ f=true):1≤f.1.toNat∧f.1.toNat≤5:=by
 obtain ⟨d,p,hq,rfl⟩:=Al hf
 have:∀q∈jc,1≤q.1∧q.1≤5:=by decide
 exact this _ hq
theorem wH{f:TF3}(hf:aQ f=true){a:Int}(h:inF f a):∃n:Nat,a=(n:Int)∧n<2 ^ f.1.toNat∧n<2 ^ 63:=by
 obtain ⟨h0,h1⟩:=h
 have hd:=(Xy hf).2
 have hp:2 ^ f.1.toNat≤2 ^ 5:=Nat.pow_le_pow_right (by omega) hd
 refine ⟨a.toNat,by omega,by omega,by omega⟩
theorem mW{f:TF3}:inF f 0:=⟨Int.le_refl 0,by exact_mod_cast Nat.two_pow_pos _⟩
theorem aqa{f:TF3}(hf:aQ f=true):inF f 1:=by
 have:2 ^ 1≤2 ^ f.1.toNat:=Nat.pow_le_pow_right (by omega) (Xy hf).1
 exact ⟨by omega,by omega⟩
theorem Nc{f:TF3}(hf:aQ f=true){a b:Int}(ha:inF f a)(hb:inF f b):inF f (jT .i64 a b):=by
 obtain ⟨m,rfl,hm,hm2⟩:=wH hf ha
 obtain ⟨n,rfl,hn,hn2⟩:=wH hf hb
 rw [lJ hm2 hn2]
 exact ⟨Int.natCast_nonneg _,by exact_mod_cast Nat.xor_lt_two_pow hm hn⟩
theorem AX{f:TF3}(hf:aQ f=true){a:Int}(ha:inF f a):jT .i64 0 a=a:=by
 obtain ⟨m,rfl,hm,hm2⟩:=wH hf ha
 have:=lJ (a:=0) (b:=m) (by omega) hm2
 rw [show ((0:Nat):Int)=0 from rfl] at this
 rw [this,Nat.zero_xor]
def GR(f:TF3)(n:Nat)(L:List (List Int)):Prop:=∀r∈L,r.length=n∧∀y∈r,inF f y
def u6(c:Nat)(r:List Int):Bool:=match r[c]? with
 |some x=>!decide (x=0)
 |none=>false
def kK(f:TF3)(c k:Nat)(own:List Int)(i:Nat)(r:List Int):List Int:=match r[c]? with
 |some x=>bif decide (i=k)||decide (x=0) then r else (r.zip own).map fun p=>jT .i64 p.1 (gX f x p.2)
 |none=>r
def Kj(f:TF3)(c:Nat)(row:List Int):List Int:=match row[c]? with
 |some x=>row.map fun y=>gX f y (yT f x)
 |none=>row
def K9(f:TF3)(c k a:Nat)(L:List (List Int)):List (List Int):=match L[k]?,L[a]? with
 |some row,some r0=>(L.set k r0).set a (Kj f c row)
 |_,_=>L
def yg(f:TF3)(c a:Nat)(L:List (List Int)):List (List Int):=match L[a]? with
 |some own=>L.mapIdx (kK f c a own)
 |none=>L
def iM(f:TF3)(c:Nat)(s:Nat×List (List Int)):Nat×List (List Int):=
 bif decide (lW (u6 c) s.1 (s.2.drop s.1)<0) then s else (s.1+1,yg f c s.1 (K9 f c (lW (u6 c) s.1 (s.2.drop s.1)).toNat s.1 s.2))
def jW(f:TF3):Nat→Nat→Nat×List (List Int)→Nat×List (List Int)
 |_,0,s=>s
 |c,m+1,s=>jW f (c+1) m (iM f c s)
def VG(f:TF3)(n:Nat)(L:List (List Int)):List (List Int):=(jW f 0 n (0,L)).2.take (jW f 0 n (0,L)).1
theorem akk{c:Nat}{r:List Int}(h:u6 c r=true):∃x,r[c]?=some x∧x≠0:=by
 unfold u6 at h
 split at h
 ·exact ⟨_,by assumption,by simpa using h⟩
 ·cases h
theorem BA{f:TF3}{n:Nat}{L:List (List Int)}(h:GR f n L){i:Nat}{r:List Int}(hi:L[i]?=some r):r.length=n∧∀y∈r,inF f y:=h r (List.mem_of_getElem? hi)
theorem asI{f:TF3}{n:Nat}{L:List (List Int)}(h:GR f n L){i:Nat}{r:List Int}(hr:r.length=n∧∀y∈r,inF f y):GR f n (L.set i r):=by
 intro x hx
 rcases List.mem_or_eq_of_mem_set hx with hx|rfl
 ·exact h x hx
 ·exact hr
theorem asj{f:TF3}(hf:aQ f=true){n c:Nat}{r:List Int}(h:r.length=n∧∀y∈r,inF f y):(Kj f c r).length=n∧∀y∈Kj f c r,inF f y:=by
 unfold Kj
 split
 ·rename_i x hx
  refine ⟨by simpa using h.1,fun y hy=>?_⟩
  obtain ⟨z,hz,rfl⟩:=List.mem_map.1 hy
  exact (AB hf (h.2 z hz) (Av hf (h.2 x (List.mem_of_getElem? hx))).1).1
 ·exact h
theorem aq5{f:TF3}(hf:aQ f=true){n c k i:Nat}{own r:List Int}(ho:own.length=n∧∀y∈own,inF f y)(h:r.length=n∧∀y∈r,inF f y):(kK f c k own i r).length=n∧∀y∈kK f c k own i r,inF f y:=by
 unfold kK
 split
 ·rename_i x hx
  cases decide (i=k)||decide (x=0)
  ·rw [cond_false]
   refine ⟨by simp [h.1,ho.1],fun y hy=>?_⟩
   obtain ⟨p,hp,rfl⟩:=List.mem_map.1 hy
   have h1:=List.of_mem_zip (a:=p.1) (b:=p.2) hp
   exact Nc hf (h.2 _ h1.1) (AB hf (h.2 x (List.mem_of_getElem? hx)) (ho.2 _ h1.2)).1
  ·exact h
 ·exact h
theorem adO{f:TF3}(hf:aQ f=true){n c k a:Nat}{L:List (List Int)}(h:GR f n L):GR f n (K9 f c k a L)∧(K9 f c k a L).length=L.length:=by
 unfold K9
 split
 ·rename_i row r0 h1 h2
  exact ⟨asI (asI h (BA h h2)) (asj hf (BA h h1)),by simp⟩
 ·exact ⟨h,rfl⟩
theorem aiC{f:TF3}(hf:aQ f=true){n c a:Nat}{L:List (List Int)}(h:GR f n L):GR f n (yg f c a L)∧(yg f c a L).length=L.length:=by
 unfold yg
 split
 ·rename_i own h1
  refine ⟨fun r hr=>?_,by simp⟩
  obtain ⟨i,hi,rfl⟩:=List.mem_mapIdx.1 hr
  exact aq5 hf (BA h h1) (h _ (List.getElem_mem hi))
 ·exact ⟨h,rfl⟩
theorem L8{f:TF3}(hf:aQ f=true){n c:Nat}{s:Nat×List (List Int)}(h:GR f n s.2)(ha:s.1≤s.2.length):GR f n (iM f c s).2∧(iM f c s).2.length=s.2.length∧(iM f c s).1≤s.2.length:=by
 unfold iM
 rcases wT (u6 c) (s.2.drop s.1) s.1 with ⟨h1,_⟩|⟨k,x,h1,_,h3⟩
 ·rw [h1];exact ⟨h,rfl,ha⟩
 ·rw [h3,decide_eq_false (by omega),cond_false]
  have hlt:=(List.getElem?_eq_some_iff.1 h1).1
  rw [List.length_drop] at hlt
  have hp:=adO (c:=c) (k:=((s.1+k:Nat):Int).toNat) (a:=s.1) hf h
  have hc:=aiC (c:=c) (a:=s.1) hf hp.1
  exact ⟨hc.1,by rw [hc.2,hp.2],by show s.1+1≤_;omega⟩
theorem E5{f:TF3}(hf:aQ f=true){n:Nat}:∀(m c:Nat)(s:Nat×List (List Int)),GR f n s.2→s.1≤s.2.length→GR f n (jW f c m s).2∧(jW f c m s).2.length=s.2.length∧(jW f c m s).1≤s.2.length:=by
 intro m
 induction m with
 |zero=>intro c s h ha;exact ⟨h,rfl,ha⟩
 |succ m ih=>
  intro c s h ha
  have h1:=L8 (c:=c) hf h ha
  have h2:=ih (c+1) _ h1.1 (by rw [h1.2.1];exact h1.2.2)
  rw [h1.2.1] at h2
  exact h2
theorem au8{f:TF3}(hf:aQ f=true){n m:Nat}{L:List (List Int)}(h:GR f n L):GR f n (VG f m L):=fun r hr=>(E5 hf m 0 (0,L) h (Nat.zero_le _)).1 r (List.mem_of_mem_take hr)
theorem alN{f:TF3}(hf:aQ f=true){n m:Nat}{L:List (List Int)}(h:GR f n L):(VG f m L).length=(jW f 0 m (0,L)).1:=by
 have:=E5 hf m 0 (0,L) h (Nat.zero_le _)
 unfold VG
 rw [List.length_take,this.2.1]
 exact Nat.min_eq_left this.2.2
theorem al7{α:Type}(p:α→Bool):∀(l:List α)(i j:Nat),lW p (i+j) l=if lW p j l<0 then -1 else (i:Int)+lW p j l:=by
 intro l
 induction l with
 |nil=>intro i j;rfl
 |cons x l ih=>
  intro i j
  rcases Bool.eq_false_or_eq_true (p x) with hp|hp
  ·have e1:lW p (i+j) (x::l)=((i+j:Nat):Int):=by simp only [lW,hp,cond_true]
   have e2:lW p j (x::l)=(j:Int):=by simp only [lW,hp,cond_true]
   rw [e1,e2,if_neg (by omega)]
   omega
  ·have e1:lW p (i+j) (x::l)=lW p (i+(j+1)) l:=by simp only [lW,hp,cond_false];rfl
   have e2:lW p j (x::l)=lW p (j+1) l:=by simp only [lW,hp,cond_false]
   rw [e1,e2]
   exact ih i (j+1)
theorem aev{α β γ:Type}(g:Nat→α→γ)(fin:List γ→β):∀(l:List α)(i:Nat)(acc:List γ),acc.length=i+l.length→xD (fun i acc x=>(.inl (acc.set i (g i x)):List γ ⊕ β)) fin i acc l=fin (acc.take i++l.mapIdx fun j x=>g (i+j) x):=by
 intro l
 induction l with
 |nil=>intro i acc h;simp only [xD,List.mapIdx_nil,List.append_nil];rw [List.take_of_length_le (by simp at h;omega)]
 |cons x l ih=>
  intro i acc h
  simp only [List.length_cons] at h
  simp only [xD]
  rw [ih (i+1) _ (by simp;omega),List.take_add_one,List.mapIdx_cons]
  simp [show i<acc.length by omega,List.take_set_of_le (Nat.le_refl i),Nat.add_assoc,Nat.add_comm 1]
-- shared
abbrev TN6:=TF3×Int×Int×List (List Int)×List (List Int)×Unit
def e0(e:List Int):Int:=e.getD 0 0
def e1(e:List Int):Int:=e.getD 1 0
def edgeOk(N:Int)(es:List (List Int))(i:Nat)(e:List Int):Bool:=
 decide (e.length=2)&&((inR (e0 e) 0 (N-1)&&(inR (e1 e) 0 (N-1)&&decide (e0 e<e1 e)))&&(decide (i=0)||decide (e0 (es.getD (i-1) [])≤e0 e)))
theorem aov{N:Int}{es:List (List Int)}{i:Nat}{e:List Int}(h:edgeOk N es i e=true):e.length=2:=by
 unfold edgeOk at h
 rw [Bool.and_eq_true] at h
 exact of_decide_eq_true h.1
def azU(es:List (List Int))(node:Int):List Int:=aun (fun i e=>if e1 e=node then some (i:Int) else none) 0 es
def aAo(n:TN6)(node:Int):Int:=if node=0 then n.2.2.1 else ((azU n.2.2.2.1 node).length:Int)
def EN(f:TF3):Int:=2 ^ f.1.toNat-1
theorem ak3{f:TF3}(h:aQ f=true):aL .i64 (rX .i64 1 (aL .u64 f.1)-1)=EN f:=by
 obtain ⟨h1,h2⟩:=dM h
 obtain ⟨n,hn⟩:=Int.eq_ofNat_of_zero_le (show 0≤f.1 by omega)
 unfold EN
 rw [hn]
 have:∀n:Nat,n<6→aL .i64 (rX .i64 1 (aL .u64 (n:Int))-1)=2 ^ (n:Int).toNat-1:=by decide
 exact this n (by omega)
theorem auJ{f:TF3}(h:aQ f=true):aL .i64 (rX .i64 1 f.1-1)=EN f:=by
 obtain ⟨h1,h2⟩:=dM h
 have:=ak3 h
 rw [ER (by omega) (by omega)] at this
 exact this
theorem ak4{f:TF3}(h:aQ f=true):1≤EN f∧EN f≤31:=by
 obtain ⟨h1,h2⟩:=dM h
 obtain ⟨n,hn⟩:=Int.eq_ofNat_of_zero_le (show 0≤f.1 by omega)
 unfold EN
 rw [hn]
 have:∀n:Nat,n<6→1≤n→(1:Int)≤2 ^ (n:Int).toNat-1∧(2:Int) ^ (n:Int).toNat-1≤31:=by decide
 exact this n (by omega) (by omega)
def Qj(f:TF3)(c:List Int):Bool:=c.all fun x=>inR x 0 (EN f)
def axz(n:TN6)(i:Nat)(c:List Int):Bool:=decide ((c.length:Int)=aAo n (e0 (n.2.2.2.1.getD i [])))&&Qj n.1 c
structure azt(n:TN6):Prop where
 field:aQ n.1=true
 nodes:2≤n.2.1∧n.2.1≤8
 mess:1≤n.2.2.1∧n.2.2.1≤3
 len:n.2.2.2.1.length≤14
 clen:n.2.2.2.2.1.length=n.2.2.2.1.length
 edges:∀i e,n.2.2.2.1[i]?=some e→edgeOk n.2.1 n.2.2.2.1 i e=true
 coefs:∀i c,n.2.2.2.2.1[i]?=some c→axz n i c=true
theorem azt.two{n:TN6}(h:azt n){i:Nat}{e:List Int}(he:n.2.2.2.1[i]?=some e):∃a b,e=[a,b]∧0≤a∧a<b∧b≤n.2.1-1:=by
 have:=h.edges i e he
 obtain ⟨a,b,rfl⟩:=len2 (aov this)
 simp only [edgeOk,Bool.and_eq_true,iT,decide_eq_true_eq,e0,e1,List.getD_cons_zero,List.getD_cons_succ] at this
 exact ⟨a,b,rfl,by omega,by omega,by omega⟩
theorem jX{α:Type}{l:List α}{i:Nat}{x d:α}(h:l[i]?=some x):l.getD i d=x:=by
 rw [List.getD_eq_getElem?_getD,h];rfl
def eu (bI:Int) (fU:(Int×(Int×Unit))):(Int×cB×(List Int))→Tre ((Int×cB×(List Int)) ⊕ (cB×(List Int))):=fun s3=>
 .cond (decide (s3.1<bI))
  (.mat (iD fU) fun r1=>
  .mat (dO r1 s3.2.1) fun r2=>
  .ite ((s3.2.2.length+1)*8≤bQ∧1≤8)<|
  .ret (.inl (aL .i64 (s3.1+1),r2.2,s3.2.2++([r2.1]))))
  (.ret (.inr (s3.2.1,s3.2.2)))
def xu (p0:(Int×(Int×Unit))) (p1:Int) (p2:cB):Tre (cB×(List Int)):=
 .mat (aS (eu p1 p0) (0,p2,[])) fun l3=>
 .cond (decide (p1>1))
  (.mat (nX 3 l3.1) fun r4=>
  .cond r4.1
   (.ite (0≤(0:Int)∧(0:Int)<(l3.2.length:Int))<|
   .mat (l3.2[0]?) fun x5=>
   .ite (0≤aL .i64 (p1-1)∧aL .i64 (p1-1)<(l3.2.length:Int))<|
   .mat (l3.2[(aL .i64 (p1-1)).toNat]?) fun _=>
   let v7:=l3.2.set ((aL .i64 (p1-1)).toNat) x5
   .ret (r4.2,v7))
   (.ret (r4.2,l3.2)))
  (.ret (l3.1,l3.2))
def jR (p0:(Int×(Int×Unit))) (p1:Int) (p2:cB):Option (cB×(List Int)):=(xu p0 p1 p2).run some
-- more
theorem aqR{f:TF3}(hf:aQ f=true):iD f=some (EN f+1):=by
 have h1:=dM hf
 have h2:=ak3 hf
 have h3:=ak4 hf
 have h4:iD f=some (rX .i64 1 (aL .u64 f.1)):=by
  unfold iD TP
  rw [Tre.run_ite,if_pos (oD _)]
  rfl
 have h5:-9223372036854775808≤rX .i64 1 (aL .u64 f.1)-1∧rX .i64 1 (aL .u64 f.1)-1≤9223372036854775807:=by
  obtain ⟨n,hn⟩:=Int.eq_ofNat_of_zero_le (show 0≤f.1 by omega)
  rw [hn]
  have:∀n:Nat,n<6→-9223372036854775808≤rX .i64 1 (aL .u64 (n:Int))-1∧rX .i64 1 (aL .u64 (n:Int))-1≤9223372036854775807:=by decide
  exact this n (by omega)
 rw [bY h5.1 h5.2] at h2
 rw [h4]
 congr 1
 omega
theorem avD{f:TF3}{x:Int}(h0:0≤x)(h:x≤EN f):inF f x:=by
 unfold EN at h
 refine ⟨h0,?_⟩
 push_cast
 omega
theorem ahm{f:TF3}(hf:aQ f=true){M:Nat}(hM:M≤1000):∀(m i:Nat){c:Nat}{s:Src}{l:List Int},i+m=M→vZ c s→c+2*m≤80000→l.length=i→(∀x∈l,inF f x) →
  ∃r,aS (eu (M:Int) f) ((i:Int),s,l)=some r∧(vZ (c+2*m) r.1∧r.2.length=M∧∀x∈r.2,inF f x):=by
 intro m
 have ht:=ak4 hf
 induction m with
 |zero=>
  intro i c s l hi hs _ hl ha
  have hi:i=M:=hi
  refine ⟨(s,l),eO ?_,hs,by show l.length=M;omega,ha⟩
  subst hi
  unfold eu
  rw [Tre.aD,decide_eq_false (by omega),cond_false,Tre.aN]
 |succ m ih=>
  intro i c s l hi hs hc hl ha
  obtain ⟨r,hr,⟨hr0,hr1⟩,hr2⟩:=Ny (n:=EN f+1) hs (by omega)
  have hstep:(eu (M:Int) f ((i:Int),s,l)).run some=some (.inl (((i+1:Nat):Int),r.2,l++[r.1])):=by
   unfold eu
   rw [Tre.aD,decide_eq_true (by show (i:Int)<(M:Int);omega),cond_true,ah (aqR hf)]
   dsimp only
   rw [ah hr,Tre.run_ite,if_pos (by unfold bQ;omega),Tre.aN,aY (by omega)]
  rw [iq hstep]
  obtain ⟨q,hq1,hq2,hq3⟩:=ih (i+1) (l:=l++[r.1]) (by omega) hr2 (by omega) (by simp;omega) (fun x hx=>by
   rcases List.mem_append.1 hx with hx|hx
   ·exact ha x hx
   ·simp only [List.mem_singleton] at hx;subst hx;exact avD hr0 (by omega))
  exact ⟨q,hq1,hq2.mono (by omega),hq3⟩
theorem abq{f:TF3}(hf:aQ f=true){M:Nat}(h1:1≤M)(hM:M≤1000){c:Nat}{s:Src}(hs:vZ c s)(hc:c+2*M≤70000):∃r,jR f (M:Int) s=some r∧(vZ (c+2*M+2) r.1∧r.2.length=M∧∀x∈r.2,inF f x):=by
 obtain ⟨r,hr,h2,h3,h4⟩:=ahm hf hM M 0 (l:=[]) (by omega) hs (by omega) rfl (fun x hx=>by cases hx)
 unfold jR xu
 have hr:aS (eu (M:Int) f) (0,s,[])=some r:=hr
 refine fu.run (fu.get hr (fu.aiE (fun hgt=>fu.mat (ay5 h2 (by omega)) fun b hb=>fu.cond (fun _=>fu.ite ⟨Int.le_refl _,by omega⟩ fun _=>fu.at0 (by omega) fun x hx=>?_) (fun _=>.ret ⟨hb,h3,h4⟩)) (fun _=>.ret ⟨h2.mono (by omega),h3,h4⟩)))
 have hw:aL .i64 ((M:Int)-1)=(M:Int)-1:=bY (by omega) (by omega)
 rw [hw]
 refine fu.ite (by omega) fun hi=>fu.at hi fun y hy=>.ret ⟨hb,by simp [h3],fun z hz=>?_⟩
 rcases List.mem_or_eq_of_mem_set hz with hz|rfl
 ·exact h4 z hz
 ·exact h4 _ hx
def nk:Env:=⟨tau,[(137,xR),(80,iC),(167,D7)],[]⟩
def CO:Code:=(Tryz.f81.body).getD .skip
def vW (fD:Bool) (bI:Int) (fU:(Int×(Int×Unit))):(Int×cB×(List Int))→St:=fun x=>bT [(0,(.ptr (0,0) [])),(2,(.i bI)),(4,(.ptr (6,0) [])),(7,(.ref (9,0) [])),(8,(.i x.1))] [((0,0),some ⟨true,gq,(.imm fD),x.2.1⟩),((6,0),some ⟨true,aM,.own,fU⟩),((9,0),some ⟨false,.il,.own,x.2.2⟩)]
def uN (fD:Bool) (bI:Int) (_:(Int×(Int×Unit))):(cB×(List Int))→Ex×St:=fun x=>(.exit 0,bT [(0,(.ptr (0,0) [])),(2,(.i bI)),(7,(.ref (9,0) []))] [((0,0),some ⟨true,gq,(.imm fD),x.1⟩),((9,0),some ⟨false,.il,.own,x.2⟩)])
def Ls (s:St):Tre (Ex×St):=
 dH (0,0) [] (s.tmps 0)<|
 aF true .n (s.tmps 2) fun d3=>
 dH (6,0) [] (s.tmps 4)<|
 fQ (9,0) [] (s.tmps 7)<|
 aF true .n (s.tmps 8) fun d7=>
 bq true gq (s.roots (0,0)) fun m9 d10=>
 fI m9 fun z11=>
 bq true aM (s.roots (6,0)) fun m13 d14=>
 asM .own m13<|
 bq false .il (s.roots (9,0)) fun m16 d17=>
 asM .own m16<|
 .mat (aS (eu d3 d14) (d7,d10,d17)) fun x=>.ret (uN z11 d3 d14 x)
def kg:bF:=⟨([0,2,4,7,8],[(0,0),(6,0),(9,0)]),([0,2,7],[(0,0),(9,0)]),Ls⟩
def tJ:List (Nat×bF):=[(3,kg)]
theorem Gp:∀(fD:Bool)(bI:Int)(fU:(Int×(Int×Unit)))(x:(Int×cB×(List Int)))(c:St→Option (Ex×St)),den nk tJ (aV CO 0) (vW fD bI fU x) (bZ kg.kp kg.kx c)=(eu bI fU x).run (cu (vW fD bI fU) (uN fD bI fU) c):=fun _ _ _ _ _=>by
 kernel_rfl
theorem Ke:bU nk tJ (aV CO 0) kg:=dB fun _ _ _=>gy<|aO fun _=>gy<|nR<|aO fun _=>cO fun _ _=>nQ fun _=>cO fun _ _=>tM<|cO fun _ _=>tM<|fun h _ e15 _ e12 _ e8 e6 e5 e4 e2 e1=>cK (Gp _ _ _) h (by subst_vars;exact aT rfl rfl ⟨e1,e2,e4,e5,e6,trivial⟩ ⟨e8,e12,e15,trivial⟩)
def Sz:FnI:=fnI Tryz.f81 tJ
def zw (zp0:Bool) (_:(Int×(Int×Unit))) (_:Int) (_:cB):(cB×(List Int))→au:=fun r=>⟨(.ref (1,0) []),[⟨true,gq,(.imm zp0),r.1⟩],[⟨false,.il,.own,r.2⟩]⟩
theorem PV:∀(zp0:Bool)(p0:(Int×(Int×Unit)))(p1:Int)(p2:cB),bH nk Sz ⟨[(.ptr (0,0) []),(.imm true aM p0),(.i p1)],[⟨true,gq,(.imm zp0),p2⟩]⟩=(xu p0 p1 p2).run fun r=>some (zw zp0 p0 p1 p2 r):=fun _ _ _ _=>by kernel_rfl
def Sy (av:List AV) (rs:List Root):Tre au:=
 aB av fun a0_ av0=>
 aB av0 fun a1_ av1=>
 aB av1 fun a2_ av2=>
 aJ av2<|
 aB rs fun r0_ rs0=>
 aJ rs0<|
 dH (0,0) [] a0_<|
 aF true aM a1_ fun d1=>
 aF true .n a2_ fun d2=>
 iL true gq r0_ fun m3 d4=>
 fI m3 fun z5=>
 .mat (jR d1 d2 d4) fun r=>.ret (zw z5 d1 d2 d4 r)
def tK:Ctr:=dx [] Sy
theorem Ac:Contract Tryz.prog .none 81 tK:=aC (V:=nk) aR (ak zf aeo (ak jr alP (ak RY axO aH))) Tryz.func81 (bM (n:=1) fun k hk=>by
 match k,hk with
 |0,_=>exact bP (id:=3) Ke) fun _ _ _=>aI fun _ _=>aI fun _ _=>aI fun _ _=>aZ<|aI fun _ _=>aZ<|gy<|aO fun _=>aO fun _=>tRt fun _ _=>nQ fun _=>fun h=>by intros;subst_vars;exact aW (PV _ _ _ _) h
def af5 (p0:List Int) (p1:(Int×(Int×Unit))) (p2:Int):Tre (List Int):=
 .mat (jR p1 p2 (p0,(0,(0,())))) fun r1=>
 .ret r1.2
def F8 (p0:List Int) (p1:(Int×(Int×Unit))) (p2:Int):Option (List Int):=(af5 p0 p1 p2).run some
-- more
theorem ai4{code:List Int}(hl:code.length≤5000)(hc:∀x∈code,0≤x∧x≤255){f:TF3}(hf:aQ f=true){M:Nat}(h1:1≤M)(hM:M≤1000):∃r,F8 code f (M:Int)=some r∧(r.length=M∧∀x∈r,inF f x):=by
 have h0:vZ 0 (code,0,0,()):=⟨hl,hc,Int.le_refl _,Int.le_refl _⟩
 unfold F8 af5
 exact fu.run (fu.mat (abq hf h1 hM h0 (by omega)) fun a ha=>.ret ha.2)
def af6:Env:=⟨tau,[(79,Cv),(81,tK)],[]⟩
def apt:FnI:=fnI Tryz.f23 []
def YM (_:Bool) (_:List Int) (_:(Int×(Int×Unit))) (_:Int):(List Int)→au:=fun r=>⟨(.ref (1,0) []),[],[⟨false,.il,.own,r⟩]⟩
theorem am6:∀(zp0:Bool)(p0:List Int)(p1:(Int×(Int×Unit)))(p2:Int),bH af6 apt ⟨[(.imm zp0 (.sl (.int .u8)) p0),(.imm true aM p1),(.i p2)],[]⟩=(af5 p0 p1 p2).run fun r=>some (YM zp0 p0 p1 p2 r):=fun _ _ _ _=>by kernel_rfl
def aps (av:List AV) (rs:List Root):Tre au:=
 aB av fun a0_ av0=>
 aB av0 fun a1_ av1=>
 aB av1 fun a2_ av2=>
 aJ av2<|
 aJ rs<|
 bB (.sl (.int .u8)) a0_ fun z2 d1=>
 aF true aM a1_ fun d3=>
 aF true .n a2_ fun d4=>
 .mat (F8 d1 d3 d4) fun r=>.ret (YM z2 d1 d3 d4 r)
def af7:Ctr:=dx [] aps
theorem am7:Contract Tryz.prog .none 23 af7:=aC (V:=af6) aR (ak EJ ap2 (ak Ac awU aH)) Tryz.func23 bn fun _ _ _=>aI fun _ _=>aI fun _ _=>aI fun _ _=>aZ<|aZ<|dF fun _ _=>aO fun _=>aO fun _=>fun h=>by intros;subst_vars;exact aW (am6 _ _ _ _) h
def afa (p0:Int) (p1:Int) (p2:Int):Tre Bool:=
 .cond (decide (p0 ≥ p1))
  (.ret (decide (p0≤p2)))
  (.ret false)
def afb (p0:Int) (p1:Int) (p2:Int):Option Bool:=(afa p0 p1 p2).run some
theorem ahJ(n a b:Int):afb n a b=some (inR n a b):=by
 unfold afb afa inR
 by_cases h:a≤n
 ·simp [Tre.aD,Tre.aN,h]
 ·simp [Tre.aD,Tre.aN,h]
def afc:Env:=⟨tau,[],[]⟩
def aoX:FnI:=fnI Tryz.f90 []
def X4 (_:Int) (_:Int) (_:Int):Bool→au:=fun r=>⟨(.imm true .bool r),[],[]⟩
theorem al5:∀(p0 p1 p2:Int),bH afc aoX ⟨[(.i p0),(.i p1),(.i p2)],[]⟩=(afa p0 p1 p2).run fun r=>some (X4 p0 p1 p2 r):=fun _ _ _=>by kernel_rfl
def aoW (av:List AV) (rs:List Root):Tre au:=
 aB av fun a0_ av0=>
 aB av0 fun a1_ av1=>
 aB av1 fun a2_ av2=>
 aJ av2<|
 aJ rs<|
 aF true .n a0_ fun d1=>
 aF true .n a1_ fun d2=>
 aF true .n a2_ fun d3=>
 .ret (X4 d1 d2 d3 (inR d1 d2 d3))
def pW:Ctr:=dx [] aoW
theorem oV:Contract Tryz.prog .none 90 pW:=aC (V:=afc) aR aH Tryz.func90 bn fun _ _ _=>aI fun _ _=>aI fun _ _=>aI fun _ _=>aZ<|aZ<|aO fun _=>aO fun _=>aO fun _=>fun h=>by intros;subst_vars;exact yt (al5 _ _ _) (ahJ _ _ _) h
def JY:(Int×Int)→Tre ((Int×Int) ⊕ Int):=fun s2=>
 .cond (decide (s2.1>0))
  (.ret (.inl (Pz .i64 s2.1 1,aL .i64 (s2.2+1))))
  (.ret (.inr s2.2))
def aeV (p0:Int):Tre Int:=
 .mat (aS JY (p0,-1)) fun l1=>
 .ret l1
def pV (p0:Int):Option Int:=(aeV p0).run some
def EC:Env:=⟨tau,[],[]⟩
def XR:Code:=(Tryz.f172.body).getD .skip
def KX:(Int×Int)→St:=fun x=>bT [(0,(.i x.1)),(3,(.i x.2))] []
def IU:Int→Ex×St:=fun x=>(.exit 0,bT [(3,(.i x))] [])
def acW (s:St):Tre (Ex×St):=
 aF true .n (s.tmps 0) fun d2=>
 aF true .n (s.tmps 3) fun d4=>
 .mat (aS JY (d2,d4)) fun x=>.ret (IU x)
def wF:bF:=⟨([0,3],[]),([3],[]),acW⟩
def M6:List (Nat×bF):=[(2,wF)]
theorem Wd:∀(x:(Int×Int))(c:St→Option (Ex×St)),den EC M6 (aV XR 0) (KX x) (bZ wF.kp wF.kx c)=(JY x).run (cu (KX) (IU) c):=fun _ _=>by
 kernel_rfl
theorem aah:bU EC M6 (aV XR 0) wF:=dB fun _ _ _=>aO fun _=>aO fun _=>fun h e3 e1=>cK Wd h (by subst_vars;exact aT rfl rfl ⟨e1,e3,trivial⟩ trivial)
def ajK:FnI:=fnI Tryz.f172 M6
def Q8 (_:Int):Int→au:=fun r=>⟨(.i r),[],[]⟩
theorem ahF:∀(p0:Int),bH EC ajK ⟨[(.i p0)],[]⟩=(aeV p0).run fun r=>some (Q8 p0 r):=fun _=>by kernel_rfl
def ajJ (av:List AV) (rs:List Root):Tre au:=
 aB av fun a0_ av0=>
 aJ av0<|
 aJ rs<|
 aF true .n a0_ fun d1=>
 .mat (pV d1) fun r=>.ret (Q8 d1 r)
def ED:Ctr:=dx [] ajJ
theorem JZ:Contract Tryz.prog .none 172 ED:=aC (V:=EC) aR aH Tryz.func172 (bM (n:=1) fun k hk=>by
 match k,hk with
 |0,_=>exact bP (id:=2) aah) fun _ _ _=>aI fun _ _=>aZ<|aZ<|aO fun _=>fun h=>by intros;subst_vars;exact aW (ahF _) h
end Go.Proofs.YtmilokkchghpjaaGreat
