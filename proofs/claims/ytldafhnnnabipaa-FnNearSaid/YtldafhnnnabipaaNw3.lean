/- Part 3 of the proof of FnNear. -/
import Derived.WalkKit
import Derived.ProofKit
import Derived.OpenShut
import Derived.ShutString
import Derived.ChangeOld
import Derived.Below
import Derived.SizedLaws
import Derived.Carry
import Derived.IntWalk
import Derived.Deep.RegionLaw
import Derived.KernelRfl
import Derived.Sort.OwnSortedInts
import Derived.Lib.SlicesCompact
import Derived.Test.YtldafhnnnabipaaProg
import Derived.Test.YtldafhnnnabipaaNw2
set_option maxRecDepth 100000
noncomputable section
namespace Go.Abs
theorem Mask.apE{m:Mask}(h:m.done=true):m.fst.done=true:=by
 cases m<;>simp_all [Mask.done,Mask.fst]
theorem Mask.apF{m:Mask}(h:m.done=true):m.snd.done=true:=by
 cases m<;>simp_all [Mask.done,Mask.snd]
theorem Mask.an3{m:Mask}(h:m.done=true):m.elem.done=true:=by
 cases m<;>simp_all [Mask.done,Mask.elem]
theorem Enc.toZ{w:World}{θ:ay→Nat}{Z S:BS}:∀{k:K}{m:Mask}{d:k.den}{vs:List Value}{F Z':BS},Enc w θ Z S k m d vs F→m.done=true→Sub Z Z'→Sub F Z'→Enc w θ Z' S k (.imm true) d vs noB:=by
 intro k
 induction k with
 |pair a b iha ihb=>
  intro m d vs F Z' h hd hZ hF
  obtain ⟨v1,v2,F1,F2,rfl,s1,s2,dj,h1,h2⟩:=h
  exact ⟨v1,v2,noB,noB,rfl,fun _ x=>x.elim,fun _ x=>x.elim,fun _ x=>x.elim,iha h1 (Mask.apE hd) hZ (s1.trans hF),ihb h2 (Mask.apF hd) hZ (s2.trans hF)⟩
 |sl e ih=>
  intro m d vs F Z' h hd hZ hF
  rcases h with ⟨rfl,_⟩|⟨_,h⟩|⟨hm,b,off,cap,c,T,fz,rfl,hc,hle,hs,hok,G',hG,hdj,he⟩
  ·simp [Mask.done] at hd
  ·exact .inr (.inl ⟨by simp,h⟩)
  ·refine .inr (.inr ⟨by simp,b,off,cap,c,T,fz,rfl,hc,hle,hs,?_,fun _=>noB,fun _=>⟨fun _ x=>x.elim,fun x=>x⟩,fun _ _ _ _ x=>x.elim,fun i x hx=>?_⟩)
   ·refine .inl ?_
    cases m with
    |own=>exact hF _ hok.1
    |sl _=>exact hF _ hok.1
    |imm z=>
     simp only [Mask.done] at hd
     subst hd
     rcases hok with h|h
     ·exact hZ _ h
     ·cases h.1
    |gone=>exact hok.elim
    |pair _ _=>exact hok.elim
   ·exact ih (he i x hx) (Mask.an3 hd) hZ ((hG i).1.trans hF)
 |_=>intro m d vs F Z' h _ _ _;exact h
theorem ab1{z:Bool}:∀(q:Path){k:K}{d:k.den}{m:Mask},cO k d m q→cO k d (.imm z) q:=by
 intro q
 induction q with
 |nil=>intro k d m _;exact dP _ _ _
 |cons st q ih=>
  intro k d m h
  cases st with
  |fst=>
   cases k with
   |pair a b=>exact ih (k:=a) (m:=m.fst) h
   |_=>exact h.elim
  |snd=>
   cases k with
   |pair a b=>exact ih (k:=b) (m:=m.snd) h
   |_=>exact h.elim
  |idx i=>
   cases k with
   |sl e=>
    obtain ⟨_,x,hx,h⟩:=h
    exact ⟨by simp,x,hx,ih (k:=e) (m:=m.elem) h⟩
   |_=>exact h.elim
theorem Enc.frz{w:World}{θ:ay→Nat}{Z S:BS}{el:Bool}:∀(p:Path){k:K}{m m':Mask}{d:k.den}{vs:List Value}{F:BS},ai2 k m p el=some m'→Enc w θ Z S k m d vs F →
  ∃F' FZ:BS,Sub F' F∧Sub FZ F∧DI F' FZ∧(∀Z':BS,Sub Z Z'→Sub FZ Z'→Enc w θ Z' S k m' d vs F')∧∀q,cO k d m q→cO k d m' q:=by
 intro p
 induction p with
 |nil=>
  intro k m m' d vs F h he
  have hid:(some m=some m')→∃F' FZ:BS,Sub F' F∧Sub FZ F∧DI F' FZ∧(∀Z':BS,Sub Z Z'→Sub FZ Z'→Enc w θ Z' S k m' d vs F')∧∀q,cO k d m q→cO k d m' q:=by
   intro h
   simp only [Option.some.injEq] at h
   subst h
   exact ⟨F,noB,.refl _,fun _ h=>h.elim,fun _ _ h=>h,fun Z' hZ _=>he.mono hZ (.refl _) (.refl _) (fun _ _=>rfl) (fun _ _=>rfl),fun _ h=>h⟩
  cases el with
  |false=>
   have h':(bif m.done then some (bif k.flat then m else .imm true) else none)=some m':=by cases k<;>exact h
   cases hd:m.done with
   |false=>rw [hd] at h';cases h'
   |true=>
    rw [hd,cond_true] at h'
    cases hf:k.flat with
    |true=>rw [hf,cond_true] at h';exact hid h'
    |false=>
     rw [hf,cond_false,Option.some.injEq] at h'
     subst h'
     exact ⟨noB,F,fun _ h=>h.elim,.refl _,fun _ h=>h.elim,fun Z' hZ hF=>he.toZ hd hZ hF,fun q h=>ab1 q h⟩
  |true=>
   cases k with
   |sl e=>
    simp only [ai2] at h
    cases hd:(m.dU&&m.elem.done) with
    |false=>rw [hd] at h;cases h
    |true=>
     rw [hd,cond_true] at h
     cases hf:e.flat with
     |true=>rw [hf,cond_true] at h;exact hid h
     |false=>
      rw [hf,cond_false,Option.some.injEq] at h
      subst h
      simp only [Bool.and_eq_true] at hd
      have hcg:∀q,cO (.sl e) d m q→cO (.sl e) d (Mask.Wt (.imm true)) q:=by
       intro q hq
       cases q with
       |nil=>exact dP _ _ _
       |cons st q=>
        cases st with
        |idx i=>
         obtain ⟨_,x,hx,hq⟩:=hq
         exact ⟨by simp [Mask.Wt],x,hx,ab1 q hq⟩
        |fst=>exact hq.elim
        |snd=>exact hq.elim
      rcases he with ⟨rfl,_⟩|⟨hm,h⟩|⟨hm,b,off,cap,c,T,fz,rfl,hc,hle,hs,hok,G',hG,hdj,hel⟩
      ·simp [Mask.dU] at hd
      ·exact ⟨noB,noB,fun _ h=>h.elim,fun _ h=>h.elim,fun _ h=>h.elim,fun Z' _ _=>.inr (.inl ⟨by simp [Mask.Wt],h⟩),hcg⟩
      ·have hb:F b∧fz=(0,0):=by cases m<;>simp_all [Mask.dU,Og]
       refine ⟨fun x=>x=b,fun x=>∃i,G' i x,fun x hx=>by rw [hx];exact hb.1,fun x ⟨i,hx⟩=>(hG i).1 x hx,fun x hx ⟨i,hy⟩=>(hG i).2 (by rw [←hx];exact hy),fun Z' hZ hF=>?_,hcg⟩
       refine .inr (.inr ⟨by simp [Mask.Wt],b,off,cap,c,T,fz,rfl,hc,hle,hs,⟨rfl,hb.2⟩,fun _=>noB,fun _=>⟨fun _ x=>x.elim,fun x=>x⟩,fun _ _ _ _ x=>x.elim,fun i x hx=>?_⟩)
       exact (hel i x hx).toZ hd.2 hZ (fun y hy=>hF y ⟨i,hy⟩)
   |_=>cases h
 |cons st p ih=>
  intro k m m' d vs F h he
  cases st with
  |fst=>
   cases k with
   |pair a b=>
    simp only [ai2,Option.map_eq_some_iff] at h
    obtain ⟨m1,h,rfl⟩:=h
    obtain ⟨v1,v2,F1,F2,rfl,s1,s2,dj,h1,h2⟩:=he
    obtain ⟨F',FZ,g1,g2,g3,g4,g5⟩:=ih h h1
    have hm0:(m.C9 m1).fst=m1∧(m.C9 m1).snd=m.snd:=⟨BL _ _,BM _ _⟩
    refine ⟨fun x=>F' x∨F2 x,FZ,fun x hx=>hx.elim (fun h=>s1 x (g1 x h)) (s2 x),g2.trans s1,fun x hx hz=>hx.elim (fun h=>g3 x h hz) (fun h=>dj x (g2 x hz) h),fun Z' hZ hF=>?_,fun q hq=>?_⟩
    ·exact ⟨v1,v2,F',F2,rfl,fun _=>.inl,fun _=>.inr,dj.sub g1 (.refl _),by rw [hm0.1];exact g4 Z' hZ hF,by rw [hm0.2];exact h2.mono hZ (.refl _) (.refl _) (fun _ _=>rfl) (fun _ _=>rfl)⟩
    ·cases q with
     |nil=>trivial
     |cons st q=>
      cases st with
      |fst=>show cO a d.1 (m.C9 m1).fst q;rw [hm0.1];exact g5 q hq
      |snd=>show cO b d.2 (m.C9 m1).snd q;rw [hm0.2];exact hq
      |idx i=>exact hq.elim
   |_=>cases h
  |snd=>
   cases k with
   |pair a b=>
    simp only [ai2,Option.map_eq_some_iff] at h
    obtain ⟨m1,h,rfl⟩:=h
    obtain ⟨v1,v2,F1,F2,rfl,s1,s2,dj,h1,h2⟩:=he
    obtain ⟨F',FZ,g1,g2,g3,g4,g5⟩:=ih h h2
    have hm0:(m.Da m1).fst=m.fst∧(m.Da m1).snd=m1:=⟨BL _ _,BM _ _⟩
    refine ⟨fun x=>F1 x∨F' x,FZ,fun x hx=>hx.elim (s1 x) (fun h=>s2 x (g1 x h)),g2.trans s2,fun x hx hz=>hx.elim (fun h=>dj x h (g2 x hz)) (fun h=>g3 x h hz),fun Z' hZ hF=>?_,fun q hq=>?_⟩
    ·exact ⟨v1,v2,F1,F',rfl,fun _=>.inl,fun _=>.inr,dj.sub (.refl _) g1,by rw [hm0.1];exact h1.mono hZ (.refl _) (.refl _) (fun _ _=>rfl) (fun _ _=>rfl),by rw [hm0.2];exact g4 Z' hZ hF⟩
    ·cases q with
     |nil=>trivial
     |cons st q=>
      cases st with
      |fst=>show cO a d.1 (m.Da m1).fst q;rw [hm0.1];exact hq
      |snd=>show cO b d.2 (m.Da m1).snd q;rw [hm0.2];exact g5 q hq
      |idx i=>exact hq.elim
   |_=>cases h
  |idx i=>cases k<;>cases h
theorem AVC.avB{w:World}{C C':Ctx}{rs rs':RF}(hZ:Sub C.Z C'.Z)(hS:C'.S=C.S)(hθ:C'.θ=C.θ)(hρ:C'.ρ=C.ρ)
  (hrs:∀q y,rs' q=some y→∃x m',rs q=some x∧y=⟨x.mem,x.k,m',x.d⟩∧∀p,cO x.k x.d x.m p→cO x.k x.d m' p) :
  ∀(av:AV)(vs:List Value),AVC w C rs av vs→AVC w C' rs' av vs:=by
 have himm:∀{z:Bool}{k:K}{d:k.den}{vs:List Value}{F:BS},Enc w C.θ C.Z C.S k (.imm z) d vs F→Enc w C'.θ C'.Z C'.S k (.imm z) d vs F:=by
  intro z k d vs F h
  rw [hS,hθ]
  exact h.mono hZ (.refl _) (.refl _) (fun _ _=>rfl) (fun _ _=>rfl)
 have hbase:∀q (x:Root) m',bK C' q ⟨x.mem,x.k,m',x.d⟩=bK C q x:=by intro q x m';unfold bK;rw [hθ]
 have href:∀r p (vs:List Value),AVC w C rs (.ref r p) vs→AVC w C' rs' (.ref r p) vs:=by
  rintro r p vs ⟨v,rfl,h⟩
  refine ⟨v,rfl,fun y hy=>?_⟩
  obtain ⟨x,m',hx,rfl,hc⟩:=hrs r y hy
  obtain ⟨e,base,g1,g2,g3⟩:=h x hx
  exact ⟨e,base,g1,hc p g2,by rw [hρ,hbase];exact g3⟩
 have hptr:∀r p (vs:List Value),AVC w C rs (.ptr r p) vs→AVC w C' rs' (.ptr r p) vs:=by
  rintro r p vs ⟨b,off,rfl,h0,h⟩
  refine ⟨b,off,rfl,fun hp=>by rw [hθ];exact h0 hp,fun y hy=>?_⟩
  obtain ⟨x,m',hx,rfl,hc⟩:=hrs r y hy
  obtain ⟨k',cs,g1,g2,g3⟩:=h x hx
  exact ⟨k',cs,g1,hc p g2,by rw [hρ,hbase];exact g3⟩
 intro av
 induction av with
 |dead=>intro vs _;trivial
 |imm z k d=>intro vs h;exact ⟨h.1,himm h.2⟩
 |nn z e d=>intro vs h;exact ⟨h.1,himm h.2.1,h.2.2⟩
 |nil=>intro vs h;exact h
 |emp=>intro vs h;exact h
 |nilp=>intro vs h;exact h
 |ptr r p=>intro vs h;exact hptr r p vs h
 |ref r p=>intro vs h;exact href r p vs h
 |vw r p L=>intro vs h;exact AVC.aip (fun i=>hptr _ _ _ i) (fun e _ v=>⟨fun i=>href _ _ _ i,fun i=>href _ _ _ i⟩) h
 |iptr z k d p=>
  rintro vs ⟨vs0,b,off,cs,k',h1,h2,h3⟩
  exact ⟨vs0,b,off,cs,k',h1,himm h2,h3⟩
 |slc r p lo n=>
  rintro vs ⟨v,v0,rfl,h⟩
  refine ⟨v,v0,rfl,fun y hy=>?_⟩
  obtain ⟨x,m',hx,rfl,hc⟩:=hrs r y hy
  obtain ⟨e,base,g1,g2,g3,g4⟩:=h x hx
  exact ⟨e,base,g1,hc p g2,by rw [hρ,hbase];exact g3,g4⟩
 |pair a b iha ihb=>
  rintro vs ⟨v1,v2,rfl,h1,h2⟩
  exact ⟨v1,v2,rfl,iha v1 h1,ihb v2 h2⟩
 |fn f caps=>
  rintro vs ⟨rfl,hc⟩
  refine ⟨by rw [hθ],fun q hq y hy=>?_⟩
  obtain ⟨x,m',hx,rfl,_⟩:=hrs q y hy
  exact hc q hq x hx
 |tnil=>intro vs h;exact h.elim
 |tcons a b _ _=>intro vs h;exact h.elim
section
variable {w0 w : World} {M0 : BS} {n : Nat} {C0 C : Ctx} {s s' : St} {a : Act}
theorem Rel.awK(R:Rel w0 M0 n C0 C s a w){q:ay}{x:Root}{p:Path}{el:Bool}{m':Mask}(hx:s.roots q=some x)(hm:ai2 x.k x.m p el=some m') :
  ∃C',Rel w0 M0 n C0 C' ⟨s.tmps,fun r=>bif req r q then some ⟨x.mem,x.k,m',x.d⟩ else s.roots r,s.pins⟩ a w:=by
 obtain ⟨G,hG,hGs,hGm⟩:=R.mem.ok q x hx
 obtain ⟨F',FZ,s1,s2,dj,henc,hcg⟩:=hG.frz p hm
 have hFZ:∀b,FZ b→C.F q b:=fun b hb=>hGs b (s2 b hb)
 have hrs:∀r y,(bif req r q then some (⟨x.mem,x.k,m',x.d⟩:Root) else s.roots r)=some y→(r=q∧y=⟨x.mem,x.k,m',x.d⟩)∨(r≠q∧s.roots r=some y):=by
  intro r y hy
  by_cases h:r=q
  ·rw [bW.2 h] at hy;exact .inl ⟨h,(Option.some.inj hy).symm⟩
  ·rw [gN h] at hy;exact .inr ⟨h,hy⟩
 have hZ:Sub C.Z (fun b=>C.Z b∨FZ b):=fun _=>.inl
 let C':Ctx:=⟨C.θ,C.ρ,fun r=>if r=q then (fun b=>F' b∨(x.mem=true∧b=C.θ q)) else C.F r,fun b=>C.Z b∨FZ b,C.S⟩
 have hFq:C'.F q=fun b=>F' b∨(x.mem=true∧b=C.θ q):=if_pos rfl
 have hFr:∀r,r≠q→C'.F r=C.F r:=fun r h=>if_neg h
 have hFsub:∀b,C'.F q b→C.F q b:=by
  intro b hb
  rw [hFq] at hb
  rcases hb with hb|⟨hmem,rfl⟩
  ·exact hGs b (s1 b hb)
  ·exact (hGm hmem).2.1
 have hFall:∀r b,C'.F r b→C.F r b:=by
  intro r b hb
  by_cases h:r=q
  ·subst h;exact hFsub b hb
  ·rw [hFr r h] at hb;exact hb
 have hother:∀r y,r≠q→s.roots r=some y→∀b,C.F r b→¬FZ b:=fun r y h hy b hb hz=>R.mem.disj r q y x hy hx h b hb (hFZ b hz)
 have hM:Mem w C' (fun r=>bif req r q then some ⟨x.mem,x.k,m',x.d⟩ else s.roots r):=by
  refine ⟨?_,?_,?_,?_,?_⟩
  ·intro r y hr
   rcases hrs r y hr with ⟨rfl,rfl⟩|⟨h1,h2⟩
   ·refine ⟨F',henc _ hZ (fun _=>.inr),fun b hb=>by rw [hFq];exact .inl hb,fun hmem=>?_⟩
    obtain ⟨k1,k2,k3⟩:=hGm hmem
    exact ⟨fun h=>k1 (s1 _ h),by rw [hFq];exact .inr ⟨hmem,rfl⟩,k3⟩
   ·exact (R.mem.ok r y h2).aqh hZ rfl rfl rfl (hFr r h1) (fun _ _=>rfl) (fun _ _=>rfl)
  ·intro r r' y y' hr hr' hne b hb hb'
   have h1:∃z,s.roots r=some z:=by rcases hrs r y hr with ⟨rfl,_⟩|⟨_,h⟩<;>exact ⟨_,by assumption⟩
   have h2:∃z,s.roots r'=some z:=by rcases hrs r' y' hr' with ⟨rfl,_⟩|⟨_,h⟩<;>exact ⟨_,by assumption⟩
   obtain ⟨z,hz⟩:=h1
   obtain ⟨z',hz'⟩:=h2
   exact R.mem.disj r r' z z' hz hz' hne b (hFall r b hb) (hFall r' b hb')
  ·intro r y b hr hb
   rcases hrs r y hr with ⟨rfl,rfl⟩|⟨h1,h2⟩
   ·have h:=R.mem.apart r x b hx (hFsub b hb)
    refine ⟨fun hz=>hz.elim h.1 fun hz=>?_,h.2.1,h.2.2⟩
    rw [hFq] at hb
    rcases hb with hb|⟨hmem,rfl⟩
    ·exact dj b hb hz
    ·exact (hGm hmem).1 (s2 _ hz)
   ·rw [hFr r h1] at hb
    have h:=R.mem.apart r y b h2 hb
    exact ⟨fun hz=>hz.elim h.1 (hother r y h1 h2 b hb),h.2.1,h.2.2⟩
  ·intro b hb
   rcases hb with (hb|hb)|hb
   ·exact R.mem.ro b (.inl hb)
   ·exact (R.mem.apart q x b hx (hFZ b hb)).2.2
   ·exact R.mem.ro b (.inr hb)
  ·intro r y hr p' hp' y2 hr2
   have h1:∃z,s.roots r=some z∧p'∈aS z.k z.d:=by
    rcases hrs r y hr with ⟨rfl,rfl⟩|⟨_,h⟩
    ·exact ⟨x,hx,hp'⟩
    ·exact ⟨y,h,hp'⟩
   obtain ⟨z,hz,hp2⟩:=h1
   rcases hrs p' y2 hr2 with ⟨rfl,rfl⟩|⟨_,h⟩
   ·exact R.mem.ptr r z hz p' hp2 x hx
   ·exact R.mem.ptr r z hz p' hp2 y2 h
 refine ⟨C',⟨fun b hb=>.inl (R.ext.Z b hb),R.ext.S,R.ext.θ⟩,hM,fun t=>?_,R.kept,?_,?_,R.defers,R.room,?_,?_⟩
 ·show bH w C' _ (a.tmps.getD t undef) (s.tmps t)
  rw [←QY (s.tmps t)]
  refine bH.step (C':=C') (xs:=[]) (fun av vs _ _ hav=>AVC.avB (C':=C') hZ rfl rfl rfl (fun r y hr=>?_) av vs hav) (R.tm t)
  rcases hrs r y hr with ⟨rfl,rfl⟩|⟨_,h⟩
  ·exact ⟨x,m',hx,rfl,hcg⟩
  ·exact ⟨y,y.m,h,rfl,fun _ h=>h⟩
 ·intro r y b hr hb
  have hb2:=hFall r b hb
  rcases hrs r y hr with ⟨rfl,rfl⟩|⟨_,h⟩
  ·exact R.foot r x b hx hb2
  ·exact R.foot r y b h hb2
 ·intro r y hr p' hp' h2
  rcases hrs r y hr with ⟨rfl,rfl⟩|⟨_,h⟩
  ·exact R.pins r x hx p' hp' h2
  ·exact R.pins r y h p' hp' h2
 ·intro i y hr hmem
  rcases hrs (0,i) y hr with ⟨h1,rfl⟩|⟨_,h⟩
  ·exact R.parρ i x (by rw [h1];exact hx) hmem
  ·exact R.parρ i y h hmem
 ·intro b hb
  rcases hb with hb|hb
  ·exact R.zn b hb
  ·exact .inr (R.foot q x b hx (hFZ b hb))
theorem Rel.ap4:∀(l:List Frz){C:Ctx}{s:St},Rel w0 M0 n C0 C s a w→∃C',Rel w0 M0 n C0 C' (acj l s) a w:=by
 intro l
 induction l with
 |nil=>intro C s R;exact ⟨C,R⟩
 |cons f l ih=>
  intro C s R
  obtain ⟨q,p,el⟩:=f
  simp only [acj]
  split
  ·exact ih R
  ·rename_i x hx
   split
   ·exact ih R
   ·rename_i m' hm
    obtain ⟨C1,R1⟩:=R.awK hx hm
    exact ih R1
end
end Go.Abs
namespace Go.Abs
variable {Γ : Glb}
section
variable {P : Program} {V : Env} {w0 w : World} {M0 : BS} {n : Nat} {C0 C : Ctx} {s : St} {a : Act}
variable {R' : Type} {r : R'} {o : Oper}
def Bg(n:Nat):Code→Bool
 |.region _ ops _=>ops.toList.all fun o=>match o.dst with
  |some d=>Nat.blt d n
  |none=>true
 |.seq a b=>Bg n a&&Bg n b
 |.cond _ a b=>Bg n a&&Bg n b
 |.block _ a=>Bg n a
 |.loop a=>Bg n a
 |_=>true
def bP(V:Env)(A:List (Nat×bB))(a:Code)(L:bB):Prop:=
 ∀s e s',(L.sm (restrict L.kp s)).run some=some (e,s')→∃m,iter L (fun s (c:Ex→St→Option (Ex×St))=>den V A a s c) m (restrict L.kp s) (fun e s'=>some (e,s'))=some (e,s')
def qp(V:Env)(A:List (Nat×bB)):Code→Prop
 |.seq a b=>qp V A a∧qp V A b
 |.cond _ a b=>qp V A a∧qp V A b
 |.block _ a=>qp V A a
 |.loop a=>qp V A a∧∀i L,eH a=some i→gI i A=some L→bP V A a L
 |_=>True
def Ex.exit':Ex→Exit
 |.normal=>.normal
 |.exit id=>.exit id
 |.ret=>.ret
theorem anT(hT:gq P V)(hE:XR P Γ V w0 M0 C0){A:List (Nat×bB)}:∀(cd:Code),Bg n cd=true→qp V A cd→∀{R':Type}{r:R'}{c:Ex→St→Option R'}{Q:Exit→Act→World→Prop},
  (∀e s' a' w' C',c e s'=some r→Rel w0 M0 n C0 C' s' a' w'→Q e.exit' a' w')→∀{C:Ctx}{s:St}{a:Act}{w:World},Rel w0 M0 n C0 C s a w→den V A cd s c=some r→cd.wp P Q a w:=by
 intro cd
 induction cd with
 |skip=>intro _ _ R' r c Q hq C s a w R h;exact wp_skip (hq .normal s a w C h R)
 |label l=>intro _ _ R' r c Q hq C s a w R h;exact wp_label (hq .normal s a w C h R)
 |region id ops draw=>
  intro hd _ R' r c Q hq C s a w R h
  simp only [Bg,List.all_eq_true] at hd
  have hd':∀o∈ops.toList,∀d,o.dst=some d→d<n:=fun o ho d hod=>by
   have h2:=hd o ho
   rw [hod] at h2
   have h3:Nat.blt d n=true:=h2
   exact Nat.le_of_ble_eq_true h3
  have go:∀{C:Ctx}{s:St},Rel w0 M0 n C0 C s a w→zJ V ops.toList draw s (fun s'=>c .normal s')=some r→(Code.region id ops draw).wp P Q a w:=by
   intro C s R h
   cases draw with
   |false=>exact aiq hT hE hd' (fun s' a' w' C' h R=>hq .normal s' a' w' C' h R) R h
   |true=>exact afG hT hE hd' (fun s' a' w' C' h R=>hq .normal s' a' w' C' h R) R h
  unfold den at h
  split at h
  ·exact go R h
  ·obtain ⟨C1,R1⟩:=Rel.ap4 _ R
   exact go R1 h
 |seq x y ihx ihy=>
  intro hd hL R' r c Q hq C s a w R h
  simp only [Bg,Bool.and_eq_true] at hd
  refine wp_seq (ihx hd.1 hL.1 (fun e s' a' w' C' hc R'=>?_) R h)
  cases e with
  |normal=>exact ihy hd.2 hL.2 hq R' hc
  |exit id=>exact hq (.exit id) s' a' w' C' hc R'
  |ret=>exact hq .ret s' a' w' C' hc R'
 |cond x y z ihy ihz=>
  intro hd hL R' r c Q hq C s a w R h
  simp only [Bg,Bool.and_eq_true] at hd
  simp only [den] at h
  split at h
  case h_2=>simp at h
  case h_1 zz t ht=>
  have hv:=R.eval x
  rw [ht] at hv
  refine wp_cond hv.bool ?_
  cases t with
  |true=>exact ihy hd.1 hL.1 hq R h
  |false=>exact ihz hd.2 hL.2 hq R h
 |block id x ih=>
  intro hd hL R' r c Q hq C s a w R h
  refine wp_block (ih hd hL (fun e s' a' w' C' hc R'=>?_) R h)
  cases e with
  |normal=>exact hq .normal s' a' w' C' hc R'
  |exit i=>
   simp only [Ex.exit',Exit.inBlock]
   by_cases hi:i=id
   ·rw [if_pos hi]
    simp only [beq_iff.2 hi,cond_true] at hc
    exact hq .normal s' a' w' C' hc R'
   ·rw [if_neg hi]
    simp only [gJ hi,cond_false] at hc
    exact hq (.exit i) s' a' w' C' hc R'
  |ret=>exact hq .ret s' a' w' C' hc R'
 |loop x ih=>
  intro hd hL R' r c Q hq C s a w R h
  simp only [den] at h
  split at h
  case h_2=>simp at h
  case h_1 L hfl=>
  obtain ⟨⟨e,s'⟩,hsm,h⟩:=Tre.WT h
  have hfl':∃i,eH x=some i∧gI i A=some L:=by
   cases hf:eH x with
   |none=>rw [hf] at hfl;simp at hfl
   |some i=>rw [hf] at hfl;exact ⟨i,rfl,hfl⟩
  obtain ⟨i,hi1,hi2⟩:=hfl'
  obtain ⟨m,hm⟩:=hL.2 i L hi1 hi2 _ _ _ hsm
  refine wp_loop_rounds m ?_
  have key:∀(m:Nat){C:Ctx}{s1:St}{a:Act}{w:World},Rel w0 M0 n C0 C s1 a w→iter L (fun s (c:Ex→St→Option (Ex×St))=>den V A x s c) m s1 (fun e s'=>some (e,s'))=some (e,s')→Code.rounds P x Q m a w:=by
   intro m
   induction m with
   |zero=>intro C s1 a w _ h;simp [iter] at h
   |succ m ihm=>
    intro C s1 a w R1 h1
    rw [rounds_succ]
    simp only [iter] at h1
    refine ih hd hL.1 (fun e1 s2 a' w' C' hc R'=>?_) R1 h1
    cases e1 with
    |normal=>exact ihm (R'.restrict L.kp) hc
    |exit id=>
     simp only [Option.some.injEq,Prod.mk.injEq] at hc
     refine hq (.exit id) s' a' w' C' ?_ (by rw [←hc.2];exact R'.restrict L.kx)
     rw [hc.1];exact h
    |ret=>
     simp only [Option.some.injEq,Prod.mk.injEq] at hc
     refine hq .ret s' a' w' C' ?_ (by rw [←hc.2];exact R'.restrict L.kx)
     rw [hc.1];exact h
  exact key m (R.restrict L.kp) hm
 |exit id=>intro _ _ R' r c Q hq C s a w R h;exact wp_exit (hq (.exit id) s a w C h R)
 |ret=>intro _ _ R' r c Q hq C s a w R h;exact wp_ret (hq .ret s a w C h R)
 |_=>intro _ _ R' r c Q hq C s a w R h;simp [den] at h
end
end Go.Abs
namespace Go.Abs
def cmb(rs:RF)(fs:List Root):RF:=fun q=>if q.1=1 then fs[q.2]? else rs q
structure Moved(w:World)(C0:Ctx)(rs0:RF)(C:Ctx)(rs:RF)(fs:List Root)(ks:List Kill):Prop where
 Z:C.Z=C0.Z
 S:C.S=C0.S
 pars:∀i,C.θ (par i)=C0.θ (par i)∧C.ρ (par i)=C0.ρ (par i)
 mem:Mem w C (cmb rs fs)
 leaf:∀b vs,b.dS=true→hit ks b=false→(∀q∈b.names,q.1≠1)→AVC w C0 rs0 b vs→AVC w C (cmb rs fs) b vs
 foot:∀q y b,cmb rs fs q=some y→C.F q b→∃q0 y0,rs0 q0=some y0∧C0.F q0 b
 ptr1:∀q y,cmb rs fs q=some y→∀p∈aS y.k y.d,p.1≠1
 rs1:∀i,rs (par i)=rs0 (par i)
structure Oj(w:World)(C:Ctx)(rs:RF)(fs:List Root)(ks:List Kill)(C':Ctx)(rs':RF)(fs':List Root)(ks':List Kill):Prop where
 leaf:∀b vs,b.dS=true→hit ks' b=false→(∀q∈b.names,q.1=1→q.2<fs.length)→AVC w C (cmb rs fs) b vs→AVC w C' (cmb rs' fs') b vs
 grow:fs.length≤fs'.length
 ks:∀b,hit ks' b=false→hit ks b=false
section
variable {P : Program} {V : Env} {w : World} {C0 C : Ctx} {rs0 rs : RF} {fs : List Root} {ks : List Kill}
variable {R' : Type} {r : R'}
theorem Oj.refl:Oj w C rs fs ks C rs fs ks:=⟨fun _ _ _ _ _ h=>h,Nat.le_refl _,fun _ h=>h⟩
theorem Oj.trans{C1 C2:Ctx}{rs1 rs2:RF}{fs1 fs2:List Root}{k1 k2:List Kill}(h:Oj w C rs fs ks C1 rs1 fs1 k1)(k:Oj w C1 rs1 fs1 k1 C2 rs2 fs2 k2):Oj w C rs fs ks C2 rs2 fs2 k2:=
 ⟨fun b vs hl hh hn hb=>k.leaf b vs hl hh (fun q hq h1=>Nat.lt_of_lt_of_le (hn q hq h1) h.grow) (h.leaf b vs hl (k.ks b hh) hn hb),Nat.le_trans h.grow k.grow,fun b hb=>h.ks b (k.ks b hb)⟩
theorem ajo(xs:List Kill):∀(a:AV),∀q∈(AV.kills xs a).names,q∈a.names:=by
 intro a
 induction a with
 |pair a b iha ihb=>
  intro q hq
  rw [j6] at hq
  simp only [AV.names,List.mem_append] at hq ⊢
  exact hq.imp (iha q) (ihb q)
 |tcons a b iha ihb=>
  intro q hq
  rw [kL] at hq
  simp only [AV.names,List.mem_append] at hq ⊢
  exact hq.imp (iha q) (ihb q)
 |_=>
  intro q hq
  rw [fK _ _ rfl] at hq
  cases hh:hit xs _ with
  |true=>rw [hh] at hq;cases hq
  |false=>rw [hh] at hq;exact hq
theorem AVC.anH{w':World}{C C':Ctx}{rs rs':RF}{xs:List Kill}{N:ay→Prop}
  (h:∀a vs,a.dS=true→hit xs a=false→(∀q∈a.names,N q)→AVC w C rs a vs→AVC w' C' rs' a vs):∀(a:AV)(vs:List Value),(∀q∈a.names,N q)→AVC w C rs a vs→AVC w' C' rs' (AV.kills xs a) vs:=by
 intro a
 induction a with
 |pair a b iha ihb=>
  intro vs hn hv
  obtain ⟨v1,v2,rfl,h1,h2⟩:=hv
  rw [j6]
  exact ⟨v1,v2,rfl,iha _ (fun q hq=>hn q (by simp [AV.names,hq])) h1,ihb _ (fun q hq=>hn q (by simp [AV.names,hq])) h2⟩
 |tcons a b=>intro vs _ hv;exact hv.elim
 |_=>
  intro vs hn hv
  rw [fK _ _ rfl]
  cases hx:hit xs _ with
  |true=>trivial
  |false=>exact h _ _ rfl hx hn hv
theorem GH.anH{w':World}{C C':Ctx}{rs rs':RF}{xs:List Kill}{N:ay→Prop}
  (h:∀a vs,a.dS=true→hit xs a=false→(∀q∈a.names,N q)→AVC w C rs a vs→AVC w' C' rs' a vs) {v:Value} {a:AV} (hn:∀q∈a.names,N q) (hv:GH w C rs v a):GH w' C' rs' v (AV.kills xs a):=by
 rcases hv with rfl|⟨ha,vs,rfl,hv⟩|⟨ha,hv,hc⟩
 ·left;exact rA xs
 ·right;left
  refine ⟨?_,vs,rfl,AVC.anH h _ _ hn hv⟩
  cases a with
  |pair a b=>rw [j6];rfl
  |imm z k d=>
   rw [fK _ _ rfl]
   have:hit xs (.imm z k d)=false:=by simp only [hit,List.any_eq_false];intro x _;cases x<;>simp [Kill.hits]
   rw [this];exact ha
  |_=>simp [AV.agg] at ha
 ·have hl:a.dS=true:=by cases a<;>first|rfl|exact hv.elim|(simp [AV.agg] at ha;done)
  rw [fK _ _ hl]
  cases hx:hit xs a with
  |true=>left;rfl
  |false=>right;right;exact ⟨ha,h _ _ hl hx hn hv,hc⟩
theorem afD{rs rs':RF}{k:K}{av:AV}(h:∀q∈av.names,rs' q=rs q)(c:List k.den→Mask→U→List Kill→List ay→Option R'):fU rs' k [] av c=fU rs k [] av c:=by
 cases av with
 |ref q p=>
  have:look rs' [] q=look rs [] q:=h q (by simp [AV.names])
  simp only [fU,this]
 |slc q p lo n=>
  have hq:look rs' [] q=look rs [] q:=h q (by simp [AV.names])
  cases p with
  |nil=>simp only [fU,hq]
  |cons=>rfl
 |_=>rfl
theorem aqR(M:Moved w C0 rs0 C rs fs ks){k:K}{av:AV}{v:Value}(hl:av.dS=true)(hloc:av.isLocal=true)(hh:hit ks av=false)(hn:∀q∈av.names,q.1≠1)(hv:AVC w C0 rs0 av [v])
  {c:List k.den→Mask→U→List Kill→List ay→Option R'} (h:fU rs k [] av c=some r) :
  ∃xs m u' k1 g1 C',c xs m u' k1 g1=some r∧Moved w C0 rs0 C' (look rs u') (fs++[⟨false,.sl k,m,xs⟩]) (ks++k1)∧Oj w C rs fs ks C' (look rs u') (fs++[⟨false,.sl k,m,xs⟩]) (ks++k1) ∧
   AVC w C' (cmb (look rs u') (fs++[⟨false,.sl k,m,xs⟩])) (.ref (fr fs.length) []) [v]:=by
 have hcur:=M.leaf av [v] hl hh hn hv
 have hcmb:∀q,q.1≠1→cmb rs fs q=rs q:=fun q hq=>if_neg hq
 rw [←afD (rs':=cmb rs fs) (fun q hq=>hcmb q (hn q hq)) c] at h
 have hlook0:look (cmb rs fs) []=cmb rs fs:=rfl
 obtain ⟨xs,m,u',k1,g1,C2,G,g,hown,Fd,henc,hkeys,hptr⟩:=Ba (rs:=cmb rs fs) (u:=[]) M.mem hcur h
 rw [hlook0] at Fd hptr
 have hnames:∀q∈av.names,2≤q.1:=by
  intro q hq
  cases av with
  |ref q0 p=>
   simp only [AV.names,List.mem_singleton] at hq
   subst hq
   obtain ⟨q1,q2⟩:=q
   match q1,hloc with
   |q1+2,_=>simp
  |slc q0 p lo n=>
   simp only [AV.names,List.mem_singleton] at hq
   subst hq
   obtain ⟨q1,q2⟩:=q
   match q1,hloc with
   |q1+2,_=>simp
  |nil=>cases hq
  |emp=>cases hq
  |_=>simp [AV.isLocal] at hloc
 have hu0:∀q:ay,q.1<2→dn q u'=none:=fun q hq=>hkeys q (fun h=>by have:=hnames q h;omega)
 have hrs1:∀q,q.1≠1→look (cmb rs fs) u' q=look rs u' q:=by
  intro q hq
  unfold look
  cases dn q u' with
  |some z=>rfl
  |none=>exact hcmb q hq
 have hrs2:∀j,look (cmb rs fs) u' (fr j)=fs[j]?:=by
  intro j
  unfold look
  rw [hu0 (fr j) (by simp)]
  rfl
 let C':Ctx:=C2.with (fr fs.length) 0 [v] G
 have hcase:∀{q:ay}{z:Root},cmb (look rs u') (fs++[⟨false,.sl k,m,xs⟩]) q=some z→(q=fr fs.length∧z=⟨false,.sl k,m,xs⟩)∨(q≠fr fs.length∧look (cmb rs fs) u' q=some z):=by
  rintro ⟨q1,q2⟩ z hz
  unfold cmb at hz
  by_cases h1:q1=1
  ·subst h1
   simp only [if_true] at hz
   by_cases h2:q2=fs.length
   ·subst h2
    simp only [List.getElem?_append_right (Nat.le_refl _),Nat.sub_self,List.getElem?_cons_zero,Option.some.injEq] at hz
    exact .inl ⟨rfl,hz.symm⟩
   ·have hlt:q2<fs.length:=by
     have:=(List.getElem?_eq_some_iff.1 hz).1
     simp at this;omega
    rw [List.getElem?_append_left hlt] at hz
    exact .inr ⟨by intro h;cases h;exact h2 rfl,by rw [show ((1,q2):ay)=fr q2 from rfl,hrs2];exact hz⟩
  ·rw [if_neg h1] at hz
   exact .inr ⟨by intro h;cases h;exact h1 rfl,by rw [hrs1 _ h1];exact hz⟩
 have hptr1:∀q z,cmb (look rs u') (fs++[⟨false,.sl k,m,xs⟩]) q=some z→∀p∈aS z.k z.d,p.1≠1:=by
  intro q z hz p hp
  rcases hcase hz with ⟨rfl,rfl⟩|⟨_,h2⟩
  ·obtain ⟨q0,x,hx,hp0⟩:=hptr p hp
   exact M.ptr1 q0 x hx p hp0
  ·obtain ⟨z0,hz0,_,_,hp0⟩:=Fd.was q z h2
   exact M.ptr1 q z0 hz0 p (hp0 p hp)
 have hneF:∀{p:ay},p.1≠1→p≠fr fs.length:=by rintro p hp rfl;exact hp rfl
 have hGfree:∀{b:Nat},G b→¬C.Z b∧¬C.S b∧b<w.heap.size:=fun hb=>Fd.free M.mem hb
 have hmem:Mem w C' (cmb (look rs u') (fs++[⟨false,.sl k,m,xs⟩])):=by
  refine ⟨?_,?_,?_,?_,?_⟩
  ·intro q z hz
   rcases hcase hz with ⟨rfl,rfl⟩|⟨h1,h2⟩
   ·refine ⟨G,?_,by rw [Ctx.iZ];exact .refl _,fun h=>by cases h⟩
    rw [Ctx.with_ρ0]
    show Enc w C'.θ C2.Z C2.S (.sl k) m xs [v] G
    rw [Fd.Z,Fd.S]
    exact henc.mono (.refl _) (.refl _) (.refl _) (fun _ _=>rfl) (fun p hp=>by rw [Ctx.with_θ (hneF (hptr1 _ _ hz p hp)),Fd.θ])
   ·exact (Fd.mem.ok q z h2).keep rfl rfl (Ctx.with_θ h1) (Ctx.with_ρ h1) (Ctx.iU h1) (fun p hp=>Ctx.with_θ (hneF (hptr1 _ _ hz p hp))) (fun _ _=>rfl)
  ·intro q q' z z' hz hz' hne
   rcases hcase hz with ⟨rfl,rfl⟩|⟨h1,h2⟩<;>rcases hcase hz' with ⟨rfl,rfl⟩|⟨k1,k2⟩
   ·exact absurd rfl hne
   ·rw [Ctx.iZ,Ctx.iU k1];exact Fd.gdisj q' z' k2
   ·rw [Ctx.iZ,Ctx.iU h1];exact (Fd.gdisj q z h2).symm
   ·rw [Ctx.iU h1,Ctx.iU k1];exact Fd.mem.disj q q' z z' h2 k2 hne
  ·intro q z b hz hb
   show ¬C2.Z b∧¬C2.S b∧_
   rcases hcase hz with ⟨rfl,rfl⟩|⟨h1,h2⟩
   ·rw [Ctx.iZ] at hb;rw [Fd.Z,Fd.S];exact hGfree hb
   ·rw [Ctx.iU h1] at hb;exact Fd.mem.apart q z b h2 hb
  ·exact Fd.mem.ro
  ·intro q z hz p hp z2 hz2
   rcases hcase hz2 with ⟨rfl,rfl⟩|⟨k1,k2⟩
   ·exact absurd rfl (hptr1 q z hz _ hp)
   ·rcases hcase hz with ⟨rfl,rfl⟩|⟨h1,h2⟩
    ·obtain ⟨q0,x,hx,hp0⟩:=hptr p hp
     obtain ⟨z0,hz0,_,hm0,_⟩:=Fd.was p z2 k2
     rw [hm0];exact M.mem.ptr q0 x hx p hp0 z0 hz0
    ·exact Fd.mem.ptr q z h2 p hp z2 k2
 have hstage:∀b vs,b.dS=true→hit k1 b=false→(∀q∈b.names,q.1=1→q.2<fs.length)→AVC w C (cmb rs fs) b vs→AVC w C' (cmb (look rs u') (fs++[⟨false,.sl k,m,xs⟩])) b vs:=by
  intro b vs hl hh hn hb
  refine kN (C':=C') Fd.mem (fun q=>q=fr fs.length) rfl rfl (fun q hq=>Ctx.with_θ hq) (fun q hq=>Ctx.with_ρ hq) ?_ (fun _ _=>rfl) hl (fun q hq h=>by
   have:=hn q hq (by rw [h]);rw [h] at this;simp at this) (Fd.leaf b vs hl hh hb)
  intro q z hq hz
  rcases hcase hz with ⟨h,_⟩|⟨_,h2⟩
  ·exact absurd h hq
  ·exact h2
 refine ⟨xs,m,u',k1,g1,C',g,⟨Fd.Z.trans M.Z,Fd.S.trans M.S,fun i=>?_,hmem,?_,?_,hptr1,fun i=>?_⟩,⟨fun b vs hl hh hn hb=>?_,by simp,fun b hb=>?_⟩,?_⟩
 ·rw [Ctx.with_θ (by intro h;cases h),Ctx.with_ρ (by intro h;cases h),Fd.θ,Fd.ρ];exact M.pars i
 ·intro b vs hl hh hn hb
  rw [Ed,Bool.or_eq_false_iff] at hh
  exact hstage b vs hl hh.2 (fun q hq h1=>absurd h1 (hn q hq)) (M.leaf b vs hl hh.1 hn hb)
 ·intro q z b hz hb
  rcases hcase hz with ⟨rfl,rfl⟩|⟨h1,h2⟩
  ·rw [Ctx.iZ] at hb
   obtain ⟨q0,y0,hy0,hb0⟩:=Fd.gfoot b hb
   exact M.foot q0 y0 b hy0 hb0
  ·rw [Ctx.iU h1] at hb
   obtain ⟨z0,hz0,hs0,_⟩:=Fd.was q z h2
   exact M.foot q z0 b hz0 (hs0 b hb)
 ·unfold look
  rw [hu0 (par i) (by simp)]
  exact M.rs1 i
 ·rw [Ed,Bool.or_eq_false_iff] at hh
  exact hstage b vs hl hh.2 hn hb
 ·rw [Ed,Bool.or_eq_false_iff] at hb;exact hb.1
 ·refine ⟨v,rfl,fun z hz=>?_⟩
  rcases hcase hz with ⟨_,rfl⟩|⟨h,_⟩
  ·exact ⟨k,none,rfl,trivial,by rw [cZ,Ctx.with_ρ0];rfl⟩
  ·exact absurd rfl h
theorem arv{w:World}{C:Ctx}{rs:RF}{av:AV}{vs:List Value}(h:AVC w C rs av vs)(hl:av.isLocal=true):∃v,vs=[v]:=by
 cases av with
 |nil=>exact ⟨_,h⟩
 |emp=>obtain ⟨a,h⟩:=h;exact ⟨_,h⟩
 |ref=>obtain ⟨v,h,_⟩:=h;exact ⟨v,h⟩
 |slc=>obtain ⟨v,_,h,_⟩:=h;exact ⟨v,h⟩
 |_=>cases hl
structure atb(w:World)(C0:Ctx)(rs0:RF)(C:Ctx)(rs:RF)(fs:List Root)(ks:List Kill)(av a':AV)(rs':RF)(fs':List Root)(ks':List Kill)(C':Ctx)(vs:List Value):Prop where
 moved:Moved w C0 rs0 C' rs' fs' ks'
 stage:Oj w C rs fs ks C' rs' fs' ks'
 val:AVC w C' (cmb rs' fs') a' vs
 names:∀q∈a'.names,q.1=1→q.2<fs'.length
 agg:a'.agg=av.agg
theorem asx(M:Moved w C0 rs0 C rs fs ks){q:ay}(hq:2≤q.1)(hh:hit ks (.ptr q [])=false){x:Root}(hx:rs q=some x)(hxm:x.mem=true){vs:List Value}(hv:AVC w C0 rs0 (.ptr q []) vs) :
  ∃C',Moved w C0 rs0 C' (look rs [(q,none)]) (fs++[x]) ks∧Oj w C rs fs ks C' (look rs [(q,none)]) (fs++[x]) ks∧AVC w C' (cmb (look rs [(q,none)]) (fs++[x])) (.ptr (fr fs.length) []) vs:=by
 have hcur:=M.leaf (.ptr q []) vs rfl hh (by intro p hp;simp only [AV.names,List.mem_singleton] at hp;subst hp;omega) hv
 have hx0:cmb rs fs q=some x:=by unfold cmb;rw [if_neg (by omega)];exact hx
 let C':Ctx:=C.with (fr fs.length) (C.θ q) (C.ρ q) (C.F q)
 have hcase:∀{p:ay}{z:Root},cmb (look rs [(q,none)]) (fs++[x]) p=some z→(p=fr fs.length∧z=x)∨(p≠fr fs.length∧p≠q∧cmb rs fs p=some z):=by
  rintro ⟨q1,q2⟩ z hz
  unfold cmb at hz
  by_cases h1:q1=1
  ·subst h1
   simp only [if_true] at hz
   by_cases h2:q2=fs.length
   ·subst h2
    simp only [List.getElem?_append_right (Nat.le_refl _),Nat.sub_self,List.getElem?_cons_zero,Option.some.injEq] at hz
    exact .inl ⟨rfl,hz.symm⟩
   ·have hlt:q2<fs.length:=by
     have:=(List.getElem?_eq_some_iff.1 hz).1
     simp at this;omega
    rw [List.getElem?_append_left hlt] at hz
    refine .inr ⟨by intro h;cases h;exact h2 rfl,by rintro rfl;simp at hq,?_⟩
    unfold cmb;rw [if_pos rfl];exact hz
  ·rw [if_neg h1] at hz
   unfold look at hz
   simp only [dn] at hz
   by_cases hqq:((q1,q2):ay)=q
   ·rw [bW.2 hqq] at hz;cases hz
   ·rw [gN hqq] at hz
    refine .inr ⟨by intro h;cases h;exact h1 rfl,hqq,?_⟩
    unfold cmb;rw [if_neg h1];exact hz
 have hptr1:∀p z,cmb (look rs [(q,none)]) (fs++[x]) p=some z→∀t∈aS z.k z.d,t.1≠1:=by
  intro p z hz t ht
  rcases hcase hz with ⟨rfl,rfl⟩|⟨_,_,h2⟩
  ·exact M.ptr1 q z hx0 t ht
  ·exact M.ptr1 p z h2 t ht
 have hneF:∀{p:ay},p.1≠1→p≠fr fs.length:=by rintro p hp rfl;exact hp rfl
 have hmem:Mem w C' (cmb (look rs [(q,none)]) (fs++[x])):=by
  refine ⟨?_,?_,?_,?_,?_⟩
  ·intro p z hz
   rcases hcase hz with ⟨rfl,rfl⟩|⟨h1,_,h2⟩
   ·obtain ⟨G,g1,g2,g3⟩:=M.mem.ok q z hx0
    refine ⟨G,?_,by rw [Ctx.iZ];exact g2,fun hm=>by rw [Ctx.with_θ0,Ctx.iZ,Ctx.with_ρ0];exact g3 hm⟩
    rw [Ctx.with_ρ0]
    exact g1.mono (.refl _) (.refl _) (.refl _) (fun _ _=>rfl) (fun t ht=>by rw [Ctx.with_θ (hneF (hptr1 _ _ hz t ht))])
   ·exact (M.mem.ok p z h2).keep rfl rfl (Ctx.with_θ h1) (Ctx.with_ρ h1) (Ctx.iU h1) (fun t ht=>Ctx.with_θ (hneF (hptr1 _ _ hz t ht))) (fun _ _=>rfl)
  ·intro p p' z z' hz hz' hne
   rcases hcase hz with ⟨rfl,rfl⟩|⟨h1,h1',h2⟩<;>rcases hcase hz' with ⟨rfl,rfl⟩|⟨k1,k1',k2⟩
   ·exact absurd rfl hne
   ·rw [Ctx.iZ,Ctx.iU k1];exact M.mem.disj q p' z z' hx0 k2 (Ne.symm k1')
   ·rw [Ctx.iZ,Ctx.iU h1];exact M.mem.disj p q z z' h2 hx0 h1'
   ·rw [Ctx.iU h1,Ctx.iU k1];exact M.mem.disj p p' z z' h2 k2 hne
  ·intro p z b hz hb
   rcases hcase hz with ⟨rfl,rfl⟩|⟨h1,_,h2⟩
   ·rw [Ctx.iZ] at hb;exact M.mem.apart q z b hx0 hb
   ·rw [Ctx.iU h1] at hb;exact M.mem.apart p z b h2 hb
  ·exact M.mem.ro
  ·intro p z hz t ht z2 hz2
   rcases hcase hz2 with ⟨rfl,rfl⟩|⟨k1,_,k2⟩
   ·exact absurd rfl (hptr1 p z hz _ ht)
   ·rcases hcase hz with ⟨rfl,rfl⟩|⟨_,_,h2⟩
    ·exact M.mem.ptr q z hx0 t ht z2 k2
    ·exact M.mem.ptr p z h2 t ht z2 k2
 have hstage:∀b vs,b.dS=true→(∀t∈b.names,t.1=1→t.2<fs.length)→AVC w C (cmb rs fs) b vs→AVC w C' (cmb (look rs [(q,none)]) (fs++[x])) b vs:=by
  intro b vs hl hn hb
  refine kN (C':=C') M.mem (fun t=>t=fr fs.length) rfl rfl (fun t ht=>Ctx.with_θ ht) (fun t ht=>Ctx.with_ρ ht) ?_ (fun _ _=>rfl) hl (fun t ht h=>by
   have:=hn t ht (by rw [h]);rw [h] at this;simp at this) hb
  intro t z ht hz
  rcases hcase hz with ⟨h,_⟩|⟨_,_,h2⟩
  ·exact absurd h ht
  ·exact h2
 refine ⟨C',⟨M.Z,M.S,fun i=>?_,hmem,?_,?_,hptr1,fun i=>?_⟩,⟨fun b vs hl _ hn hb=>hstage b vs hl hn hb,by simp,fun b hb=>hb⟩,?_⟩
 ·rw [Ctx.with_θ (by intro h;cases h),Ctx.with_ρ (by intro h;cases h)];exact M.pars i
 ·intro b vs hl hh hn hb
  exact hstage b vs hl (fun t ht h1=>absurd h1 (hn t ht)) (M.leaf b vs hl hh hn hb)
 ·intro p z b hz hb
  rcases hcase hz with ⟨rfl,rfl⟩|⟨h1,_,h2⟩
  ·rw [Ctx.iZ] at hb;exact M.foot q z b hx0 hb
  ·rw [Ctx.iU h1] at hb;exact M.foot p z b h2 hb
 ·unfold look
  simp only [dn]
  rw [gN (by rintro rfl;simp at hq)]
  exact M.rs1 i
 ·obtain ⟨b,off,rfl,h0,hroot⟩:=hcur
  obtain ⟨rfl,rfl⟩:=h0 rfl
  refine ⟨_,_,rfl,fun _=>⟨by rw [Ctx.with_θ0],rfl⟩,fun z hz=>?_⟩
  rcases hcase hz with ⟨_,rfl⟩|⟨h,_⟩
  ·refine ⟨z.k,C.ρ q,at_nil _,dP _ _ _,?_⟩
   rw [cZ,Ctx.with_ρ0]
   unfold bK
   rw [if_pos hxm,Ctx.with_θ0]
  ·exact absurd rfl h
theorem aci{rs:RF}{av b:AV}(h:wS rs av=some b):∃q x z,av=.ref q []∧q.1≠1∧rs q=some x∧x.mem=false∧x.m=.imm z∧x.k.plain=true∧b=.imm z x.k x.d:=by
 unfold wS at h
 split at h
 case h_2=>cases h
 case h_1 d j=>
 split at h
 case h_2=>cases h
 case h_1 x hx=>
 cases hm:x.mem with
 |true=>rw [hm] at h;cases h
 |false=>
 rw [hm] at h
 simp only [cond_false] at h
 split at h
 case h_2=>cases h
 case h_1 z hz=>
 cases hp:x.k.plain with
 |false=>rw [hp] at h;cases h
 |true=>
 rw [hp] at h
 simp only [cond_true,Option.some.injEq] at h
 exact ⟨(d+2,j),x,z,rfl,by simp,hx,hm,hz,hp,h.symm⟩
theorem vo(M:Moved w C0 rs0 C rs fs ks){e:Option K}{av:AV}(hl:av.dS=true)(hg:av.agg=false)(hn:∀q∈av.names,q.1≠1){vs:List Value}(hv:AVC w C0 rs0 av vs)
  {c:AV→RF→List Root→List Kill→Option R'}
  (h:(bif hit ks av then none else match wS rs av with
   |some b=>c b rs fs ks
   |none=>bif av.isLocal then (match e with
   |some (.sl k)=>fU rs k [] av fun xs m u' k1 _=>c (.ref (fr fs.length) []) (look rs u') (fs++[⟨false,.sl k,m,xs⟩]) (ks++k1)
   |some _=>none
   |none=>match av with
    |.nil=>c .nil rs fs ks
    |_=>none) else Rk av ks rs fs c)=some r) :
  ∃a' rs' fs' ks' C',c a' rs' fs' ks'=some r∧atb w C0 rs0 C rs fs ks av a' rs' fs' ks' C' vs:=by
 cases hh:hit ks av with
 |true=>rw [hh] at h;cases h
 |false=>
 rw [hh] at h
 simp only [cond_false] at h
 cases hfz:wS rs av with
 |some b=>
  rw [hfz] at h
  have hcur:=M.leaf av vs hl hh hn hv
  obtain ⟨q,x,z,rfl,hq1,hx,hxm,hmk,hpl,rfl⟩:=aci hfz
  obtain ⟨v,rfl,hroot⟩:=hcur
  have hx':cmb rs fs q=some x:=by unfold cmb;rw [if_neg hq1];exact hx
  obtain ⟨e',base,hat,_,hloc⟩:=hroot x hx'
  rw [at_nil] at hat
  rw [cZ] at hloc
  simp only [Option.some.injEq,Prod.mk.injEq] at hloc hat
  obtain ⟨G,hE,_,_⟩:=M.mem.ok q x hx'
  rw [hmk,hloc.1] at hE
  refine ⟨_,_,_,_,C,h,M,.refl,⟨hpl,hE.arU⟩,fun q hq=>(by cases hq),?_⟩
  show x.k.isAgg=false
  rw [hat];rfl
 |none=>
 rw [hfz] at h
 dsimp only at h
 cases hloc:av.isLocal with
 |true=>
  rw [hloc] at h
  simp only [cond_true] at h
  split at h
  case h_2=>cases h
  case h_3=>
   have hcur:=M.leaf av vs hl hh hn hv
   split at h
   ·exact ⟨_,_,_,_,C,h,M,.refl,hcur,fun q hq=>(by cases hq),rfl⟩
   ·simp at h
  case h_1 k=>
  obtain ⟨v,rfl⟩:=arv hv hloc
  obtain ⟨xs,m,u',k1,g1,C',g,h1,h2,h3⟩:=aqR M hl hloc hh hn hv h
  refine ⟨_,_,_,_,C',g,h1,h2,h3,fun q hq _=>?_,hg.symm⟩
  simp only [AV.names,List.mem_singleton] at hq
  subst hq
  simp
 |false=>
  rw [hloc] at h
  simp only [cond_false] at h
  have hcur:=M.leaf av vs hl hh hn hv
  unfold Rk at h
  split at h
  ·exact ⟨_,_,_,_,C,h,M,.refl,hcur,fun q hq h1=>absurd h1 (hn q hq),rfl⟩
  ·exact ⟨_,_,_,_,C,h,M,.refl,hcur,fun q hq h1=>absurd h1 (hn q hq),rfl⟩
  ·exact ⟨_,_,_,_,C,h,M,.refl,hcur,fun q hq h1=>absurd h1 (hn q hq),rfl⟩
  ·split at h
   case h_2=>simp at h
   case h_1 x hx=>
   cases hxm:x.mem with
   |false=>rw [hxm] at h;simp at h
   |true=>
   rw [hxm] at h
   simp only [cond_true] at h
   obtain ⟨C',h1,h2,h3⟩:=asx M (by simp) hh hx hxm hv
   refine ⟨_,_,_,_,C',h,h1,h2,h3,fun q hq _=>?_,rfl⟩
   simp only [AV.names,List.mem_singleton] at hq
   subst hq
   simp
  ·simp at h
theorem VF{ks:List Kill}{av:AV}(h:∀x:Kill,x.hits av=false):hit ks av=false:=by
 simp only [hit,List.any_eq_false]
 intro x _
 rw [h x];simp
theorem aeU(a b:AV):∀q∈(AV.flatten a b).names,q∈a.names∨q∈b.names:=by
 intro q hq
 unfold AV.flatten at hq
 split at hq
 ·cases hq
 ·simpa [AV.names] using hq
theorem aae:∀(av:AV){e:Option K}{C:Ctx}{rs:RF}{fs:List Root}{ks:List Kill}{c:AV→RF→List Root→List Kill→Option R'}{vs:List Value},Moved w C0 rs0 C rs fs ks→(∀q∈av.names,q.1≠1)→AVC w C0 rs0 av vs →
  WK e av ks rs fs c=some r→∃a' rs' fs' ks' C',c a' rs' fs' ks'=some r∧atb w C0 rs0 C rs fs ks av a' rs' fs' ks' C' vs:=by
 intro av
 induction av with
 |imm z k d=>
  intro e C rs fs ks c vs M hn hv h
  exact ⟨_,_,_,_,C,h,M,.refl,M.leaf _ _ rfl (VF fun x=>by cases x<;>rfl) hn hv,fun q hq=>(by cases hq),rfl⟩
 |nilp=>
  intro e C rs fs ks c vs M hn hv h
  exact ⟨_,_,_,_,C,h,M,.refl,M.leaf _ _ rfl (VF fun x=>by cases x<;>rfl) hn hv,fun q hq=>(by cases hq),rfl⟩
 |pair a b iha ihb=>
  intro e C rs fs ks c vs M hn hv h
  simp only [WK] at h
  split at h
  case h_2=>simp at h
  case h_1 ka kb=>
  obtain ⟨v1,v2,rfl,h1,h2⟩:=hv
  obtain ⟨a',rs1,fs1,ks1,C1,h,A⟩:=iha M (fun q hq=>hn q (by simp [AV.names,hq])) h1 h
  obtain ⟨b',rs2,fs2,ks2,C2,h,B⟩:=ihb A.moved (fun q hq=>hn q (by simp [AV.names,hq])) h2 h
  refine ⟨_,_,_,_,C2,h,B.moved,A.stage.trans B.stage,AVC.flatten (AVC.anH (fun b vs hl hh hn hb=>B.stage.leaf b vs hl hh hn hb) _ _ A.names A.val) B.val,fun q hq h1=>?_,by rw [GL];rfl⟩
  rcases aeU _ _ q hq with hq|hq
  ·exact Nat.lt_of_lt_of_le (A.names q (ajo _ _ q hq) h1) B.stage.grow
  ·exact B.names q hq h1
 |tcons a b _ _=>intro e C rs fs ks c vs M hn hv h;exact hv.elim
 |tnil=>intro e C rs fs ks c vs M hn hv h;exact hv.elim
 |dead=>
  intro e C rs fs ks c vs M hn hv h
  exact vo M rfl rfl hn hv h
 |nil=>intro e C rs fs ks c vs M hn hv h;exact vo M rfl rfl hn hv h
 |emp=>intro e C rs fs ks c vs M hn hv h;exact vo M rfl rfl hn hv h
 |ref q p=>intro e C rs fs ks c vs M hn hv h;exact vo M rfl rfl hn hv h
 |slc q p lo k0=>intro e C rs fs ks c vs M hn hv h;exact vo M rfl rfl hn hv h
 |ptr q p=>intro e C rs fs ks c vs M hn hv h;exact vo M rfl rfl hn hv h
 |iptr z k d p=>intro e C rs fs ks c vs M hn hv h;exact vo M rfl rfl hn hv h
 |nn z k d=>intro e C rs fs ks c vs M hn hv h;exact vo M rfl rfl hn hv h
 |vw q p L=>intro e C rs fs ks c vs M hn hv h;exact vo M rfl rfl hn hv h
 |fn f caps=>intro e C rs fs ks c vs M hn hv h;exact vo M rfl rfl hn hv h
theorem ahI{av:AV}{e:Option K}(M:Moved w C0 rs0 C rs fs ks)(hn:∀q∈av.names,q.1≠1){v:Value}(hv:bH w C0 rs0 v av){c:AV→RF→List Root→List Kill→Option R'}(h:WK e av ks rs fs c=some r) :
  ∃a' rs' fs' ks' C',c a' rs' fs' ks'=some r∧Moved w C0 rs0 C' rs' fs' ks'∧Oj w C rs fs ks C' rs' fs' ks'∧GH w C' (cmb rs' fs') v a'∧∀q∈a'.names,q.1=1→q.2<fs'.length:=by
 rcases hv with (rfl|⟨hg,vs,rfl,hA⟩|⟨hg,hA,hc⟩)|⟨vs,_,ht⟩
 ·simp only [WK] at h
  rw [VF fun x=>by cases x<;>rfl] at h
  simp [AV.isLocal,Rk,wS] at h
 ·obtain ⟨a',rs',fs',ks',C',h,A⟩:=aae av M hn hA h
  exact ⟨a',rs',fs',ks',C',h,A.moved,A.stage,.inr (.inl ⟨by rw [A.agg];exact hg,vs,rfl,A.val⟩),A.names⟩
 ·obtain ⟨a',rs',fs',ks',C',h,A⟩:=aae av M hn hA h
  exact ⟨a',rs',fs',ks',C',h,A.moved,A.stage,.inr (.inr ⟨by rw [A.agg];exact hg,A.val,hc⟩),A.names⟩
 ·cases av with
  |tnil=>simp only [WK] at h;rw [VF fun x=>by cases x<;>rfl] at h;simp [AV.isLocal,Rk,wS] at h
  |tcons a b=>simp only [WK] at h;cases hh:hit ks (.tcons a b)<;>rw [hh] at h<;>simp [AV.isLocal,Rk,wS] at h
  |_=>exact ht.elim
theorem afi:∀(l:List (AV×Option K))(vals:List Value){C:Ctx}{rs:RF}{fs:List Root}{ks:List Kill}{c:AV→RF→List Root→List Kill→Option R'},Moved w C0 rs0 C rs fs ks→afJ l=false→l.length=vals.length →
  (∀(i:Nat)(x:AV×Option K)(v:Value),l[i]?=some x→vals[i]?=some v→bH w C0 rs0 v x.1)→WL l ks rs fs c=some r →
  ∃t rs' fs' ks' C',c t rs' fs' ks'=some r∧Moved w C0 rs0 C' rs' fs' ks'∧Oj w C rs fs ks C' rs' fs' ks'∧XT w C' (cmb rs' fs') t vals:=by
 intro l
 induction l with
 |nil=>
  intro vals C rs fs ks c M _ hlen _ h
  have:vals=[]:=List.eq_nil_of_length_eq_zero hlen.symm
  subst this
  exact ⟨_,_,_,_,C,h,M,.refl,rfl⟩
 |cons x l ih=>
  intro vals C rs fs ks c M hfr hlen hv h
  obtain ⟨a,k⟩:=x
  cases vals with
  |nil=>simp at hlen
  |cons v vals=>
  simp only [afJ,Bool.or_eq_false_iff] at hfr
  have hn:∀q∈a.names,q.1≠1:=by
   intro q hq h1
   have:=hfr.1
   simp only [atl,List.any_eq_false] at this
   exact this q hq (beq_iff.2 h1)
  simp only [WL] at h
  obtain ⟨a',rs1,fs1,ks1,C1,h,M1,S1,V1,N1⟩:=ahI M hn (hv 0 (a,k) v rfl rfl) h
  obtain ⟨t,rs2,fs2,ks2,C2,h,M2,S2,T2⟩:=ih vals M1 hfr.2 (by simpa using hlen) (fun i x v hx hvv=>hv (i+1) x v (by simpa using hx) (by simpa using hvv)) h
  exact ⟨_,_,_,_,C2,h,M2,S1.trans S2,v,vals,rfl,GH.anH (fun b vs hl hh hn hb=>S2.leaf b vs hl hh hn hb) N1 V1,T2⟩
end
end Go.Abs
namespace Go.Abs
section
variable {P : Program} {V : Env}
theorem ao4:∀(l:List AV)(k t:Nat),XM (af3 k l) t=if k≤t then (l[t-k]?).getD .dead else .dead:=by
 intro l
 induction l with
 |nil=>intro k t;simp [af3,XM]
 |cons a l ih=>
  intro k t
  simp only [af3,XM]
  by_cases h:t=k
  ·rw [beq_iff.2 h];subst h;simp
  ·rw [gJ h]
   simp only [cond_false,ih]
   by_cases h2:k≤t
   ·rw [if_pos (by omega),if_pos h2,show t-k=(t-(k+1))+1 by omega];simp
   ·rw [if_neg (by omega),if_neg h2]
theorem aoL:∀(l:List Root)(k:Nat)(q:ay),WM (af2 k l) q=if q.1=0∧k≤q.2 then l[q.2-k]? else none:=by
 intro l
 induction l with
 |nil=>intro k q;simp [af2,WM]
 |cons a l ih=>
  intro k q
  simp only [af2,WM]
  by_cases h:q=par k
  ·rw [bW.2 h];subst h;simp
  ·rw [gN h]
   simp only [cond_false,ih]
   obtain ⟨q1,q2⟩:=q
   by_cases h2:q1=0∧k≤q2
   ·have hne:q2≠k:=by rintro rfl;exact h (by rw [h2.1])
    rw [if_pos ⟨h2.1,by simp;omega⟩,if_pos h2]
    simp only
    rw [show q2-k=(q2-(k+1))+1 by omega];simp
   ·rw [if_neg h2,if_neg (fun h3=>h2 ⟨h3.1,by have:=h3.2;simp at this;omega⟩)]
theorem alT(l:List Root):WM (af2 0 l)=WO l:=by
 funext q
 rw [aoL]
 obtain ⟨q1,q2⟩:=q
 match q1 with
 |0=>simp [WO]
 |q1+1=>simp [WO]
theorem alk{m n:Nat}(hmn:m≤n):∀(c:Code),Bg m c=true→Bg n c=true:=by
 intro c
 induction c with
 |region id ops draw=>
  intro h
  simp only [Bg,List.all_eq_true] at h ⊢
  refine fun o ho=>?_
  have h2:=h o ho
  cases hd:o.dst with
  |none=>rfl
  |some d=>
   rw [hd] at h2
   have h3:Nat.blt d m=true:=h2
   have h4:d+1≤m:=Nat.le_of_ble_eq_true h3
   show Nat.ble (d+1) n=true
   exact Nat.ble_eq_true_of_le (Nat.le_trans h4 hmn)
 |seq a b iha ihb=>intro h;simp only [Bg,Bool.and_eq_true] at h ⊢;exact ⟨iha h.1,ihb h.2⟩
 |cond x a b iha ihb=>intro h;simp only [Bg,Bool.and_eq_true] at h ⊢;exact ⟨iha h.1,ihb h.2⟩
 |block id a ih=>intro h;exact ih h
 |loop a ih=>intro h;exact ih h
 |_=>intro _;rfl
theorem afh{rs:RF}:∀(n i:Nat){ps:List Root},EX rs i n=some ps→ps.length=n∧∀(j:Nat)(x:Root),ps[j]?=some x→rs (par (i+j))=some x:=by
 intro n
 induction n with
 |zero=>intro i ps h;simp only [EX,Option.some.injEq] at h;subst h;exact ⟨rfl,by simp⟩
 |succ n ih=>
  intro i ps h
  simp only [EX] at h
  split at h
  case h_2=>simp at h
  case h_1 x hx=>
  cases hr:EX rs (i+1) n with
  |none=>rw [hr] at h;simp at h
  |some ps'=>
   rw [hr] at h
   simp only [Option.map_some,Option.some.injEq] at h
   subst h
   obtain ⟨h1,h2⟩:=ih _ hr
   refine ⟨by simp [h1],fun j y hj=>?_⟩
   cases j with
   |zero=>simp only [List.getElem?_cons_zero,Option.some.injEq] at hj;subst hj;exact hx
   |succ j=>have:=h2 j y (by simpa using hj);rw [show i+(j+1)=i+1+j by omega];exact this
theorem ap6{R:Type}(k:K)(d:k.den)(m:Mask)(c:(k':K)→k'.den→Mask→Option R):iF k d m [] c=c k d m:=by cases k<;>rfl
theorem aj1{w0 w:World}{M0:BS}{n:Nat}{C0 C:Ctx}{st:St}{a:Act}(hT:gq P V)(R:Rel w0 M0 n C0 C st a w):∀(l:List ResultVar)(ts:List TypeId){vals:List (AV×Option K)},yG V st.tmps st.roots l ts=some vals →
  ∃vs:List Value,vs.length=vals.length∧(∀(i:Nat)(x:AV×Option K)(v:Value),vals[i]?=some x→vs[i]?=some v→bH w C st.roots v x.1)∧∀(g:ResultVar→Sem Value),(∀t,g (.tmp t)=pure (a.tmps.getD t undef))→(∀t T,g (.cell t T)=(do loadVar T (←asAddr (a.tmps.getD t undef))))→(List.mapM g l).run P w=.ok vs w:=by
 intro l
 induction l with
 |nil=>intro ts vals h;simp only [yG,Option.some.injEq] at h;subst h;exact ⟨[],rfl,by simp,fun _ _ _=>rfl⟩
 |cons r l ih=>
  intro ts vals h
  have step:∀(x:AV×Option K)(v:Value),(yG V st.tmps st.roots l ts.tail).map (x::·)=some vals→bH w C st.roots v x.1→(∀(g:ResultVar→Sem Value),(∀t,g (.tmp t)=pure (a.tmps.getD t undef))→(∀t T,g (.cell t T)=(do loadVar T (←asAddr (a.tmps.getD t undef))))→(g r).run P w=.ok v w) →
    ∃vs:List Value,vs.length=vals.length∧(∀(i:Nat)(x:AV×Option K)(v:Value),vals[i]?=some x→vs[i]?=some v→bH w C st.roots v x.1)∧∀(g:ResultVar→Sem Value),(∀t,g (.tmp t)=pure (a.tmps.getD t undef))→(∀t T,g (.cell t T)=(do loadVar T (←asAddr (a.tmps.getD t undef))))→(List.mapM g (r::l)).run P w=.ok vs w:=by
   intro x v hm hv hrun
   cases hr:yG V st.tmps st.roots l ts.tail with
   |none=>rw [hr] at hm;simp at hm
   |some vals'=>
    rw [hr] at hm
    simp only [Option.map_some,Option.some.injEq] at hm
    subst hm
    obtain ⟨vs,h1,h2,h3⟩:=ih _ hr
    refine ⟨v::vs,by simp [h1],fun i y u hy hu=>?_,fun g hg hg2=>by simp only [List.mapM_cons,Sem.run_bind,hrun g hg hg2,Result.andThen_ok,h3 g hg hg2,Sem.run_pure]⟩
    cases i with
    |zero=>simp only [List.getElem?_cons_zero,Option.some.injEq] at hy hu;subst hy;subst hu;exact hv
    |succ i=>exact h2 i y u (by simpa using hy) (by simpa using hu)
  cases r with
  |tmp t=>
   simp only [yG] at h
   exact step _ _ h (R.tm t) (fun g hg _=>by rw [hg];rfl)
  |cell t T=>
   simp only [yG] at h
   split at h
   case h_2=>simp at h
   case h_1 k q hk e1=>
   split at h
   case h_2=>simp at h
   case h_1 y hy=>
   split at h
   case isFalse=>simp at h
   case isTrue hc=>
   obtain ⟨hmem,hkk⟩:=hc
   obtain ⟨ti,hti,hki⟩:=Env.wz hk
   have hty:=hT.ty _ _ hti
   have hx:=R.tm t
   rw [e1] at hx
   obtain ⟨⟨b,off,hv,hbo,hroot⟩,_⟩:=hx.cell (by simp) rfl (by simp) (by simp)
   simp only [List.cons.injEq,and_true] at hv
   obtain ⟨rfl,rfl⟩:=hbo rfl
   obtain ⟨k',d,m,vs,b1,hp,hc2⟩:=iw (p:=[]) (c:=fun k' d m=>some ((⟨k',d⟩:Σ k:K,k.den),m)) (R.mem.ok _ _ hy) (ap6 _ _ _ _)
   simp only [Option.some.injEq,Prod.mk.injEq,Sigma.mk.injEq] at hc2
   obtain ⟨⟨rfl,hd⟩,rfl⟩:=hc2
   cases hd
   obtain ⟨k2,cs,g1,g2,g3⟩:=hroot y hy
   rw [hp.lc] at g3
   simp only [Option.some.injEq,Prod.mk.injEq] at g3
   obtain ⟨rfl,rfl⟩:=g3
   obtain ⟨F,he⟩:=hp.enc
   have hr:=abY R.mem hy hp
   have hm:y.k.isAgg=false→TK q y.k [] y.d y.m≠.dead→(valOf y.k vs).cells = #[valOf y.k vs]:=fun hg hd=>he.cellV (XY hd) hg
   refine step _ (valOf y.k vs) h (bH.val hr.1 he.len hr.2 hm) ?_
   have hki:ti.k=y.k:=hki.trans hkk.symm
   have hrun:=EY (P:=P) hty hp.lies (by rw [hki];exact he.len) (v:=valOf y.k vs) (by rw [hki];exact sj he.len)
   intro g _ hg2
   rw [hg2,hv]
   simpa [Instr.loadAt,Instr.sureAddr,asAddr] using hrun
theorem aj6{fn:Func}{w0 w:World}{M0:BS}{n:Nat}{C0 C:Ctx}{st:St}{a:Act}(hT:gq P V)(R:Rel w0 M0 n C0 C st a w){ts:List TypeId}{vals:List (AV×Option K)}(h:yG V st.tmps st.roots fn.results.toList ts=some vals) :
  ∃vs:List Value,vs.length=vals.length∧(∀(i:Nat)(x:AV×Option K)(v:Value),vals[i]?=some x→vs[i]?=some v→bH w C st.roots v x.1) ∧
   (results fn a.tmps).run P w=.ok (match vs with|[v]=>v|vs=>.tuple vs.toArray) w:=by
 obtain ⟨vs,h1,h2,h3⟩:=aj1 hT R _ _ h
 refine ⟨vs,h1,h2,?_⟩
 unfold results
 have he:fn.results=fn.results.toList.toArray:=by simp
 rw [he,List.mapM_toArray]
 simp only [Sem.run_bind,Sem.run_map]
 rw [h3 _ (fun t=>rfl) (fun t T=>rfl)]
 simp only [Result.andThen_ok,Sem.run_pure]
 cases vs with
 |nil=>rfl
 |cons v vl=>
  cases vl with
  |nil=>rfl
  |cons v2 vl=>simp
theorem Rel.Jy{w0 w:World}{M0:BS}{n:Nat}{C0 C:Ctx}{s:St}{a:Act}{V:Env}(h:Rel w0 M0 n C0 C s a w):∃C',Rel w0 M0 n C0 C' (Jy V s) a w:=by
 unfold Go.Abs.Jy
 split
 ·exact ⟨C,h⟩
 ·exact Rel.ap4 _ h
theorem aiL{Γ:Glb}(hT:gq P V)(hE:afH P Γ V){f:FuncId}{fn:Func}{F:FnI}(hf:P.funcs[f]?=some fn)(hb:fn.body=some F.body)(hres:fn.results.toList=F.results)
  (hdst:Bg fn.ntmps F.body=true) (hL:qp V F.loops F.body) (rw:List Nat):Contract P Γ f ⟨rw,fun ci=>.mat (bI V F ci) .ret,false⟩:=by
 intro w C ci co vals hM hptr hsz hvals hgl hG
 have hE:XR P Γ V w (yD C ci.roots) C:=⟨hE,fun b hb=>⟨hgl.1 b hb,fun ⟨i,x,hx,hF⟩=>(hM.apart (par i) x b hx hF).1 (hgl.1 b hb),hM.ro b (.inl (hgl.1 b hb))⟩,hgl.2⟩
 suffices hold:Calls P f vals w fun e w'=>match e with
   |.returned v=>∃C',Oi w C ci co v w' C'
   |_=>False from hold.mono fun e w' h=>by
  cases e with
  |returned v=>obtain ⟨C',h⟩:=h;exact ⟨C',h,fun h=>nomatch h⟩
  |_=>exact h
 refine calls_of_wp hf hb ?_
 have hG:bI V F ci=some co:=by
  obtain ⟨o,ho⟩:∃o,bI V F ci=o:=⟨_,rfl⟩
  have hG:(Tre.mat (bI V F ci) Tre.ret).run some=some co:=hG
  rw [ho] at hG ⊢
  cases o with
  |none=>cases hG
  |some x=>exact hG
 unfold bI at hG
 have hn:fn.ntmps≤(vals++Array.replicate (fn.ntmps-vals.size) undef).size:=by simp;omega
 have hinit:Rel w (yD C ci.roots) (vals++Array.replicate (fn.ntmps-vals.size) undef).size C C (aqe ci) { tmps:=vals++Array.replicate (fn.ntmps-vals.size) undef,defers:=[] } w:=by
  have hroots:(aqe ci).roots=WO ci.roots:=alT _
  refine ⟨⟨.refl _,rfl,fun _=>rfl⟩,by rw [hroots];exact hM,fun t=>?_,.refl _ _,fun q x b hq hb=>?_,fun q x hq p hp h1=>?_,rfl,rfl,fun _ _ _ _=>rfl,fun b hb=>.inl hb⟩
  ·rw [hroots]
   show bH w C _ _ (XM (af3 0 ci.args) t)
   rw [ao4]
   simp only [Nat.zero_le,if_true,Nat.sub_zero]
   cases ht:ci.args[t]? with
   |none=>exact bH.dead
   |some av=>
    simp only [Option.getD_some]
    have hlt:t<vals.size:=by rw [hsz];exact (List.getElem?_eq_some_iff.1 ht).1
    have:(vals++Array.replicate (fn.ntmps-vals.size) undef).getD t undef=vals[t]:=by
     rw [Array.getD_eq_getD_getElem?,Array.getElem?_append_left hlt,Array.getElem?_eq_getElem hlt];rfl
    rw [this]
    exact hvals t _ av (Array.getElem?_eq_getElem hlt) ht
  ·rw [hroots] at hq
   obtain ⟨q1,q2⟩:=q
   match q1,hq with
   |0,hq=>exact .inr ⟨q2,x,hq,hb⟩
   |q1+1,hq=>cases hq
  ·rw [hroots] at hq
   obtain ⟨q1,q2⟩:=q
   match q1,hq with
   |0,hq=>have:=hptr x (List.mem_of_getElem? hq) p hp;omega
   |q1+1,hq=>cases hq
 refine anT hT hE F.body (alk hn _ hdst) hL (fun e s' a' w' C' hc R'=>?_) hinit hG
 have hfin:(match yG V (Jy V s').tmps (Jy V s').roots F.results F.types with
   |none=>none
   |some vals=>bif (Jy V s').pins 1||afJ vals then none else
    WL vals [] (Jy V s').roots [] fun r rs fs _=>match EX rs 0 ci.roots.length with
     |none=>none
     |some ps=>bif rJ ps.length fs.length ps&&rJ ps.length fs.length fs then some (⟨one r,ps,fs⟩:aA) else none)=some co→bodyPost P fn (fun e w'=>match e with
   |.returned v=>∃C',Oi w C ci co v w' C'
   |_=>False) .ret a' w':=by
  clear hc
  obtain ⟨C',R'⟩:=R'.Jy
  generalize Jy V s'=s' at R'
  intro hc
  split at hc
  case h_1=>simp at hc
  case h_2 _ rv hrv=>
  cases hchk:(s'.pins 1||afJ rv) with
  |true=>rw [hchk] at hc;simp at hc
  |false=>
  rw [hchk] at hc
  simp only [cond_false] at hc
  simp only [Bool.or_eq_false_iff] at hchk
  rw [←hres] at hrv
  obtain ⟨vl,hsl1,hsl2,hsl3⟩:=aj6 hT R' hrv
  refine ⟨R'.defers,_,hsl3,?_⟩
-- the state as the start of the results' way
  have hp1:∀q y,s'.roots q=some y→∀p∈aS y.k y.d,p.1≠1:=by
   intro q y hy p hp h1
   have:=R'.pins q y hy p hp (by omega)
   rw [h1,hchk.1] at this;cases this
  have hsub:∀q y,cmb s'.roots [] q=some y→s'.roots q=some y:=by
   intro q y h
   unfold cmb at h
   split at h
   ·simp at h
   ·exact h
  have hM0:Moved w' C' s'.roots C' s'.roots [] []:=by
   refine ⟨rfl,rfl,fun _=>⟨rfl,rfl⟩,⟨fun q y h=>R'.mem.ok q y (hsub q y h),fun q q' y y' h h'=>R'.mem.disj q q' y y' (hsub q y h) (hsub q' y' h'),fun q y b h=>R'.mem.apart q y b (hsub q y h),R'.mem.ro,fun q y h p hp z hz=>R'.mem.ptr q y (hsub q y h) p hp z (hsub p z hz)⟩,
    fun b vs hl _ _ hb=>kN R'.mem (fun _=>False) rfl rfl (fun _ _=>rfl) (fun _ _=>rfl) (fun q y _ h=>hsub q y h) (fun _ _=>rfl) hl (fun _ _ h=>h) hb,
    fun q y b h hb=>⟨q,y,hsub q y h,hb⟩,fun q y h=>hp1 q y (hsub q y h),fun _=>rfl⟩
  obtain ⟨tv,rs2,fs2,ks2,C2,hc,M2,S2,T2⟩:=afi rv vl hM0 hchk.2 hsl1.symm hsl2 hc
  split at hc
  case h_1=>simp at hc
  case h_2 _ ps hps=>
  obtain ⟨hpl,hps2⟩:=afh _ _ hps
  cases hchk3:(rJ ps.length fs2.length ps&&rJ ps.length fs2.length fs2) with
  |false=>rw [hchk3] at hc;simp at hc
  |true=>
  rw [hchk3] at hc
  simp only [cond_true,Option.some.injEq] at hc
  subst hc
  have hout:∀q y,Kh ⟨one tv,ps,fs2⟩ q=some y→cmb rs2 fs2 q=some y:=by
   rintro ⟨q1,q2⟩ y hq
   match q1,hq with
   |0,hq=>have:=hps2 q2 y hq;rw [Nat.zero_add] at this;exact this
   |1,hq=>exact hq
   |q1+2,hq=>cases hq
  have hval:∀b vs,b.dS=true→hit [] b=false→AVC w' C2 (cmb rs2 fs2) b vs→AVC w' C2 (Kh ⟨one tv,ps,fs2⟩) b vs:=
   fun b vs hl _ hb=>kN M2.mem (fun _=>False) rfl rfl (fun _ _=>rfl) (fun _ _=>rfl) (fun q y _ h=>hout q y h) (fun _ _=>rfl) hl (fun _ _ h=>h) hb
  refine ⟨C2,fun b hb=>(by rw [M2.Z];exact R'.ext.Z b hb),M2.S.trans R'.ext.S,fun i=>(M2.pars i).1.trans (R'.ext.θ i),
   ⟨fun q y h=>M2.mem.ok q y (hout q y h),fun q q' y y' h h'=>M2.mem.disj q q' y y' (hout q y h) (hout q' y' h'),fun q y b h=>M2.mem.apart q y b (hout q y h),M2.mem.ro,fun q y h p hp z hz=>M2.mem.ptr q y (hout q y h) p hp z (hout p z hz)⟩,
   ?_,fun i x hx hm=>?_,R'.kept,fun q y b hq hb=>?_,fun b hb=>R'.zn b (by rw [←M2.Z];exact hb)⟩
  ·have hT2:=XT.step hval _ _ T2
   rw [QY] at hT2
   show bH w' C2 _ _ (one tv)
   cases tv with
   |tnil=>
    have:vl=[]:=hT2
    subst this
    exact .inr ⟨[],rfl,rfl⟩
   |tcons x y=>
    obtain ⟨v,l,rfl,h1,h2⟩:=hT2
    cases y with
    |tnil=>
     have:l=[]:=h2
     subst this
     exact .inl h1
    |tcons x2 y2=>
     obtain ⟨v2,l2,rfl,h3,h4⟩:=h2
     exact .inr ⟨v::v2::l2,rfl,v,_,rfl,h1,v2,l2,rfl,h3,h4⟩
    |_=>exact h2.elim
   |_=>exact hT2.elim
  ·have h1:=hps2 i x hx
   rw [Nat.zero_add,M2.rs1 i] at h1
   rw [(M2.pars i).2]
   exact R'.parρ i x h1 hm
  ·obtain ⟨q0,y0,h1,h2⟩:=M2.foot q y b (hout q y hq) hb
   exact R'.foot q0 y0 b h1 h2
 cases e with
 |exit _=>simp at hc
 |normal=>exact hfin hc
 |ret=>exact hfin hc
end
end Go.Abs
namespace Go.Abs
def aeD:K→List Value→Option (List Value)
 |.int ik,.int k n::l=>bif decide (k=ik)&&decide (n=0) then some l else none
 |.bool,.bool false::l=>some l
 |.str,.string ⟨⟨[]⟩⟩::l=>some l
 |.ptr,.pointer none::l=>some l
 |.fn,.nilFunc::l=>some l
 |.sl _,.slice none 0 0::l=>some l
 |.unit,l=>some l
 |.pair a b,l=>match aeD a l with
  |some l=>aeD b l
  |none=>none
 |_,_=>none
theorem amK:∀{k:K}{l l':List Value},aeD k l=some l'→l=k.zeroCells++l':=by
 intro k
 induction k with
 |pair a b iha ihb=>
  intro l l' h
  simp only [aeD] at h
  split at h
  ·rename_i m hm
   rw [iha hm,ihb h];simp [K.zeroCells]
  ·cases h
 |int ik=>
  intro l l' h
  unfold aeD at h
  split at h<;>first|(cases h;done)|skip
  all_goals try (rename_i heq;cases heq)
  cases hc:(decide (_=ik)&&decide (_=(0:Int))) with
  |false=>rw [hc] at h;cases h
  |true=>
   rw [hc] at h
   simp only [cond_true,Option.some.injEq] at h
   simp only [Bool.and_eq_true,decide_eq_true_eq] at hc
   obtain ⟨rfl,rfl⟩:=hc
   subst h
   rfl
 |unit=>intro l l' h;cases h;rfl
 |_=>
  intro l l' h
  unfold aeD at h
  split at h<;>first|(cases h;done)|skip
  all_goals try (rename_i heq;cases heq)
  all_goals (cases h;first|rfl|simp [K.zeroCells])
def fieldsB(P:Program):List Field→K→Nat→Bool
 |[],.unit,_=>true
 |f::fs,.pair a b,off=>Nat.beq f.offset off&&!Nat.beq a.size 0&&(match P.info? f.type with
  |some i=>Nat.beq i.size a.size&&decide (aiu P f.type=some a.isAgg)
  |none=>false)&&fieldsB P fs b (off+a.size)
 |_,_,_=>false
theorem VA{P:Program}:∀(fs:List Field){k:K}{off:Nat},fieldsB P fs k off=true→uJ P fs k off:=by
 intro fs
 induction fs with
 |nil=>intro k off h;cases k<;>first|trivial|cases h
 |cons f fs ih=>
  intro k off h
  cases k<;>first|(cases h;done)|skip
  rename_i a b
  simp only [fieldsB,Bool.and_eq_true,Bool.not_eq_true'] at h
  obtain ⟨⟨⟨h1,h2⟩,h3⟩,h4⟩:=h
  refine ⟨Nat.eq_of_beq_eq_true h1,(fun h0=>by rw [h0] at h2;cases h2),?_,ih h4⟩
  split at h3
  ·rename_i i hi;simp only [Bool.and_eq_true,decide_eq_true_eq] at h3;exact ⟨i,hi,Nat.eq_of_beq_eq_true h3.1,h3.2⟩
  ·cases h3
def apy(P:Program)(V:Env)(ti:TI)(d:TypeDesc):Bool:=
 match ti.k,d with
 |.int ik,.int k=>decide (k=ik)
 |.bool,.bool=>true
 |.str,.string=>true
 |.ptr,.pointer _=>true
 |.fn,.func ..=>true
 |.sl e,.slice t=>Nat.beq t ti.elem&&(match V.ti ti.elem with
  |some te=>decide (te.k=e)&&!Nat.beq te.k.size 0
  |none=>false)
 |.unit,.struct fs=>fieldsB P fs.toList .unit 0
 |.pair a b,.struct fs=>fieldsB P fs.toList (.pair a b) 0
 |_,_=>false
theorem ala{P:Program}{V:Env}{ti:TI}{d:TypeDesc}(h:apy P V ti d=true):DOK P V ti d:=by
 unfold apy at h
 unfold DOK
 cases hk:ti.k<;>simp only [hk] at h ⊢ <;> cases d<;>simp only [] at h<;>first|(cases h;done)|skip
 ·rw [of_decide_eq_true h]
 ·rfl
 ·rfl
 ·exact ⟨_,rfl⟩
 ·exact ⟨_,_,_,rfl⟩
 ·simp only [Bool.and_eq_true] at h
  obtain ⟨h1,h2⟩:=h
  refine ⟨by rw [Nat.eq_of_beq_eq_true h1],?_⟩
  split at h2
  ·rename_i te hte
   simp only [Bool.and_eq_true,decide_eq_true_eq,Bool.not_eq_true'] at h2
   exact ⟨te,hte,h2.1,(fun h0=>by rw [h0] at h2;cases h2.2)⟩
  ·cases h2
 ·exact ⟨_,rfl,VA _ h⟩
 ·exact ⟨_,rfl,VA _ h⟩
def arE(P:Program):List Field→K→Nat→Bool
 |[],.unit,_=>true
 |f::fs,.pair (.int k) b,off=>!(f.name =="_")&&Nat.beq f.offset off&&(match P.underlying f.type with
  |some (.int k')=>decide (k'=k)
  |_=>false)&&arE P fs b (off+1)
 |_,_,_=>false
theorem an7{P:Program}:∀(fs:List Field){k:K}{off:Nat},arE P fs k off=true→EqF P fs k off:=by
 intro fs
 induction fs with
 |nil=>intro k off h;cases k<;>first|trivial|cases h
 |cons f fs ih=>
  intro k off h
  cases k<;>first|(cases h;done)|skip
  rename_i a b
  cases a<;>first|(cases h;done)|skip
  simp only [arE,Bool.and_eq_true,Bool.not_eq_true'] at h
  obtain ⟨⟨⟨h1,h2⟩,h3⟩,h4⟩:=h
  refine ⟨by simpa using h1,Nat.eq_of_beq_eq_true h2,?_,ih h4⟩
  split at h3
  ·rename_i k' hk';rw [hk',of_decide_eq_true h3]
  ·cases h3
def eqB(P:Program)(T:Nat)(k:K):Bool:=!k.ints||((match P.underlying T with
 |some (.struct fs)=>arE P fs.toList k 0
 |_=>false)&&!P.stoodInHeld T&&!P.eqGuardType P.depth T)
theorem ap2{P:Program}{T:Nat}{k:K}(h:eqB P T k=true)(hk:k.ints=true):atM P T k:=by
 unfold eqB at h
 rw [hk,Bool.not_true,Bool.false_or] at h
 simp only [Bool.and_eq_true,Bool.not_eq_true'] at h
 obtain ⟨⟨h1,h2⟩,h3⟩:=h
 refine ⟨?_,h2,h3⟩
 split at h1
 ·rename_i fs hfs;exact ⟨fs,hfs,an7 _ h1⟩
 ·cases h1
def tyB(P:Program)(V:Env)(T:Nat)(ti:TI):Bool:=
 match P.info? T,P.underlying T with
 |some i,some d=>Nat.beq i.size ti.k.size&&Nat.beq i.bytes ti.bytes&&(match i.zero with
  |some z=>(match aeD ti.k z.cells.toList with
   |some []=>true
   |_=>false)
  |none=>false)&&apy P V ti d&&eqB P T ti.k
 |_,_=>false
theorem ard{P:Program}{V:Env}{T:Nat}{ti:TI}(h:tyB P V T ti=true):abQ P V T ti:=by
 unfold tyB at h
 split at h
 ·rename_i i d hi hd
  simp only [Bool.and_eq_true] at h
  obtain ⟨⟨⟨⟨h1,h2⟩,h3⟩,h4⟩,h5⟩:=h
  split at h3
  ·rename_i z hz
   split at h3
   ·rename_i hz2
    have:=amK hz2
    rw [List.append_nil] at this
    exact ⟨⟨i,z,hi,Nat.eq_of_beq_eq_true h1,Nat.eq_of_beq_eq_true h2,hz,this⟩,⟨d,hd,ala h4⟩,ap2 h5⟩
   ·cases h3
  ·cases h3
 ·cases h
def ail(P:Program)(V:Env):List (Nat×TI)→Bool
 |[]=>true
 | (t,ti)::l=>tyB P V t ti&&ail P V l
theorem ak0{α:Type}{t:Nat}{x:α}:∀(l:List (Nat×α)),gI t l=some x→(t,x)∈l:=by
 intro l
 induction l with
 |nil=>intro h;cases h
 |cons y l ih=>
  intro h
  obtain ⟨t',y⟩:=y
  simp only [gI] at h
  by_cases ht:t=t'
  ·rw [beq_iff.2 ht] at h
   simp only [cond_true,Option.some.injEq] at h
   subst h;subst ht;simp
  ·rw [gJ ht] at h
   exact List.mem_cons_of_mem _ (ih h)
theorem ao8{P:Program}{V:Env}:∀(l:List (Nat×TI)),ail P V l=true→∀t ti,(t,ti)∈l→abQ P V t ti:=by
 intro l
 induction l with
 |nil=>intro _ t ti h;cases h
 |cons x l ih=>
  intro h t ti hm
  obtain ⟨t0,ti0⟩:=x
  simp only [ail,Bool.and_eq_true] at h
  rcases List.mem_cons.1 hm with he|hm
  ·cases he;exact ard h.1
  ·exact ih h.2 t ti hm
theorem arh{P:Program}{V:Env}(h:ail P V V.τ=true)(hm:P.follows .mixedOrders=true):gq P V:=
 ⟨fun _ _ hti=>ao8 _ h _ _ (ak0 _ hti),hm⟩
theorem as8{P:Program}{τ:List (Nat×TI)}{E E':List (Nat×Ctr)}{Z Z':List (Nat×List Frz)}{t:Nat}{ti:TI}(h:tyB P ⟨τ,E,Z⟩ t ti=true):tyB P ⟨τ,E',Z'⟩ t ti=true:=h
theorem arf{P:Program}{τ:List (Nat×TI)}{E:List (Nat×Ctr)}{Z:List (Nat×List Frz)}(h:ail P ⟨τ,[],[]⟩ τ=true):ail P ⟨τ,E,Z⟩ τ=true:=by
 have key:∀l,ail P ⟨τ,[],[]⟩ l=true→ail P ⟨τ,E,Z⟩ l=true:=by
  intro l
  induction l with
  |nil=>intro _;rfl
  |cons x l ih=>
   intro h
   obtain ⟨t,ti⟩:=x
   simp only [ail,Bool.and_eq_true] at h ⊢
   exact ⟨as8 h.1,ih h.2⟩
 exact key τ h
theorem aI{P:Program}{Γ:Glb}{τ:List (Nat×TI)}{Z:List (Nat×List Frz)}:afH P Γ ⟨τ,[],Z⟩:=fun f q h=>by cases h
theorem ak{P:Program}{Γ:Glb}{τ:List (Nat×TI)}{E:List (Nat×Ctr)}{Z:List (Nat×List Frz)}{f:Nat}{q:Ctr}(h:Contract P Γ f q)(he:Enters P f)(hE:afH P Γ ⟨τ,E,Z⟩):afH P Γ ⟨τ,(f,q)::E,Z⟩:=by
 intro g q' hg
 simp only [Env.ctr,gI] at hg
 by_cases hfg:g=f
 ·rw [beq_iff.2 hfg] at hg
  simp only [cond_true,Option.some.injEq] at hg
  subst hg;subst hfg;exact ⟨h,he⟩
 ·rw [gJ hfg] at hg
  exact hE g q' hg
theorem Contract.weaken{P:Program}{Γ:Glb}{f:FuncId}{q q':Ctr}(h:Contract P Γ f q)(hq:∀ci co,(q'.G ci).run some=some co→(q.G ci).run some=some co)(hs:q'.soft=false:=by rfl):Contract P Γ f q':=
 fun w C ci co vals h1 h2 h3 h4 hg h5=>(h w C ci co vals h1 h2 h3 h4 hg (hq ci co h5)).mono fun e w' k=>by
  cases e with
  |returned v=>obtain ⟨C',k,_⟩:=k;exact ⟨C',k,fun h=>by rw [hs] at h;cases h⟩
  |_=>exact k
end Go.Abs
namespace Go.Abs
open Go.ChangeShapes Go.WideShapes Go.RowKit
def K.wf:(k:K)→k.den→Prop
 |.int ik,n=>(Lit.int ik n).wf=true
 |.str,s=>s.size≤maxLen
 |.sl e,xs=>xs.length≤maxLen∧∀x∈xs,e.wf x
 |.pair a b,d=>a.wf d.1∧b.wf d.2
 |_,_=>True
def jE(P:Program):K→TypeId ⊕ (List Field×Nat)→Bool
 |.int ik,.inl T=>match P.underlying T with
  |some (.int k)=>decide (k=ik)
  |_=>false
 |.bool,.inl T=>match P.underlying T with
  |some .bool=>true
  |_=>false
 |.str,.inl T=>match P.underlying T with
  |some .string=>true
  |_=>false
 |.sl e,.inl T=>match P.underlying T with
  |some (.slice t)=>Nat.beq (P.cellsOf t) e.size&&Nat.blt 0 e.size&&jE P e (.inl t)
  |_=>false
 |.pair a b,.inl T=>match P.underlying T with
  |some (.struct fs)=>Nat.beq (P.cellsOf T) (K.pair a b).size&&(match fs.toList with
   |f::l=>Nat.beq f.offset 0&&Nat.beq (P.cellsOf f.type) a.size&&jE P a (.inl f.type)&&jE P b (.inr (l,a.size))
   |[]=>false)
  |_=>false
 |.pair a b,.inr (f::l,off)=>Nat.beq f.offset off&&Nat.beq (P.cellsOf f.type) a.size&&jE P a (.inl f.type)&&jE P b (.inr (l,off+a.size))
 |.unit,.inr ([],_)=>true
 |_,_=>false
section
variable {P : Program} {w : World} {H : Type} {enc : TypeId × Value → H} {held : Bool} {θ : ay → Nat} {S : BS}
theorem ZE{a:Addr}{n:Nat}{cs:List Value}(h:w.cells? 0 a n=some cs)(hn:0<n):∃c T fz,w.heap[a.block]?=some (.cells c T fz)∧a.spot=none∧a.off+n≤c.size∧cs=sub c a.off n:=by
 obtain ⟨_,hl,hc⟩:=World.cells?_some h
 have h0:=hc 0 hn
 have e0:a.add 0=a:=by simp [Addr.add]
 rw [e0] at h0
 have hsome:∃v,cs[0]?=some v:=⟨cs[0]'(by omega),List.getElem?_eq_getElem _⟩
 obtain ⟨v0,hv0⟩:=hsome
 rw [hv0] at h0
 unfold World.cell? at h0
 split at h0
 case h_2=>cases h0
 case h_1 c T fz hb=>
 split at h0
 ·cases h0
 ·rename_i hs
  have hs:a.spot=none:=by cases hh:a.spot with
   |none=>rfl
   |some x=>rw [hh] at hs;exact absurd rfl hs
  have hget:∀i,i<n→c[a.off+i]?=cs[i]?:=by
   intro i hi
   have:=hc i hi
   rw [←this]
   unfold World.cell?
   have hblk:(a.add i).block=a.block:=by unfold Addr.add;split<;>rfl
   have hsp:(a.add i).spot=none:=by unfold Addr.add;split<;>first|exact hs|rfl
   have hoff:(a.add i).off=a.off+i:=by unfold Addr.add;split<;>simp_all
   rw [hblk,hb]
   simp only [hsp,hoff,Option.isSome_none,Bool.false_eq_true,if_false]
  have hsize:a.off+n≤c.size:=by
   have:=hget (n-1) (by omega)
   rw [List.getElem?_eq_getElem (by omega)] at this
   have:=(Array.getElem?_eq_some_iff.1 this).1
   omega
  refine ⟨c,T,fz,hb,hs,hsize,?_⟩
  apply List.ext_getElem?
  intro i
  by_cases hi:i<n
  ·rw [←hget i hi]
   unfold sub
   rw [List.getElem?_take_of_lt hi,List.getElem?_drop,Array.getElem?_toList]
  ·rw [List.getElem?_eq_none (by omega),List.getElem?_eq_none (by rw [pG hsize];omega)]
theorem ara:∀(k:K),
  (∀(T:TypeId)(n:Nat)(cs:List Value)(x:DataW H×List MemPlace),jE P k (.inl T)=true→DataW.trod enc P w 0 (fun _=>true) held n T cs=some x →
   ∃d:k.den,Enc w θ (fun b=>b<w.heap.size) S k (.imm true) d cs noB∧k.wf d) ∧
  (∀(fs:List Field)(off n:Nat)(cs:List Value),jE P k (.inr (fs,off))=true→cs.length=off+k.size →
   (∀f∈fs,∃x,DataW.trod enc P w 0 (fun _=>true) held n f.type ((cs.drop f.offset).take (P.cellsOf f.type))=some x) →
   ∃d:k.den,Enc w θ (fun b=>b<w.heap.size) S k (.imm true) d (cs.drop off) noB∧k.wf d):=by
 intro k
 induction k with
 |int ik=>
  refine ⟨fun T n cs x h ht=>?_,fun fs off n cs h=>by simp [jE] at h⟩
  simp only [jE] at h
  split at h
  ·rename_i k hu
   have:=of_decide_eq_true h
   subst this
   obtain ⟨n,rfl,_,hw⟩:=DataW.trod_int hu ht
   exact ⟨n,rfl,hw⟩
  ·cases h
 |bool=>
  refine ⟨fun T n cs x h ht=>?_,fun fs off n cs h=>by simp [jE] at h⟩
  simp only [jE] at h
  split at h
  ·rename_i hu
   obtain ⟨b,rfl,_⟩:=DataW.trod_bool hu ht
   exact ⟨b,rfl,trivial⟩
  ·cases h
 |str=>
  refine ⟨fun T n cs x h ht=>?_,fun fs off n cs h=>by simp [jE] at h⟩
  simp only [jE] at h
  split at h
  ·rename_i hu
   obtain ⟨s,rfl,_,hw⟩:=DataW.trod_string hu ht
   exact ⟨s,rfl,hw⟩
  ·cases h
 |ptr=>exact ⟨fun T n cs x h=>by simp [jE] at h,fun fs off n cs h=>by simp [jE] at h⟩
 |fn=>exact ⟨fun T n cs x h=>by simp [jE] at h,fun fs off n cs h=>by simp [jE] at h⟩
 |unit=>
  refine ⟨fun T n cs x h=>by simp [jE] at h,fun fs off n cs h hl _=>?_⟩
  refine ⟨(),?_,trivial⟩
  show cs.drop off=[]
  have:cs.length=off:=hl
  exact List.drop_eq_nil_of_le (by omega)
 |sl e ih=>
  refine ⟨fun T n cs x h ht=>?_,fun fs off n cs h=>by simp [jE] at h⟩
  simp only [jE] at h
  split at h
  case h_2=>cases h
  case h_1 t hu=>
  simp only [Bool.and_eq_true] at h
  obtain ⟨⟨h1,h2⟩,h3⟩:=h
  have h1:=Nat.eq_of_beq_eq_true h1
  have h2:0<e.size:=Nat.le_of_ble_eq_true h2
  rcases DataW.trod_slice hu ht with ⟨rfl,_⟩|⟨a,len,cap,elems,rest,m,rfl,rfl,_,_,hlc,hcm,hel,helem,hsp,_⟩
  ·exact ⟨[],.inr (.inl ⟨by simp,rfl,none,rfl⟩),by show (0:Nat)≤maxLen;unfold maxLen;omega,by simp⟩
  ·obtain ⟨hrl,hrest⟩:=hsp rfl
   by_cases hc0:cap=0
   ·have hl0:len=0:=by omega
    subst hc0;subst hl0
    exact ⟨[],.inr (.inl ⟨by simp,rfl,some a,rfl⟩),by show (0:Nat)≤maxLen;unfold maxLen;omega,by simp⟩
   ·-- every cell up to the capacity
    have hall:∀i,i<cap→∃cs' x',w.cells? 0 (a.add (i*e.size)) e.size=some cs'∧DataW.trod enc P w 0 (fun _=>true) held m t cs'=some x':=by
     intro i hi
     have key:∃x',(w.cells? 0 (a.add (i*P.cellsOf t)) (P.cellsOf t)).bind (DataW.trod enc P w 0 (fun _=>true) held m t)=some x':=by
      by_cases hil:i<len
      ·rw [helem i hil]
       exact ⟨elems[i]'(by omega),List.getElem?_eq_getElem _⟩
      ·have:=hrest (i-len) (by omega)
       rw [show len+(i-len)=i by omega] at this
       rw [this]
       exact ⟨rest[i-len]'(by omega),List.getElem?_eq_getElem _⟩
     obtain ⟨x',hx'⟩:=key
     rw [h1] at hx'
     cases hcs:w.cells? 0 (a.add (i*e.size)) e.size with
     |none=>rw [hcs] at hx';cases hx'
     |some cs'=>rw [hcs] at hx';exact ⟨cs',x',rfl,hx'⟩
    have hblk:∀i,(a.add i).block=a.block:=fun i=>by unfold Addr.add;split<;>rfl
    obtain ⟨cs0,x0,hc0',_⟩:=hall 0 (by omega)
    rw [Nat.zero_mul,show a.add 0=a by simp [Addr.add]] at hc0'
    obtain ⟨c,U,fz,hb,hspot,_,_⟩:=ZE hc0' h2
    have hoff:∀i,(a.add i).off=a.off+i:=fun i=>by unfold Addr.add;split<;>simp_all
    have hcell:∀i,i<cap→a.off+i*e.size+e.size≤c.size∧∃x',DataW.trod enc P w 0 (fun _=>true) held m t (sub c (a.off+i*e.size) e.size)=some x':=by
     intro i hi
     obtain ⟨cs',x',g1,g2⟩:=hall i hi
     obtain ⟨c',U',fz',hb',_,hs',rfl⟩:=ZE g1 h2
     rw [hblk,hb] at hb'
     cases hb'
     rw [hoff] at hs' g2
     exact ⟨hs',x',g2⟩
    have hd:∀i,i<len→∃d:e.den,Enc w θ (fun b=>b<w.heap.size) S e (.imm true) d (sub c (a.off+i*e.size) e.size) noB∧e.wf d:=by
     intro i hi
     obtain ⟨_,x',hx'⟩:=hcell i (by omega)
     exact ih.1 t m _ x' h3 hx'
    have hlist:∃ds:List e.den,ds.length=len∧∀i d,ds[i]?=some d→Enc w θ (fun b=>b<w.heap.size) S e (.imm true) d (sub c (a.off+i*e.size) e.size) noB∧e.wf d:=by
     refine ⟨List.ofFn fun i:Fin len=>(hd i.1 i.2).choose,by simp,fun i d hi=>?_⟩
     rw [List.getElem?_ofFn] at hi
     split at hi
     ·rename_i hil
      cases hi
      exact (hd i hil).choose_spec
     ·cases hi
    obtain ⟨ds,hdl,hds⟩:=hlist
    have hlast:=(hcell (cap-1) (by omega)).1
    refine ⟨ds,.inr (.inr ⟨by simp,a.block,a.off,cap,c,U,fz,?_,hb,by omega,?_,.inl (by have:=(Array.getElem?_eq_some_iff.1 hb).1;exact this),fun _=>noB,fun i=>⟨fun _ h=>h.elim,fun h=>h⟩,fun _ _ _ _ h=>h.elim,fun i d hi=>(hds i d hi).1⟩),by show ds.length≤maxLen;omega,fun d hd'=>?_⟩
    ·rw [hdl]
     obtain ⟨ab,ao,asp⟩:=a
     simp only at hspot
     subst hspot
     rfl
    ·have:cap=(cap-1)+1:=by omega
     rw [this,Nat.add_mul,Nat.one_mul]
     omega
    ·obtain ⟨i,hi⟩:=List.mem_iff_getElem?.1 hd'
     exact (hds i d hi).2
 |pair a b iha ihb=>
  have tail:∀(f:Field)(l:List Field)(off n:Nat)(cs:List Value),f.offset=off→P.cellsOf f.type=a.size→jE P a (.inl f.type)=true→jE P b (.inr (l,off+a.size))=true→cs.length=off+(a.size+b.size) →
    (∀g∈f::l,∃x,DataW.trod enc P w 0 (fun _=>true) held n g.type ((cs.drop g.offset).take (P.cellsOf g.type))=some x) →
    ∃d:(K.pair a b).den,Enc w θ (fun b=>b<w.heap.size) S (.pair a b) (.imm true) d (cs.drop off) noB∧(K.pair a b).wf d:=by
   intro f l off n cs h1 h2 h3 h4 hl hf
   obtain ⟨x,hx⟩:=hf f (by simp)
   rw [h1,h2] at hx
   obtain ⟨d1,e1,w1⟩:=iha.1 _ _ _ _ h3 hx
   obtain ⟨d2,e2,w2⟩:=ihb.2 l (off+a.size) n cs h4 (by omega) (fun g hg=>hf g (by simp [hg]))
   refine ⟨(d1,d2),⟨(cs.drop off).take a.size,(cs.drop off).drop a.size,noB,noB,(List.take_append_drop _ _).symm,fun _ h=>h,fun _ h=>h,fun _ h=>h.elim,e1,?_⟩,w1,w2⟩
   rw [List.drop_drop]
   exact e2
  refine ⟨fun T n cs x h ht=>?_,fun fs off n cs h hl hf=>?_⟩
  ·simp only [jE] at h
   split at h
   case h_2=>cases h
   case h_1 fs hu=>
   simp only [Bool.and_eq_true] at h
   obtain ⟨h1,h2⟩:=h
   have h1:=Nat.eq_of_beq_eq_true h1
   split at h2
   case h_2=>cases h2
   case h_1 f l hfl=>
   simp only [Bool.and_eq_true] at h2
   obtain ⟨⟨⟨g1,g2⟩,g3⟩,g4⟩:=h2
   obtain ⟨xs,m,rfl,_,hcl,hxl,hall⟩:=DataW.trod_struct hu ht
   have:=tail f l 0 m cs (Nat.eq_of_beq_eq_true g1) (Nat.eq_of_beq_eq_true g2) g3 (by rw [Nat.zero_add];exact g4) (by rw [hcl,h1];simp [K.size]) (fun g hg=>?_)
   ·rw [List.drop_zero] at this
    exact this
   ·rw [←hfl] at hg
    obtain ⟨i,hi⟩:=List.mem_iff_getElem?.1 hg
    rw [Array.getElem?_toList] at hi
    have hlt:=(Array.getElem?_eq_some_iff.1 hi).1
    rw [hall i g hi]
    exact ⟨xs[i]'(by omega),List.getElem?_eq_getElem _⟩
  ·cases fs with
   |nil=>simp [jE] at h
   |cons f l=>
    simp only [jE,Bool.and_eq_true] at h
    obtain ⟨⟨⟨g1,g2⟩,g3⟩,g4⟩:=h
    exact tail f l off n cs (Nat.eq_of_beq_eq_true g1) (Nat.eq_of_beq_eq_true g2) g3 g4 (by rw [hl];simp [K.size]) hf
end
abbrev Args:List K→Type
 |[]=>Unit
 |k::l=>k.den×Args l
def avs:(l:List K)→Args l→List AV
 |[],_=>[]
 |k::l,d=>.imm true k d.1::avs l d.2
def wfs:(l:List K)→Args l→Prop
 |[],_=>True
 |k::l,d=>k.wf d.1∧wfs l d.2
theorem ak1:∀(l:List K)(d:Args l),(avs l d).length=l.length:=by
 intro l
 induction l with
 |nil=>intro d;rfl
 |cons k l ih=>intro d;simp only [avs,List.length_cons,ih]
section
variable {P : Program} {H : Type} {enc : TypeId × Value → H}
def adA(P:Program)(x:TypeId×K):Bool:=jE P x.2 (.inl x.1)&&x.2.plain&&P.readableRec x.1&&decide (x.1<P.types.size)
theorem ao7{W:World}{C:Ctx}{rs:RF}(hZ:C.Z=fun b=>b<W.heap.size){base:Nat}{k:K}{T:TypeId}{v:Value}{d:DataW H}{p:List MemPlace}(hr:jE P k (.inl T)=true)(hp:k.plain=true)(hok:Value.okWide P W .any base T v)
  (h:DataW.Trod enc P W 0 (fun _=>true) true T v d p):∃dd:k.den,bH W C rs v (.imm true k dd)∧k.wf dd:=by
 obtain ⟨n,hn⟩:=h
 obtain ⟨dd,he,hw⟩:=(ara (θ:=C.θ) (S:=C.S) k).1 T n _ _ hr hn
 refine ⟨dd,?_,hw⟩
 rw [←hZ] at he
 cases k with
 |pair a b=>
  simp only [jE] at hr
  split at hr
  case h_2=>cases hr
  case h_1 fs hu=>
  simp only [Value.okWide,hu] at hok
  obtain ⟨cs,rfl,_⟩:=hok
  exact .inl (.inr (.inl ⟨rfl,cs.toList,by simp,hp,he⟩))
 |unit=>simp [jE] at hr
 |ptr=>simp [jE] at hr
 |fn=>simp [jE] at hr
 |int ik=>
  have hv:∃n,v=.int ik n:=by
   simp only [jE] at hr
   split at hr
   ·rename_i k hu;have:=of_decide_eq_true hr;subst this;exact okWide_int hu hok
   ·cases hr
  obtain ⟨n,rfl⟩:=hv
  exact .inl (.inr (.inr ⟨rfl,⟨hp,by simpa [Value.cells] using he⟩,rfl⟩))
 |bool=>
  have hv:∃n,v=.bool n:=by
   simp only [jE] at hr
   split at hr
   ·rename_i hu;exact okWide_bool hu hok
   ·cases hr
  obtain ⟨n,rfl⟩:=hv
  exact .inl (.inr (.inr ⟨rfl,⟨hp,by simpa [Value.cells] using he⟩,rfl⟩))
 |str=>
  have hv:∃n,v=.string n:=by
   simp only [jE] at hr
   split at hr
   ·rename_i hu;exact okWide_string hu hok
   ·cases hr
  obtain ⟨n,rfl⟩:=hv
  exact .inl (.inr (.inr ⟨rfl,⟨hp,by simpa [Value.cells] using he⟩,rfl⟩))
 |sl e=>
  have hv:∃a l c,v=.slice a l c:=by
   simp only [jE] at hr
   split at hr
   ·rename_i hu;exact okWide_slice hu hok
   ·cases hr
  obtain ⟨a,l,c,rfl⟩:=hv
  exact .inl (.inr (.inr ⟨rfl,⟨hp,by simpa [Value.cells] using he⟩,rfl⟩))
theorem trodAll_back(laid:laidOutB P=true){W W':World}(hb:Below W.heap.size W W'):∀(ks:List (TypeId×K)),ks.all (adA P)=true→∀{vs:List Value}{ds:List (DataW H)}{p:List MemPlace},(∀x∈p,x.block<W.heap.size) →
  DataW.TrodAll enc P W 0 (fun _=>true) true (ks.map (·.1)) vs ds p→DataW.TrodAll enc P W' 0 (fun b=>decide (b<W.heap.size)) true (ks.map (·.1)) vs ds p∧ds.length=ks.length:=by
 intro ks
 induction ks with
 |nil=>intro _ vs ds p _ h;obtain ⟨rfl,rfl,rfl⟩:=trodAll_nil h;exact ⟨rfl,rfl⟩
 |cons x ks ih=>
  intro hk vs ds p hlt h
  rw [List.all_cons,Bool.and_eq_true] at hk
  obtain ⟨v,vs',d,ds',p1,q1,rfl,rfl,rfl,h1,h2⟩:=trodAll_cons h
  have hx:=hk.1
  simp only [adA,Bool.and_eq_true,decide_eq_true_eq] at hx
  obtain ⟨g1,g2⟩:=ih hk.2 (fun y hy=>hlt y (by simp [hy])) h2
  exact ⟨⟨p1,q1,Below.trod laid hx.1.2 hx.2 h1 hb (fun y hy=>hlt y (by simp [hy])),g1,rfl⟩,by simp [g2]⟩
theorem aik{W:World}{C:Ctx}{rs:RF}(hZ:C.Z=fun b=>b<W.heap.size){base:Nat}:∀(ks:List (TypeId×K)),ks.all (adA P)=true→∀{vs:List Value}{ds:List (DataW H)}{p:List MemPlace},
  (∀(j:Nat) t v,(ks.map (·.1))[j]?=some t→vs[j]?=some v→Value.okWide P W .any base t v)→DataW.TrodAll enc P W 0 (fun _=>true) true (ks.map (·.1)) vs ds p →
  vs.length=ks.length∧∃dd:Args (ks.map (·.2)),wfs _ dd∧∀(i:Nat)(v:Value)(a:AV),vs[i]?=some v→(avs _ dd)[i]?=some a→bH W C rs v a:=by
 intro ks
 induction ks with
 |nil=>
  intro _ vs ds p _ h
  obtain ⟨rfl,rfl,rfl⟩:=trodAll_nil h
  exact ⟨rfl,(),trivial,fun i v a h=>by simp at h⟩
 |cons x ks ih=>
  intro hk vs ds p hok h
  rw [List.all_cons,Bool.and_eq_true] at hk
  obtain ⟨v,vs',d,ds',p1,q1,rfl,rfl,rfl,h1,h2⟩:=trodAll_cons h
  have hx:=hk.1
  simp only [adA,Bool.and_eq_true,decide_eq_true_eq] at hx
  obtain ⟨g1,dd,g2,g3⟩:=ih hk.2 (fun j t v ht hv=>hok (j+1) t v (by simpa using ht) (by simpa using hv)) h2
  obtain ⟨d0,e1,e2⟩:=ao7 (rs:=rs) hZ hx.1.1.1 hx.1.1.2 (hok 0 x.1 v rfl rfl) h1
  refine ⟨by simp [g1],(d0,dd),⟨e2,g2⟩,fun i v' a hv ha=>?_⟩
  cases i with
  |zero=>
   simp only [List.getElem?_cons_zero,Option.some.injEq] at hv
   subst hv
   have ha:some (AV.imm true x.2 d0)=some a:=ha
   cases ha
   exact e1
  |succ i=>exact g3 i v' a (by simpa using hv) ha
theorem aoN{Γ:Glb}{f:FuncId}{fn:Func}{rw:List Nat}{G:Tz→Tre aA}{sf:Bool}(hc:Contract P Γ f ⟨rw,G,sf⟩)(laid:laidOutB P=true)(ks:List (TypeId×K))(hp:fn.params.toList=ks.map (·.1))(hk:ks.all (adA P)=true){rt:TypeId}
  (hr:fn.resultTypes = #[rt]) (hrt:P.underlying rt=some .bool) {s:ChangeSpec} (hv:s.vars=[]) (hs:∀ds:List (DataW H),ds.length=ks.length→s.fn H ds=⟨[.lit (.bool true)],ds,[]⟩)
  (hG:∀dd:Args (ks.map (·.2)),wfs _ dd→∃z,(G ⟨avs _ dd,[]⟩).run some=some ⟨.imm z .bool true,[],[]⟩) {W:World} {base:Nat} {args:Array Value} {ds gs:List (DataW H)} {before:List MemPlace}
  (hok:∀(j:Nat) t v,fn.params[j]?=some t→args[j]?=some v→Value.okWide P W .any base t v) (hW:DataW.Whole enc P fn.params.toList s.vars false W args.toList ds gs before) (hg0:(∀b∈Γ.blocks,b<W.heap.size)∧Γ.holds W) :
  Calls P f args W fun e W'=>∃v,e=.returned v∧s.post enc P fn false true false false W args v W':=by
 have hW':=hW
 obtain ⟨p,q,hA,hV,rfl,hfz,hnd⟩:=hW
 rw [hv] at hV
 obtain ⟨rfl,rfl⟩:=trodVars_none hV
 rw [hp] at hA
 have hlt:∀x∈p,x.block<W.heap.size:=fun x hx=>hW'.lt x (by simp [hx])
 have C0:Ctx:=⟨fun _=>0,fun _=>[],fun _=>noB,fun b=>b<W.heap.size,noB⟩
 have hok':∀(j:Nat) t v,(ks.map (·.1))[j]?=some t→args.toList[j]?=some v→Value.okWide P W .any base t v:=fun j t v ht hv=>hok j t v (by rw [←hp] at ht;rw [←Array.getElem?_toList];exact ht) (by rw [←Array.getElem?_toList];exact hv)
 obtain ⟨hlen,dd,hwf,hval⟩:=aik (C:=⟨fun _=>0,fun _=>[],fun _=>noB,fun b=>b<W.heap.size,noB⟩) (rs:=WO []) rfl ks hk hok' hA
 obtain ⟨z,hg⟩:=hG dd hwf
 refine (hc W ⟨fun _=>0,fun _=>[],fun _=>noB,fun b=>b<W.heap.size,noB⟩ ⟨avs _ dd,[]⟩ _ args ?_ (by simp) (by rw [ak1,List.length_map,←hlen,Array.length_toList]) (fun i v a hv ha=>hval i v a (by rw [Array.getElem?_toList];exact hv) ha) hg0 hg).mono fun e W' he=>?_
 ·have hno:∀q:ay,WO [] q=none:=by rintro ⟨q1,q2⟩;match q1 with
   |0=>simp [WO]
   |q1+1=>rfl
  exact ⟨(fun q y h=>by rw [hno] at h;cases h),(fun q q' y y' h=>by rw [hno] at h;cases h),(fun q y b h=>by rw [hno] at h;cases h),(fun b h=>h.elim id fun h=>h.elim),(fun q y h=>by rw [hno] at h;cases h)⟩
 ·cases e with
  |returned v=>
   obtain ⟨C',hpost,_⟩:=he
   have hvb:=hpost.val.bool
   subst hvb
   have hb:Below W.heap.size W W':=⟨hpost.kept.os,hpost.kept.tape,hpost.kept.output,hpost.kept.size,fun b hb=>hpost.kept.block b hb (fun ⟨i,x,h,_⟩=>by simp at h)⟩
   obtain ⟨hback,hdl⟩:=trodAll_back laid hb ks hk hlt hA
   refine ⟨_,rfl,ds,[],p++[],[],p,[],hW',?_,?_,?_,hb.frame _,fun h=>by cases h⟩
   ·rw [List.append_nil,hs ds hdl,hr]
    exact trodAll_mk1 (shut_bool hrt _)
   ·rw [List.append_nil,hs ds hdl,hp]
    exact hback
   ·rw [List.append_nil,hs ds hdl,hv]
    rfl
  |_=>exact he.elim
end
end Go.Abs
namespace Go.Abs
section
variable {R R' : Type} {r : R'} {g : R → Option R'}
def bE(k:K)(a:AV)(c:Bool→k.den→Tre R):Tre R:=match a with
 |.imm z k' d=>if h:k'=k then c z (h ▸ d) else .fail
 |_=>.fail
theorem dO{k:K}{a:AV}{c:Bool→k.den→Tre R}(h:(bE k a c).run g=some r):∃z d,a=.imm z k d∧(c z d).run g=some r:=by
 unfold bE at h
 split at h
 ·split at h
  ·rename_i hk;subst hk;exact ⟨_,_,rfl,h⟩
  ·cases h
 ·cases h
def KO(k:K)(a:AV)(c:Bool→k.den→Tre R):Tre R:=match a with
 |.iptr z k' d [.idx 0]=>if h:k'=.sl k then (match (h ▸ d:(K.sl k).den) with
   |[x]=>c z x
   |_=>.fail) else .fail
 |_=>.fail
theorem aiA{k:K}{a:AV}{c:Bool→k.den→Tre R}(h:(KO k a c).run g=some r):∃z d,a=.iptr z (.sl k) [d] [.idx 0]∧(c z d).run g=some r:=by
 unfold KO at h
 split at h
 ·split at h
  ·rename_i hk;subst hk
   split at h
   ·rename_i x hx
    exact ⟨_,x,by rw [←hx],h⟩
   ·cases h
  ·cases h
 ·cases h
def aC(z0:Bool)(k:K)(a:AV)(c:k.den→Tre R):Tre R:=match a with
 |.imm z k' d=>if h:k'=k then (if z=z0 then c (h ▸ d) else .fail) else .fail
 |_=>.fail
theorem bQ{z0:Bool}{k:K}{a:AV}{c:k.den→Tre R}(h:(aC z0 k a c).run g=some r):∃d,a=.imm z0 k d∧(c d).run g=some r:=by
 unfold aC at h
 split at h
 ·split at h
  ·rename_i hk
   subst hk
   split at h
   ·rename_i hz;subst hz;exact ⟨_,rfl,h⟩
   ·cases h
  ·cases h
 ·cases h
def aru(e:K)(a:AV)(c:Bool→List e.den→Tre R):Tre R:=match a with
 |.nn z e' d=>if h:e'=e then c z (h ▸ d) else .fail
 |_=>.fail
theorem anN{e:K}{a:AV}{c:Bool→List e.den→Tre R}(h:(aru e a c).run g=some r):∃z d,a=.nn z e d∧(c z d).run g=some r:=by
 unfold aru at h
 split at h
 ·split at h
  ·rename_i hk;subst hk;exact ⟨_,_,rfl,h⟩
  ·cases h
 ·cases h
def asD{α:Type} [DecidableEq α] (x y:α) (c:Tre R):Tre R:=if x=y then c else .fail
theorem apo{α:Type} [DecidableEq α] {x y:α} {c:Tre R} (h:(asD x y c).run g=some r):x=y∧c.run g=some r:=by
 unfold asD at h
 split at h
 ·exact ⟨‹_›,h⟩
 ·cases h
def fA(q:ay)(p:Path)(a:AV)(c:Tre R):Tre R:=match a with
 |.ref q' p'=>if q'=q∧p'=p then c else .fail
 |_=>.fail
theorem akY{q:ay}{p:Path}{a:AV}{c:Tre R}(h:(fA q p a c).run g=some r):a=.ref q p∧c.run g=some r:=by
 unfold fA at h
 split at h
 ·split at h
  ·rename_i hk;obtain ⟨rfl,rfl⟩:=hk;exact ⟨rfl,h⟩
  ·cases h
 ·cases h
def firstIdx:Path→Nat
 |.idx n::_=>n
 |_::p=>firstIdx p
 |[]=>0
def am0:Path→Path→Bool
 |[],[]=>true
 |.fst::t,.fst::p=>am0 t p
 |.snd::t,.snd::p=>am0 t p
 |_,_=>false
def ajv:Path→Path→Bool
 |.fst::t,.fst::p=>ajv t p
 |.snd::t,.snd::p=>ajv t p
 |.idx _::t,.idx _::p=>am0 t p
 |_,_=>false
def amS:Path→Nat→Path
 |.idx _::t,n=>.idx n::t
 |s::t,n=>s::amS t n
 |[],_=>[]
theorem ac8:∀(t p:Path),am0 t p=true→p=t
 |[],[],_=>rfl
 |.fst::t,.fst::p,h=>by rw [ac8 t p h]
 |.snd::t,.snd::p,h=>by rw [ac8 t p h]
theorem ac9:∀(t p:Path),ajv t p=true→p=amS t (firstIdx p)
 |.fst::t,.fst::p,h=>congrArg (Step.fst::·) (ac9 t p h)
 |.snd::t,.snd::p,h=>congrArg (Step.snd::·) (ac9 t p h)
 |.idx _::t,.idx n::p,h=>congrArg (Step.idx n::·) (ac8 t p h)
def TH(q:ay)(t:Path)(a:AV)(c:Nat→Tre R):Tre R:=match a with
 |.ref r p=>bif req r q&&ajv t p then c (firstIdx p) else .fail
 |_=>.fail
theorem aiB{q:ay}{t:Path}{a:AV}{c:Nat→Tre R}(h:(TH q t a c).run g=some r):∃n,a=.ref q (amS t n)∧(c n).run g=some r:=by
 unfold TH at h
 split at h
 case h_2=>cases h
 rename_i r' p'
 cases hk:(req r' q&&ajv t p') with
 |false=>rw [hk] at h;cases h
 |true=>
  rw [hk] at h
  simp only [Bool.and_eq_true] at hk
  have hr:=bW.1 hk.1
  subst hr
  exact ⟨_,congrArg (AV.ref r') (ac9 t p' hk.2),h⟩
def dB(q:ay)(p:Path)(a:AV)(c:Tre R):Tre R:=match a with
 |.ptr q' p'=>if q'=q∧p'=p then c else .fail
 |_=>.fail
theorem KP{q:ay}{p:Path}{a:AV}{c:Tre R}(h:(dB q p a c).run g=some r):a=.ptr q p∧c.run g=some r:=by
 unfold dB at h
 split at h
 ·split at h
  ·rename_i hk;obtain ⟨rfl,rfl⟩:=hk;exact ⟨rfl,h⟩
  ·cases h
 ·cases h
def vW(f:Nat)(caps:List ay)(a:AV)(c:Tre R):Tre R:=match a with
 |.fn f' caps'=>if f'=f∧caps'=caps then c else .fail
 |_=>.fail
theorem wO{f:Nat}{caps:List ay}{a:AV}{c:Tre R}(h:(vW f caps a c).run g=some r):a=.fn f caps∧c.run g=some r:=by
 unfold vW at h
 split at h
 ·split at h
  ·rename_i hk;obtain ⟨rfl,rfl⟩:=hk;exact ⟨rfl,h⟩
  ·cases h
 ·cases h
def amN(a:AV)(c:Tre R):Tre R:=match a with
 |.nil=>c
 |_=>.fail
theorem akX{a:AV}{c:Tre R}(h:(amN a c).run g=some r):a=.nil∧c.run g=some r:=by
 unfold amN at h
 split at h
 ·exact ⟨rfl,h⟩
 ·cases h
def aB{α:Type}(l:List α)(c:α→List α→Tre R):Tre R:=match l with
 |x::y=>c x y
 |_=>.fail
theorem ZB{α:Type}{l:List α}{c:α→List α→Tre R}(h:(aB l c).run g=some r):∃x y,l=x::y∧(c x y).run g=some r:=by
 unfold aB at h
 split at h
 ·exact ⟨_,_,rfl,h⟩
 ·cases h
def aL{α:Type}(l:List α)(c:Tre R):Tre R:=match l with
 |[]=>c
 |_=>.fail
theorem TG{α:Type}{l:List α}{c:Tre R}(h:(aL l c).run g=some r):l=[]∧c.run g=some r:=by
 unfold aL at h
 split at h
 ·exact ⟨rfl,h⟩
 ·cases h
def gH(mem:Bool)(k:K)(x:Root)(c:Mask→k.den→Tre R):Tre R:=
 if h:x.k=k then (bif Bool.beq x.mem mem then c x.m (h ▸ x.d) else .fail) else .fail
 where Bool.beq:Bool→Bool→Bool
 |true,b=>b
 |false,b=>!b
theorem afL{mem:Bool}{k:K}{x:Root}{c:Mask→k.den→Tre R}(h:(gH mem k x c).run g=some r):∃m d,x=⟨mem,k,m,d⟩∧(c m d).run g=some r:=by
 obtain ⟨mem',k',m',d'⟩:=x
 unfold gH at h
 split at h
 ·rename_i hk
  have hk:k'=k:=hk
  subst hk
  cases mem'<;>cases mem<;>first|exact ⟨_,_,rfl,h⟩|cases h
 ·cases h
def aW(mem:Bool)(k:K)(o:Option Root)(c:Mask→k.den→Tre R):Tre R:=match o with
 |some x=>gH mem k x c
 |none=>.fail
theorem jw{mem:Bool}{k:K}{o:Option Root}{c:Mask→k.den→Tre R}(h:(aW mem k o c).run g=some r):∃m d,o=some ⟨mem,k,m,d⟩∧(c m d).run g=some r:=by
 unfold aW at h
 split at h
 ·obtain ⟨m,d,hx,h2⟩:=afL h;exact ⟨m,d,by rw [hx],h2⟩
 ·cases h
def asM(m0 m:Mask)(c:Tre R):Tre R:=if m=m0 then c else .fail
theorem uK{m0 m:Mask}{c:Tre R}(h:(asM m0 m c).run g=some r):m=m0∧c.run g=some r:=by
 unfold asM at h
 split at h
 ·exact ⟨‹_›,h⟩
 ·cases h
def jg(m:Mask)(c:Bool→Tre R):Tre R:=match m with
 |.imm z=>c z
 |_=>.fail
theorem ZC{m:Mask}{c:Bool→Tre R}(h:(jg m c).run g=some r):∃z,m=.imm z∧(c z).run g=some r:=by
 unfold jg at h
 split at h
 ·exact ⟨_,rfl,h⟩
 ·cases h
end
section
variable {σ β : Type}
def runN (step:σ→Tre (σ ⊕ β)):Nat→σ→Option β
 |0,_=>none
 |n+1,x=>(step x).run fun
  |.inl y=>runN step n y
  |.inr b=>some b
theorem Ki(step:σ→Tre (σ ⊕ β))(n:Nat)(x:σ):runN step (n+1) x=((step x).run some).bind fun
  |.inl y=>runN step n y
  |.inr b=>some b:=Tre.run_bind _ _
theorem aoO(step:σ→Tre (σ ⊕ β)):∀(n:Nat)(x:σ)(b:β),runN step n x=some b→runN step (n+1) x=some b:=by
 intro n
 induction n with
 |zero=>intro x b h;cases h
 |succ n ih=>
  intro x b h
  rw [Ki] at h ⊢
  cases hs:(step x).run some with
  |none=>rw [hs] at h;cases h
  |some y=>
   rw [hs] at h
   cases y with
   |inl y=>exact ih y b h
   |inr y=>exact h
theorem abI(step:σ→Tre (σ ⊕ β)){n m:Nat}(hnm:n≤m){x:σ}{b:β}(h:runN step n x=some b):runN step m x=some b:=by
 induction hnm with
 |refl=>exact h
 |step _ ih=>exact aoO step _ _ _ ih
open Classical in
def aP (step:σ→Tre (σ ⊕ β)) (x:σ):Option β:=
 match runN step 1000000000000 x with
 |some b=>some b
 |none=>if h:∃b,∃n,runN step n x=some b then some (Classical.choose h) else none
theorem Q5{step:σ→Tre (σ ⊕ β)}{x:σ}{b:β}:aP step x=some b ↔ ∃n,runN step n x=some b:=by
 unfold aP
 generalize hN:(1000000000000:Nat)=N
 cases hr:runN step N x with
 |some b'=>
  constructor
  ·intro h;cases h;exact ⟨N,hr⟩
  ·rintro ⟨n,hn⟩
   have h1:=abI step (Nat.le_max_left n N) hn
   have h2:=abI step (Nat.le_max_right n N) hr
   rw [h1] at h2
   exact h2.symm
 |none=>
  constructor
  ·intro h
   dsimp only at h
   split at h
   ·rename_i hx
    simp only [Option.some.injEq] at h
    rw [←h]
    exact Classical.choose_spec hx
   ·cases h
  ·rintro ⟨n,hn⟩
   have hx:∃b,∃n,runN step n x=some b:=⟨b,n,hn⟩
   dsimp only
   rw [dif_pos hx]
   obtain ⟨m,hm⟩:=Classical.choose_spec hx
   have h1:=abI step (Nat.le_max_left n m) hn
   have h2:=abI step (Nat.le_max_right n m) hm
   rw [h1] at h2
   exact h2.symm
theorem ajz(step:σ→Tre (σ ⊕ β))(x:σ):aP step x=((step x).run some).bind fun
  |.inl y=>aP step y
  |.inr b=>some b:=by
 apply Option.ext
 intro b
 rw [Q5]
 constructor
 ·rintro ⟨n,hn⟩
  cases n with
  |zero=>cases hn
  |succ n=>
   rw [Ki] at hn
   cases hs:(step x).run some with
   |none=>rw [hs] at hn;cases hn
   |some y=>
    rw [hs] at hn
    cases y with
    |inl y=>exact Q5.2 ⟨n,hn⟩
    |inr y=>exact hn
 ·intro h
  cases hs:(step x).run some with
  |none=>rw [hs] at h;cases h
  |some y=>
   rw [hs] at h
   cases y with
   |inl y=>
    obtain ⟨n,hn⟩:=Q5.1 h
    exact ⟨n+1,by rw [Ki,hs];exact hn⟩
   |inr y=>exact ⟨1,by rw [Ki,hs];exact h⟩
variable {V : Env} {A : List (Nat × bB)}
def bY(kp kx:Keep)(c:St→Option (Ex×St))(e:Ex)(s:St):Option (Ex×St):=match e with
 |.normal=>c (restrict kp s)
 |e=>some (e,restrict kx s)
def bZ(mk:σ→St)(out:β→Ex×St)(c:St→Option (Ex×St)):σ ⊕ β→Option (Ex×St)
 |.inl y=>c (mk y)
 |.inr b=>some (out b)
theorem aok{L:bB}{body:Code}{mk:σ→St}{out:β→Ex×St}{step:σ→Tre (σ ⊕ β)}
  (hstep:∀(x:σ)(c:St→Option (Ex×St)),den V A body (mk x) (bY L.kp L.kx c)=(step x).run (bZ mk out c)):∀(n:Nat)(x:σ)(b:β),runN step n x=some b→iter L (fun s (c:Ex→St→Option (Ex×St))=>den V A body s c) n (mk x) (fun e s'=>some (e,s'))=some (out b):=by
 intro n
 induction n with
 |zero=>intro x b h;cases h
 |succ n ih=>
  intro x b h
  rw [Ki] at h
  have h1:=hstep x fun s=>iter L (fun s (c:Ex→St→Option (Ex×St))=>den V A body s c) n s (fun e s'=>some (e,s'))
  rw [Tre.run_bind] at h1
  refine Eq.trans (Eq.trans ?_ h1) ?_
  ·rfl
  cases hs:(step x).run some with
  |none=>rw [hs] at h;cases h
  |some y=>
   rw [hs] at h
   cases y with
   |inl y=>exact ih y b h
   |inr y=>cases h;rfl
def bR (T:List (Nat×AV)) (U:List (ay×Option Root)):St:=⟨XM T,WM U,Jc (WM U) (U.map (·.1))⟩
def allT(tm:TF):List (Nat×AV)→Prop
 |[]=>True
 | (t,v)::l=>tm t=v∧allT tm l
def apk(rs:RF):List (ay×Option Root)→Prop
 |[]=>True
 | (q,x)::l=>rs q=x∧apk rs l
theorem aq8{tm:TF}:∀(l:List Nat)(t:Nat),t∈l→XM (SL tm l) t=tm t:=by
 intro l
 induction l with
 |nil=>intro t h;cases h
 |cons x l ih=>
  intro t h
  simp only [SL,XM]
  by_cases he:t=x
  ·rw [beq_iff.2 he];subst he;rfl
  ·rw [gJ he]
   exact ih t ((List.mem_cons.1 h).resolve_left he)
theorem aj2{rs:RF}:∀(l:List ay)(q:ay),q∈l→WM (keepR rs l) q=rs q:=by
 intro l
 induction l with
 |nil=>intro t h;cases h
 |cons x l ih=>
  intro t h
  simp only [keepR,WM]
  by_cases he:t=x
  ·rw [bW.2 he];subst he;rfl
  ·rw [gN he]
   exact ih t ((List.mem_cons.1 h).resolve_left he)
theorem aol{tm:TF}:∀(T:List (Nat×AV)),allT tm T→SL tm (T.map (·.1))=T:=by
 intro T
 induction T with
 |nil=>intro _;rfl
 |cons x T ih=>intro h;obtain ⟨t,v⟩:=x;obtain ⟨h1,h2⟩:=h;simp only [List.map_cons,SL,ih h2,h1]
theorem af6{rs:RF}:∀(U:List (ay×Option Root)),apk rs U→keepR rs (U.map (·.1))=U:=by
 intro U
 induction U with
 |nil=>intro _;rfl
 |cons x U ih=>intro h;obtain ⟨t,v⟩:=x;obtain ⟨h1,h2⟩:=h;simp only [List.map_cons,keepR,ih h2,h1]
theorem ahF{rs rs':RF}:∀(l:List ay),(∀q∈l,rs' q=rs q)→Jc rs' l=Jc rs l:=by
 intro l
 induction l with
 |nil=>intro _;rfl
 |cons x l ih=>
  intro h
  funext n
  simp only [Jc]
  rw [h x (by simp),ih fun q hq=>h q (by simp [hq])]
theorem aeH{kp:Keep}{s:St}:∀(T:List (Nat×AV)),(∀t∈T.map (·.1),t∈kp.1)→allT (restrict kp s).tmps T→allT s.tmps T:=by
 intro T
 induction T with
 |nil=>intro _ _;trivial
 |cons x T ih=>
  intro hm h
  obtain ⟨t,v⟩:=x
  refine ⟨?_,ih (fun u hu=>hm u (by simp at hu ⊢;exact .inr hu)) h.2⟩
  rw [←h.1]
  exact (aq8 _ t (hm t (by simp))).symm
theorem aeI{kp:Keep}{s:St}:∀(U:List (ay×Option Root)),(∀q∈U.map (·.1),q∈kp.2)→apk (restrict kp s).roots U→apk s.roots U:=by
 intro U
 induction U with
 |nil=>intro _ _;trivial
 |cons x U ih=>
  intro hm h
  obtain ⟨t,v⟩:=x
  refine ⟨?_,ih (fun u hu=>hm u (by simp at hu ⊢;exact .inr hu)) h.2⟩
  rw [←h.1]
  exact (aj2 _ t (hm t (by simp))).symm
theorem aR{kp:Keep}{s:St}{T:List (Nat×AV)}{U:List (ay×Option Root)}(h1:kp.1=T.map (·.1))(h2:kp.2=U.map (·.1))(hT:allT (restrict kp s).tmps T)(hU:apk (restrict kp s).roots U):restrict kp s=bR T U:=by
 have hT':=aeH T (by rw [h1];exact fun _ h=>h) hT
 have hU':=aeI U (by rw [h2];exact fun _ h=>h) hU
 unfold restrict bR
 rw [h1,h2,aol T hT',af6 U hU']
 have:Jc s.roots (U.map (·.1))=Jc (WM U) (U.map (·.1)):=by
  refine ahF _ fun q hq=>?_
  have h3:=af6 U hU'
  rw [←aj2 (rs:=s.roots) (U.map (·.1)) q hq,h3]
 rw [this]
def fB:Code→List Code
 |.seq a b=>fB a++fB b
 |.cond _ a b=>fB a++fB b
 |.block _ a=>fB a
 |.loop a=>a::fB a
 |_=>[]
theorem adf:∀(c:Code),(∀a∈fB c,∀i L,eH a=some i→gI i A=some L→bP V A a L)→qp V A c:=by
 intro c
 induction c with
 |seq a b iha ihb=>intro h;exact ⟨iha fun x hx=>h x (by simp [fB,hx]),ihb fun x hx=>h x (by simp [fB,hx])⟩
 |cond x a b iha ihb=>intro h;exact ⟨iha fun x hx=>h x (by simp [fB,hx]),ihb fun x hx=>h x (by simp [fB,hx])⟩
 |block id a ih=>intro h;exact ih h
 |loop a ih=>intro h;exact ⟨ih fun x hx=>h x (by simp [fB,hx]),h a (by simp [fB])⟩
 |_=>intro _;trivial
def aU(c:Code)(n:Nat):Code:=(fB c).getD n .skip
theorem ajB{c:Code}(h:(fB c).length=0):qp V A c:=adf c fun a ha=>by rw [List.eq_nil_of_length_eq_zero h] at ha;cases ha
theorem ajA{c:Code}{n:Nat}(hn:(fB c).length=n)(h:∀k,k<n→∀i L,eH (aU c k)=some i→gI i A=some L→bP V A (aU c k) L):qp V A c:=by
 refine adf c fun a ha=>?_
 obtain ⟨k,hk,rfl⟩:=List.mem_iff_getElem.1 ha
 have:=h k (by omega)
 unfold aU at this
 rw [List.getD_eq_getElem?_getD,List.getElem?_eq_getElem hk] at this
 exact this
theorem aop{a:Code}{id:Nat}{L:bB}(h1:eH a=some id)(h2:gI id A=some L)(h:bP V A a L):∀i L',eH a=some i→gI i A=some L'→bP V A a L':=by
 intro i L' h3 h4
 rw [h1] at h3
 cases h3
 rw [h2] at h4
 cases h4
 exact h
theorem gF{a:Code}{L:bB} (h:∀(s:St)(e:Ex)(s':St),(L.sm (restrict L.kp s)).run some=some (e,s') →
  ∃(σ β:Type) (mk:σ→St) (out:β→Ex×St) (step:σ→Tre (σ ⊕ β)) (x:σ) (b:β),restrict L.kp s=mk x∧aP step x=some b∧out b=(e,s') ∧
   ∀(x:σ)(c:St→Option (Ex×St)),den V A a (mk x) (bY L.kp L.kx c)=(step x).run (bZ mk out c)):bP V A a L:=by
 intro s e s' hs
 obtain ⟨σ,β,mk,out,step,x,b,h1,h2,h3,h4⟩:=h s e s' hs
 obtain ⟨n,hn⟩:=Q5.1 h2
 refine ⟨n,?_⟩
 rw [h1,←h3]
 exact aok h4 n x b hn
theorem afm{α:Type}{b:Bool}{t f:Tre α}{x y:α}(h1:t.run some=some x)(h2:f.run some=some y):(Tre.cond b t f).run some=some (cond b x y):=by cases b<;>assumption
theorem abF{ρ γ δ:Type}{o:Option ρ}{out:ρ→γ}{x:δ}{c:γ→Option δ}(h:(Tre.mat o fun y=>Tre.ret (out y)).run c=some x):∃y,o=some y∧c (out y)=some x:=by
 rw [Tre.qE] at h
 cases o with
 |none=>cases h
 |some y=>exact ⟨y,rfl,h⟩
theorem jd{β δ α:Type}{o:Option β}{k:β→Tre α}{x:δ}{c:α→Option δ}(h:(Tre.mat o k).run c=some x):∃y,o=some y∧(k y).run c=some x:=by
 rw [Tre.qE] at h
 cases o with
 |none=>cases h
 |some y=>exact ⟨y,rfl,h⟩
theorem bg{ρ:Type}{t:Tre ρ}{out:ρ→aA}{d:Option aA}{co:aA}(hd:d=t.run fun y=>some (out y))(h:(Tre.mat (t.run some) fun y=>Tre.ret (out y)).run some=some co):(Tre.mat d Tre.ret).run some=some co:=by
 obtain ⟨y,h1,h2⟩:=abF h
 rw [hd,Tre.run_bind t,h1]
 exact h2
theorem xR{ρ:Type}{t:Tre ρ}{out:ρ→aA}{d:Option aA}{co:aA}{y:ρ}(hd:d=t.run fun y=>some (out y))(hs:t.run some=some y)(h:(Tre.ret (out y):Tre aA).run some=some co):(Tre.mat d Tre.ret).run some=some co:=by
 rw [hd,Tre.run_bind t,hs]
 exact h
theorem Am{ρ:Type}{t:Tre ρ}{out:ρ→aA}{d:Option aA}{co:aA}{o:Option ρ}(hd:d=t.run fun y=>some (out y))(hs:∀y,o=some y→t.run some=some y)(h:(Tre.mat o fun y=>Tre.ret (out y)).run some=some co):(Tre.mat d Tre.ret).run some=some co:=by
 obtain ⟨y,h1,h2⟩:=abF h
 exact xR hd (hs y h1) h2
theorem aiY{ρ:Type}{t:Tre ρ}{out:ρ→aA}{k:ρ→Tre aA}{d:Option aA}{co:aA}(hd:d=t.run fun y=>some (out y))(h:(Tre.mat (t.run some) k).run some=some co)(hk:∀x,(k x).run some=some (out x)):(Tre.mat d Tre.ret).run some=some co:=by
 obtain ⟨y,h1,h2⟩:=jd h
 rw [hk] at h2
 rw [hd,Tre.run_bind t,h1]
 exact h2
theorem agJ{P:Program}{Γ:Glb}{f:FuncId}{q0 q1 q:Ctr}{e:K}(h0:Contract P Γ f q0)(h1:Contract P Γ f q1) (hq:∀ci co,(q.G ci).run some=some co→∃z d,ci=⟨[.imm z (.sl e) d],[]⟩ ∧
  (q1.G ⟨[.nn z e d],[]⟩).run some=some co∧(d=[]→(q0.G ⟨[.nil],[]⟩).run some=some co)) (hs:q.soft=false:=by rfl):Contract P Γ f q:=by
 intro w C ci co vals hM hptr hsz hvals hgl hG
 obtain ⟨z,d,rfl,g1,g0⟩:=hq ci co hG
 obtain ⟨v,rfl⟩:∃v,vals = #[v]:=by
  match vals,hsz with
  |⟨[v]⟩,_=>exact ⟨v,rfl⟩
 have hv:=hvals 0 v _ rfl rfl
 obtain ⟨hA,hc⟩:=hv.cell (by simp) rfl (by simp) (by simp)
 have key:(v=.slice none 0 0∧d=[])∨∃a n c,v=.slice (some a) n c:=by
  rcases hA.2 with ⟨h,_⟩|⟨_,rfl,a,h⟩|⟨_,b,off,cap,c,T,fz,h,_⟩
  ·cases h
  ·simp only [List.cons.injEq,and_true] at h
   cases a with
   |none=>exact .inl ⟨h,rfl⟩
   |some a=>exact .inr ⟨a,_,_,h⟩
  ·simp only [List.cons.injEq,and_true] at h
   exact .inr ⟨_,_,_,h⟩
 have one:∀{av:AV},bH w C (WO []) v av→∀(i:Nat)(v':Value)(a:AV),(#[v]:Array Value)[i]?=some v'→[av][i]?=some a→bH w C (WO []) v' a:=by
  intro av hav i v' a h1 h2
  cases i with
  |zero=>simp only [List.getElem?_cons_zero,Option.some.injEq] at h2;subst h2;simp at h1;subst h1;exact hav
  |succ i=>simp at h2
 have conv:∀{args:List AV}{sf:Bool}{e':Ending}{w':World},(match e' with
   |.returned v=>∃C',Oi w C ⟨args,[]⟩ co v w' C'∧(sf=true→abP w C ⟨args,[]⟩ co w' C')
   |_=>False)→(match e' with
   |.returned v=>∃C',Oi w C ⟨[.imm z (.sl e) d],[]⟩ co v w' C'∧(q.soft=true→abP w C ⟨[.imm z (.sl e) d],[]⟩ co w' C')
   |_=>False):=by
  intro args sf e' w' h
  cases e' with
  |returned v=>obtain ⟨C',hp,_⟩:=h;exact ⟨C',⟨hp.Z,hp.S,hp.θ,hp.mem,hp.val,hp.ρ,hp.kept,hp.foot,hp.zn⟩,fun h=>by rw [hs] at h;cases h⟩
  |_=>exact h
 rcases key with ⟨rfl,hd⟩|⟨a,n,c,rfl⟩
 ·refine Calls.mono ?_ (fun e' w' h=>conv (args:=[.nil]) (sf:=q0.soft) h)
  exact h0 w C ⟨[.nil],[]⟩ co #[.slice none 0 0] hM (by simp) rfl (one (.inl (.inr (.inr ⟨rfl,rfl,rfl⟩)))) hgl (g0 hd)
 ·refine Calls.mono ?_ (fun e' w' h=>conv (args:=[.nn z e d]) (sf:=q1.soft) h)
  exact h1 w C ⟨[.nn z e d],[]⟩ co #[.slice (some a) n c] hM (by simp) rfl (one (.inl (.inr (.inr ⟨rfl,⟨hA.1,hA.2,a,n,c,rfl⟩,rfl⟩)))) hgl g1
end
end Go.Abs
namespace Go.Abs
theorem dh{n:Int}(h1:-9223372036854775808≤n)(h2:n≤9223372036854775807):aN .i64 n=n:=Go.IntWalk.i64_in n ⟨h1,h2⟩
theorem aV{i:Nat}(h:i<4611686018427387904):aN .i64 ((i:Int)+1)=((i+1:Nat):Int):=by
 rw [dh (by omega) (by omega)];rfl
theorem YF{n:Int}(h1:0≤n)(h2:n≤18446744073709551615):aN .u64 n=n:=by
 unfold aN IntKind.wrap
 simp only [IntKind.signed,IntKind.bits,Bool.false_and,Bool.false_eq_true,if_false]
 exact Int.emod_eq_of_lt h1 (by omega)
theorem Ka(n:Int):0≤aN .u64 n:=by
 unfold aN IntKind.wrap
 simp only [IntKind.signed,IntKind.bits,Bool.false_and,Bool.false_eq_true,if_false]
 exact Int.emod_nonneg _ (by decide)
def inR(n a b:Int):Bool:=decide (a≤n)&&decide (n≤b)
theorem sM{n a b:Int}:inR n a b=true↔a≤n∧n≤b:=by simp [inR]
theorem aoj{n a b:Int}:inR n a b=false↔n<a∨b<n:=by
 cases h:inR n a b with
 |true=>rw [sM] at h;simp;omega
 |false=>
  simp only [true_iff]
  have:¬(a≤n∧n≤b):=fun h2=>by rw [sM.2 h2] at h;cases h
  omega
def agF{α:Type}(b:Bool)(x:α):Option α:=cond b (some x) none
theorem wP{α:Type}{b:Bool}{x y:α}(h:agF b x=some y):b=true∧x=y:=by
 cases b with
 |true=>exact ⟨rfl,Option.some.inj h⟩
 |false=>cases h
theorem wQ{α:Type}{b:Bool}{x:α}(h:b=true):agF b x=some x:=by rw [h];rfl
def lim{α:Type}(n:Nat)(x:α):Option α:=if n≤1048576 then some x else none
theorem ada{α:Type}{n:Nat}{x y:α}(h:lim n x=some y):n≤1048576∧x=y:=by
 unfold lim at h
 split at h
 ·exact ⟨‹_›,Option.some.inj h⟩
 ·cases h
theorem ahk{α:Type}{n:Nat}{x:α}(h:n≤1048576):lim n x=some x:=if_pos h
abbrev xP{α:Type}(xs:List α):Option (List α):=lim xs.length xs
section
variable {σ β α γ ρ R : Type} {step : σ → Tre (σ ⊕ β)}
theorem iJ{x y:σ}(h:(step x).run some=some (.inl y)):aP step x=aP step y:=by rw [ajz,h];rfl
theorem fC{x:σ}{b:β}(h:(step x).run some=some (.inr b)):aP step x=some b:=by rw [ajz,h];rfl
theorem fq{xs:List α}{i:Nat}{x:α}{k:α→Tre ρ}{e:Tre ρ}{c:ρ→Option R}(h:xs[i]?=some x) :
  (Tre.cond (decide ((i:Int)<(xs.length:Int))) (.ite (0≤(i:Int)∧(i:Int)<(xs.length:Int)) (.mat xs[(i:Int).toNat]? k)) e).run c=(k x).run c:=by
 have hi:i<xs.length:=(List.getElem?_eq_some_iff.1 h).1
 rw [Tre.aF,show decide ((i:Int)<(xs.length:Int))=true from by simp;omega,cond_true,Tre.run_ite,if_pos ⟨by omega,by omega⟩,Tre.qE,Int.toNat_natCast,h]
 rfl
theorem eG{xs:List α}{i:Nat}{x:α}{k:α→Tre ρ}{c:ρ→Option R}(h:xs[i]?=some x) :
  (Tre.ite (0≤(i:Int)∧(i:Int)<(xs.length:Int)) (.mat xs[(i:Int).toNat]? k)).run c=(k x).run c:=by
 have hi:i<xs.length:=(List.getElem?_eq_some_iff.1 h).1
 rw [Tre.run_ite,if_pos ⟨by omega,by omega⟩,Tre.qE,Int.toNat_natCast,h]
 rfl
theorem dY{n:Int}{t e:Tre ρ}{c:ρ→Option R}:(Tre.cond (decide (n<n)) t e).run c=e.run c:=by
 rw [Tre.aF,show decide (n<n)=false from by simp];rfl
theorem ah{o:Option α}{x:α}{k:α→Tre ρ}{c:ρ→Option R}(h:o=some x):(Tre.mat o k).run c=(k x).run c:=by rw [Tre.qE,h];rfl
def Bh(f:Nat→γ→α→γ ⊕ β)(fin:γ→β):Nat→γ→List α→β
 |_,acc,[]=>fin acc
 |i,acc,x::l=>match f i acc x with
  |.inl a=>Bh f fin (i+1) a l
  |.inr b=>b
theorem pR{xs:List α}(st:Nat→γ→σ)(f:Nat→γ→α→γ ⊕ β)(fin:γ→β)(I:Nat→γ→Prop)
  (hs:∀i acc x,xs[i]?=some x→I i acc→(step (st i acc)).run some=some (match f i acc x with
   |.inl a=>.inl (st (i+1) a)
   |.inr b=>.inr b)∧∀a,f i acc x=.inl a→I (i+1) a)
  (he:∀acc,I xs.length acc→(step (st xs.length acc)).run some=some (.inr (fin acc))):∀(l:List α)(i:Nat)(acc:γ),xs.drop i=l→i≤xs.length→I i acc→aP step (st i acc)=some (Bh f fin i acc l):=by
 intro l
 induction l with
 |nil=>
  intro i acc hl hi hI
  have:i=xs.length:=by have:=List.drop_eq_nil_iff.1 hl;omega
  subst this
  exact fC (he acc hI)
 |cons x l ih=>
  intro i acc hl hi hI
  have hx:xs[i]?=some x:=by
   have:=congrArg (·[0]?) hl
   simpa using this
  have hi':i<xs.length:=(List.getElem?_eq_some_iff.1 hx).1
  obtain ⟨h1,h2⟩:=hs i acc x hx hI
  simp only [Bh]
  cases hf:f i acc x with
  |inl a=>
   rw [hf] at h1
   rw [iJ h1]
   exact ih (i+1) a (by rw [←List.drop_drop,hl];rfl) (by omega) (h2 a hf)
  |inr b=>
   rw [hf] at h1
   exact fC h1
def Oy(f:Nat→α→Option β)(fin:β):Nat→List α→β
 |_,[]=>fin
 |i,x::l=>match f i x with
  |some b=>b
  |none=>Oy f fin (i+1) l
theorem Jz{step:Int→Tre (Int ⊕ β)}{xs:List α}(f:Nat→α→Option β)(fin:β)
  (hs:∀(i:Nat) x,xs[i]?=some x→(step (i:Int)).run some=some (match f i x with
   |none=>.inl ((i+1:Nat):Int)
   |some b=>.inr b)) (he:(step (xs.length:Int)).run some=some (.inr fin)):aP step 0=some (Oy f fin 0 xs):=by
 have key:∀(l:List α)(i:Nat),xs.drop i=l→i≤xs.length→aP step (i:Int)=some (Oy f fin i l):=by
  intro l
  induction l with
  |nil=>
   intro i hl hi
   have:i=xs.length:=by have:=List.drop_eq_nil_iff.1 hl;omega
   subst this
   exact fC he
  |cons x l ih=>
   intro i hl hi
   have hx:xs[i]?=some x:=by
    have:=congrArg (·[0]?) hl
    simpa using this
   have hi':i<xs.length:=(List.getElem?_eq_some_iff.1 hx).1
   have h1:=hs i x hx
   simp only [Oy]
   cases hf:f i x with
   |none=>
    rw [hf] at h1
    rw [iJ h1]
    exact ih (i+1) (by rw [←List.drop_drop,hl];rfl) (by omega)
   |some b=>
    rw [hf] at h1
    exact fC h1
 exact key xs 0 rfl (Nat.zero_le _)
def lF(p:α→Bool):Nat→List α→Int
 |_,[]=>-1
 |i,x::l=>cond (p x) (i:Int) (lF p (i+1) l)
theorem Yf{p:α→Bool}:∀(l:List α)(i:Nat),(match Oy (β:=Int ⊕ Unit) (fun i x=>cond (p x) (some (.inl (i:Int))) none) (.inr ()) i l with
  |.inl n=>n
  |.inr _=>-1)=lF p i l:=by
 intro l
 induction l with
 |nil=>intro i;rfl
 |cons x l ih=>
  intro i
  simp only [Oy,lF]
  cases p x with
  |true=>rfl
  |false=>exact ih _
theorem aqc{p:α→Bool}:∀(l:List α)(i:Nat),decide (lF p i l ≥ 0)=l.any p:=by
 intro l
 induction l with
 |nil=>intro i;rfl
 |cons x l ih=>
  intro i
  simp only [lF,List.any_cons]
  rcases Bool.eq_false_or_eq_true (p x) with hp|hp
  ·simp [hp]
  ·have:=ih (i+1)
   simp only [hp,cond_false,Bool.false_or]
   exact this
end
end Go.Abs
namespace Go.Abs
theorem YE{n:Nat}(h:n<9223372036854775808):aN .i64 (n:Int)=n:=dh (by omega) (by omega)
theorem Rh{n:Nat}(h:n<18446744073709551616):(BitVec.ofInt 64 (n:Int)).toNat=n:=by
 rw [BitVec.ofInt_natCast,BitVec.toNat_ofNat,Nat.mod_eq_of_lt h]
theorem lW{a b:Nat}(ha:a<2 ^ 63)(hb:b<2 ^ 63):jD .i64 (a:Int) (b:Int)=((a^^^b:Nat):Int):=by
 have hx:a^^^b<2 ^ 63:=Nat.xor_lt_two_pow ha hb
 have:(BitVec.ofInt 64 (a:Int)^^^BitVec.ofInt 64 (b:Int)).toNat=a^^^b:=by
  rw [BitVec.toNat_xor,Rh (by omega),Rh (by omega)]
 unfold jD
 show aN .i64 (((BitVec.ofInt 64 (a:Int)^^^BitVec.ofInt 64 (b:Int)).toNat:Nat):Int)=_
 rw [this,YE (by omega)]
theorem aqa{a b:Nat}(ha:a<2 ^ 63)(hb:b<2 ^ 63):LC .i64 (a:Int) (b:Int)=((a&&&b:Nat):Int):=by
 have hx:a&&&b<2 ^ 63:=Nat.and_lt_two_pow _ hb
 have:(BitVec.ofInt 64 (a:Int)&&&BitVec.ofInt 64 (b:Int)).toNat=a&&&b:=by
  rw [BitVec.toNat_and,Rh (by omega),Rh (by omega)]
 unfold LC
 show aN .i64 (((BitVec.ofInt 64 (a:Int)&&&BitVec.ofInt 64 (b:Int)).toNat:Nat):Int)=_
 rw [this,YE (by omega)]
theorem aqg{a j:Nat}(hj:j≤64):Pe .i64 (a:Int) (j:Int)=((a >>> j:Nat):Int):=by
 unfold Pe
 rw [Int.toNat_natCast,show min j (IntKind.bits .i64)=j from Nat.min_eq_left hj,Nat.shiftRight_eq_div_pow,Int.fdiv_eq_ediv_of_nonneg _ (by exact_mod_cast Nat.zero_le _)]
 push_cast
 rfl
def y7(x j:Int):Bool:=decide (LC .i64 (Pe .i64 x j) 1=1)
theorem D6{a j:Nat}(ha:a<2 ^ 63)(hj:j≤64):y7 (a:Int) (j:Int)=a.testBit j:=by
 have h1:a >>> j<2 ^ 63:=by rw [Nat.shiftRight_eq_div_pow];exact Nat.lt_of_le_of_lt (Nat.div_le_self _ _) ha
 unfold y7
 rw [aqg hj,show (1:Int)=((1:Nat):Int) from rfl,aqa h1 (by decide),Nat.and_one_is_mod,Nat.testBit_eq_decide_div_mod_eq,Nat.shiftRight_eq_div_pow]
 rw [Bool.eq_iff_iff]
 simp only [decide_eq_true_eq]
 omega
inductive Sp (l:List Nat):Nat→Prop
 |zero:Sp l 0
 |add {r v:Nat}:r∈l→Sp l v→Sp l (r^^^v)
theorem Sp.mem{l:List Nat}{r:Nat}(h:r∈l):Sp l r:=by
 have:=Sp.add h (Sp.zero)
 rwa [Nat.xor_zero] at this
theorem Sp.xor{l:List Nat}{a b:Nat}(ha:Sp l a)(hb:Sp l b):Sp l (a^^^b):=by
 induction ha with
 |zero=>rwa [Nat.zero_xor]
 |add h _ ih=>rw [Nat.xor_assoc];exact .add h ih
theorem Sp.trans{l l':List Nat}(h:∀r∈l,Sp l' r){v:Nat}(hv:Sp l v):Sp l' v:=by
 induction hv with
 |zero=>exact .zero
 |add hr _ ih=>exact (h _ hr).xor ih
def Lo(r p:Nat):Prop:=r.testBit p=true∧∀q,q<p→r.testBit q=false
theorem Lo.uniq{r p q:Nat}(h1:Lo r p)(h2:Lo r q):p=q:=by
 rcases Nat.lt_trichotomy p q with h|h|h
 ·have:=h2.2 p h;rw [h1.1] at this;cases this
 ·exact h
 ·have:=h1.2 q h;rw [h2.1] at this;cases this
def Red(c:Nat)(E:List (Nat×Nat)):Prop:=(∀a∈E,a.1<c∧Lo a.2 a.1)∧E.Pairwise fun a b=>a.1<b.1∧a.2.testBit b.1=false
def comb(f:Nat→Bool):List (Nat×Nat)→Nat
 |[]=>0
 |a::l=>cond (f a.1) (a.2^^^comb f l) (comb f l)
theorem aiK(f g:Nat→Bool):∀l:List (Nat×Nat),comb (fun x=>f x ^^ g x) l=comb f l^^^comb g l:=by
 intro l
 induction l with
 |nil=>exact (Nat.xor_self 0).symm
 |cons a l ih=>
  simp only [comb,ih]
  cases f a.1<;>cases g a.1<;>simp only [Bool.false_xor,Bool.true_xor,Bool.not_true,Bool.not_false,cond_true,cond_false]
  ·rw [←Nat.xor_assoc,←Nat.xor_assoc,Nat.xor_comm a.2]
  ·rw [Nat.xor_assoc]
  ·rw [Nat.xor_assoc a.2,Nat.xor_comm (comb f l) (a.2^^^comb g l),←Nat.xor_assoc,←Nat.xor_assoc,Nat.xor_self,Nat.zero_xor,Nat.xor_comm]
theorem X7(f:Nat→Bool):∀l:List (Nat×Nat),(∀a∈l,f a.1=false)→comb f l=0:=by
 intro l h
 induction l with
 |nil=>rfl
 |cons a l ih=>simp only [comb,h a (.head _),cond_false];exact ih fun x hx=>h x (.tail _ hx)
theorem TM(f:Nat→Bool){p:Nat}:∀l:List (Nat×Nat),(∀a∈l,a.2.testBit p=false)→(comb f l).testBit p=false:=by
 intro l h
 induction l with
 |nil=>simp [comb]
 |cons a l ih=>
  have:=ih fun x hx=>h x (.tail _ hx)
  simp only [comb]
  cases f a.1
  ·exact this
  ·simp [Nat.testBit_xor,this,h a (.head _)]
theorem Red.tail{c:Nat}{a:Nat×Nat}{l:List (Nat×Nat)}(h:Red c (a::l)):Red c l:=⟨fun x hx=>h.1 x (.tail _ hx),(List.pairwise_cons.1 h.2).2⟩
theorem apu{c:Nat}:∀(E:List (Nat×Nat)),Red c E→∀a∈E,comb (fun p=>p == a.1) E=a.2:=by
 intro E
 induction E with
 |nil=>intro _ a ha;cases ha
 |cons b l ih=>
  intro h a ha
  have hp:=(List.pairwise_cons.1 h.2).1
  simp only [comb]
  cases ha with
  |head=>
   rw [X7 _ l fun x hx=>by have:=(hp x hx).1;simp;omega]
   simp
  |tail _ ha=>
   have:(b.1 == a.1)=false:=by have:=(hp a ha).1;simp;omega
   rw [this]
   exact ih h.tail a ha
theorem Sp.comb{c:Nat}{E:List (Nat×Nat)}(h:Red c E){v:Nat}(hv:Sp (E.map (·.2)) v):∃f,v=Abs.comb f E:=by
 induction hv with
 |zero=>exact ⟨fun _=>false,(X7 _ _ fun _ _=>rfl).symm⟩
 |add hr _ ih=>
  obtain ⟨f,rfl⟩:=ih
  obtain ⟨a,ha,rfl⟩:=List.mem_map.1 hr
  exact ⟨_,by rw [aiK (fun p=>p == a.1) f,apu E h a ha]⟩
theorem aps{c:Nat}(f:Nat→Bool):∀(E:List (Nat×Nat)),Red c E→∀a∈E,(comb f E).testBit a.1=f a.1:=by
 intro E
 induction E with
 |nil=>intro _ a ha;cases ha
 |cons b l ih=>
  intro h a ha
  have hp:=(List.pairwise_cons.1 h.2).1
  simp only [comb]
  cases ha with
  |head=>
   have h0:(comb f l).testBit b.1=false:=TM f l fun x hx=>(h.1 x (.tail _ hx)).2.2 _ (hp x hx).1
   cases hf:f b.1
   ·exact h0
   ·simp [Nat.testBit_xor,h0,(h.1 b (.head _)).2.1]
  |tail _ ha=>
   have hb:=(hp a ha).2
   have:=ih h.tail a ha
   cases f b.1
   ·exact this
   ·simp [Nat.testBit_xor,this,hb]
theorem apt{c:Nat}(f:Nat→Bool):∀(E:List (Nat×Nat)),Red c E→comb f E=0∨∃a∈E,Lo (comb f E) a.1:=by
 intro E
 induction E with
 |nil=>intro _;exact .inl rfl
 |cons b l ih=>
  intro h
  have hp:=(List.pairwise_cons.1 h.2).1
  have hb:=(h.1 b (.head _)).2
  simp only [comb]
  cases f b.1
  ·rcases ih h.tail with h0|⟨a,ha,hl⟩
   ·exact .inl h0
   ·exact .inr ⟨a,.tail _ ha,hl⟩
  ·refine .inr ⟨b,.head _,?_,fun q hq=>?_⟩
   ·have h0:(comb f l).testBit b.1=false:=TM f l fun x hx=>(h.1 x (.tail _ hx)).2.2 _ (hp x hx).1
    simp [Nat.testBit_xor,h0,hb.1]
   ·have h0:(comb f l).testBit q=false:=TM f l fun x hx=>(h.1 x (.tail _ hx)).2.2 _ (Nat.lt_trans hq (hp x hx).1)
    simp [Nat.testBit_xor,h0,hb.2 q hq]
theorem Red.apart{c:Nat}:∀{E:List (Nat×Nat)},Red c E→∀{a b:Nat×Nat},a∈E→b∈E→a.1≠b.1→a.2.testBit b.1=false:=by
 intro E
 induction E with
 |nil=>intro _ a b ha;cases ha
 |cons x l ih=>
  intro h a b ha hb hne
  have hp:=(List.pairwise_cons.1 h.2).1
  cases ha with
  |head=>
   cases hb with
   |head=>exact absurd rfl hne
   |tail _ hb=>exact (hp b hb).2
  |tail _ ha=>
   cases hb with
   |head=>exact (h.1 a (.tail _ ha)).2.2 _ (hp a ha).1
   |tail _ hb=>exact ih h.tail ha hb hne
theorem Red.find{c:Nat}{E:List (Nat×Nat)}(h:Red c E){v p:Nat}(hv:Sp (E.map (·.2)) v)(hl:Lo v p):∃a∈E,a.1=p:=by
 obtain ⟨f,rfl⟩:=hv.comb h
 rcases apt f E h with h0|⟨a,ha,hl'⟩
 ·rw [h0] at hl;have:=hl.1;simp at this
 ·exact ⟨a,ha,hl'.uniq hl⟩
theorem Red.sub{c c':Nat}{E E':List (Nat×Nat)}(h:Red c E)(h':Red c' E')(hs:∀v,Sp (E.map (·.2)) v↔Sp (E'.map (·.2)) v):∀a∈E,a∈E':=by
 intro a ha
 have ha1:=(h.1 a ha).2
 have hin:∀b∈E,∃b'∈E',b'.1=b.1:=fun b hb=>h'.find ((hs _).1 (.mem (List.mem_map.2 ⟨b,hb,rfl⟩))) (h.1 b hb).2
 obtain ⟨a',ha',he⟩:=hin a ha
 have ha1':=(h'.1 a' ha').2
 have hw:Sp (E.map (·.2)) (a.2^^^a'.2):=(Sp.mem (List.mem_map.2 ⟨a,ha,rfl⟩)).xor ((hs _).2 (.mem (List.mem_map.2 ⟨a',ha',rfl⟩)))
 obtain ⟨g,hg⟩:=hw.comb h
 have hz:∀b∈E,g b.1=false:=by
  intro b hb
  rw [←aps g E h b hb,←hg,Nat.testBit_xor]
  by_cases hab:a.1=b.1
  ·rw [←hab,ha1.1,←he,ha1'.1];rfl
  ·obtain ⟨b',hb',he'⟩:=hin b hb
   rw [h.apart ha hb hab,←he',h'.apart ha' hb' (by rw [he,he'];exact hab)];rfl
 rw [X7 g E hz] at hg
 have h2:a.2=a'.2:=by
  have h3:=congrArg (· ^^^ a'.2) hg
  simp only [Nat.xor_assoc,Nat.xor_self,Nat.xor_zero,Nat.zero_xor] at h3
  exact h3
 have:a=a':=Prod.ext he.symm h2
 rw [this]
 exact ha'
theorem ao1:∀(E E':List (Nat×Nat)),(E.Pairwise fun a b=>a.1<b.1)→(E'.Pairwise fun a b=>a.1<b.1)→(∀a∈E,a∈E')→(∀a∈E',a∈E)→E=E':=by
 intro E
 induction E with
 |nil=>
  intro E' _ _ _ h
  cases E' with
  |nil=>rfl
  |cons b l=>have:=h b (.head _);cases this
 |cons a l ih=>
  intro E' hE hE' h1 h2
  cases E' with
  |nil=>have:=h1 a (.head _);cases this
  |cons b l'=>
   have hp:=List.pairwise_cons.1 hE
   have hp':=List.pairwise_cons.1 hE'
   have hab:a=b:=by
    have i1:=h1 a (.head _)
    have i2:=h2 b (.head _)
    cases i1 with
    |head=>rfl
    |tail _ i1=>
     cases i2 with
     |head=>rfl
     |tail _ i2=>have:=hp'.1 a i1;have:=hp.1 b i2;omega
   subst hab
   congr 1
   refine ih l' hp.2 hp'.2 (fun x hx=>?_) (fun x hx=>?_)
   ·have:=h1 x (.tail _ hx)
    cases this with
    |head=>have:=hp.1 _ hx;omega
    |tail _ h=>exact h
   ·have:=h2 x (.tail _ hx)
    cases this with
    |head=>have:=hp'.1 _ hx;omega
    |tail _ h=>exact h
theorem Red.uniq{c c':Nat}{E E':List (Nat×Nat)}(h:Red c E)(h':Red c' E')(hs:∀v,Sp (E.map (·.2)) v↔Sp (E'.map (·.2)) v):E=E':=
 ao1 E E' (h.2.imp fun h=>h.1) (h'.2.imp fun h=>h.1) (h.sub h' hs) (h'.sub h fun v=>(hs v).symm)
def qQ(rows E:List Nat):Prop:=∃P c,Red c P∧P.map (·.2)=E∧∀v,Sp rows v↔Sp E v
def ech (rows:List Nat):List Nat:=by
 classical
 exact if h:∃E,qQ rows E then Classical.choose h else []
theorem qQ.eq{rows E E':List Nat}(h:qQ rows E)(h':qQ rows E'):E=E':=by
 obtain ⟨P,c,hr,rfl,hs⟩:=h
 obtain ⟨P',c',hr',rfl,hs'⟩:=h'
 rw [hr.uniq hr' fun v=>(hs v).symm.trans (hs' v)]
theorem agO{rows E:List Nat}(h:qQ rows E):ech rows=E:=by
 have hx:∃E,qQ rows E:=⟨E,h⟩
 unfold ech
 rw [dif_pos hx]
 exact (Classical.choose_spec hx).eq h
def gK(c r x:Nat):Nat:=cond (x.testBit c) (x^^^r) x
theorem afV{c r x:Nat}(hr:r.testBit c=true):(gK c r x).testBit c=false:=by
 unfold gK
 cases h:x.testBit c
 ·exact h
 ·simp [Nat.testBit_xor,h,hr]
theorem QL{c r x q:Nat}(hr:r.testBit q=false):(gK c r x).testBit q=x.testBit q:=by
 unfold gK
 cases x.testBit c
 ·rfl
 ·simp [Nat.testBit_xor,hr]
theorem Ov{c r x b:Nat}(hr:r<2 ^ b)(hx:x<2 ^ b):gK c r x<2 ^ b:=by
 unfold gK
 cases x.testBit c
 ·exact hx
 ·exact Nat.xor_lt_two_pow hx hr
structure Inv(orig:List Nat)(c:Nat)(E:List (Nat×Nat))(R:List Nat):Prop where
 red:Red c E
 low:∀x∈R,∀q,q<c→x.testBit q=false
 span:∀v,Sp orig v↔Sp (E.map (·.2)++R) v
theorem Inv.skip{orig:List Nat}{c:Nat}{E:List (Nat×Nat)}{R:List Nat}(h:Inv orig c E R)(hc:∀x∈R,x.testBit c=false):Inv orig (c+1) E R:=
 ⟨⟨fun a ha=>⟨Nat.lt_succ_of_lt (h.red.1 a ha).1,(h.red.1 a ha).2⟩,h.red.2⟩,fun x hx q hq=>by
  rcases Nat.lt_succ_iff_lt_or_eq.1 hq with h1|rfl
  ·exact h.low x hx q h1
  ·exact hc x hx,h.span⟩
theorem Inv.step{orig:List Nat}{c:Nat}{E:List (Nat×Nat)}{R R':List Nat}{r:Nat}(h:Inv orig c E R)(hr:r∈R)(hb:r.testBit c=true)
  (h1:∀y∈R',y=0∨∃x∈R,y=gK c r x) (h2:∀x∈R,x=r∨gK c r x∈R'):Inv orig (c+1) (E.map (fun a=>(a.1,gK c r a.2))++[(c,r)]) R':=by
 have hlow:=h.low r hr
 refine ⟨⟨?_,?_⟩,?_,?_⟩
 ·intro a ha
  rcases List.mem_append.1 ha with ha|ha
  ·obtain ⟨b,hb',rfl⟩:=List.mem_map.1 ha
   obtain ⟨i1,i2⟩:=h.red.1 b hb'
   refine ⟨Nat.lt_succ_of_lt i1,?_,fun q hq=>?_⟩
   ·dsimp only;rw [QL (hlow _ i1)];exact i2.1
   ·dsimp only at hq ⊢;rw [QL (hlow _ (Nat.lt_trans hq i1))];exact i2.2 q hq
  ·simp only [List.mem_singleton] at ha
   subst ha
   exact ⟨Nat.lt_succ_self _,hb,hlow⟩
 ·refine List.pairwise_append.2 ⟨?_,List.pairwise_singleton _ _,?_⟩
  ·refine List.pairwise_map.2 ((List.pairwise_iff_forall_sublist.2 ?_))
   intro a b hs
   have hmem:a∈E∧b∈E:=⟨hs.subset (.head _),hs.subset (.tail _ (.head _))⟩
   have:=List.pairwise_iff_forall_sublist.1 h.red.2 hs
   exact ⟨this.1,by dsimp only;rw [QL (hlow _ (h.red.1 b hmem.2).1)];exact this.2⟩
  ·intro a ha b hb'
   simp only [List.mem_singleton] at hb'
   subst hb'
   obtain ⟨x,hx,rfl⟩:=List.mem_map.1 ha
   exact ⟨(h.red.1 x hx).1,afV hb⟩
 ·intro y hy q hq
  rcases h1 y hy with rfl|⟨x,hx,rfl⟩
  ·simp
  ·rcases Nat.lt_succ_iff_lt_or_eq.1 hq with h3|rfl
   ·rw [QL (hlow _ h3)];exact h.low x hx q h3
   ·exact afV hb
 ·have hr1:Sp (E.map (·.2)++R) r:=.mem (List.mem_append_right _ hr)
  have key:∀{L:List Nat}{x:Nat},Sp L r→Sp L x→Sp L (gK c r x):=by
   intro L x i1 i2
   unfold gK
   cases x.testBit c
   ·exact i2
   ·exact i2.xor i1
  have key2:∀{L:List Nat}{x:Nat},Sp L r→Sp L (gK c r x)→Sp L x:=by
   intro L x i1 i2
   unfold gK at i2
   cases hx:x.testBit c
   ·rw [hx] at i2;exact i2
   ·rw [hx] at i2
    have:=Sp.xor i2 i1
    simp only [cond_true] at this
    rwa [Nat.xor_assoc,Nat.xor_self,Nat.xor_zero] at this
  have hmap:(E.map (fun a=>(a.1,gK c r a.2))++[(c,r)]).map (·.2)=E.map (fun a=>gK c r a.2)++[r]:=by simp [List.map_map,Function.comp_def]
  rw [hmap]
  intro v
  rw [h.span v]
  have hr2:Sp (E.map (fun a=>gK c r a.2)++[r]++R') r:=.mem (by simp)
  constructor
  ·refine Sp.trans fun x hx=>?_
   rcases List.mem_append.1 hx with hx|hx
   ·obtain ⟨a,ha,rfl⟩:=List.mem_map.1 hx
    exact key2 hr2 (.mem (List.mem_append_left _ (List.mem_append_left _ (List.mem_map.2 ⟨a,ha,rfl⟩))))
   ·rcases h2 x hx with rfl|h3
    ·exact hr2
    ·exact key2 hr2 (.mem (List.mem_append_right _ h3))
  ·refine Sp.trans fun x hx=>?_
   rcases List.mem_append.1 hx with hx|hx
   ·rcases List.mem_append.1 hx with hx|hx
    ·obtain ⟨a,ha,rfl⟩:=List.mem_map.1 hx
     exact key hr1 (.mem (List.mem_append_left _ (List.mem_map.2 ⟨a,ha,rfl⟩)))
    ·simp only [List.mem_singleton] at hx
     subst hx
     exact hr1
   ·rcases h1 x hx with rfl|⟨y,hy,rfl⟩
    ·exact .zero
    ·exact key hr1 (.mem (List.mem_append_right _ hy))
theorem Inv.done{orig:List Nat}{c:Nat}{E:List (Nat×Nat)}{R:List Nat}(h:Inv orig c E R)(hz:∀x∈R,x=0):qQ orig (E.map (·.2)):=by
 refine ⟨E,c,h.red,rfl,fun v=>(h.span v).trans ⟨?_,?_⟩⟩
 ·refine Sp.trans fun x hx=>?_
  rcases List.mem_append.1 hx with hx|hx
  ·exact .mem hx
  ·rw [hz x hx];exact .zero
 ·exact Sp.trans fun x hx=>.mem (List.mem_append_left _ hx)
theorem Inv.start(orig:List Nat):Inv orig 0 [] orig:=⟨⟨fun a ha=>by (cases ha),.nil⟩,fun _ _ q hq=>absurd hq (Nat.not_lt_zero q),fun _=>Iff.rfl⟩
theorem MK{x b:Nat}(h:x<2 ^ b)(hq:∀q,q<b→x.testBit q=false):x=0:=by
 refine Nat.eq_of_testBit_eq fun q=>?_
 rw [Nat.zero_testBit]
 by_cases h1:q<b
 ·exact hq q h1
 ·exact Nat.testBit_lt_two_pow (Nat.lt_of_lt_of_le h (Nat.pow_le_pow_right (by decide) (by omega)))
abbrev up(l:List Nat):List Int:=l.map fun n:Nat=>(n:Int)
theorem XO{l:List Nat}{i x:Nat}(h:l[i]?=some x):(up l)[i]?=some (x:Int):=by simp [up,h]
theorem MI(l:List Nat)(i x:Nat):(up l).set i (x:Int)=up (l.set i x):=by simp [up,List.map_set]
theorem kJ(l:List Nat):(up l).length=l.length:=by simp [up]
def xA(g:Nat→Nat→Nat)(i:Nat)(l:List Nat):List Nat:=l.mapIdx fun j x=>if j<i then g j x else x
theorem WC(g:Nat→Nat→Nat)(i:Nat)(l:List Nat):(xA g i l).length=l.length:=by simp [xA]
theorem abG{g:Nat→Nat→Nat}{i j x:Nat}{l:List Nat}(h:l[j]?=some x):(xA g i l)[j]?=some (if j<i then g j x else x):=by simp [xA,h]
theorem aoF(g:Nat→Nat→Nat)(l:List Nat):xA g 0 l=l:=by
 refine List.ext_getElem? fun j=>?_
 simp [xA]
theorem ajZ{g:Nat→Nat→Nat}{i x:Nat}{l:List Nat}(h:l[i]?=some x):(xA g i l).set i (g i x)=xA g (i+1) l:=by
 refine List.ext_getElem? fun j=>?_
 have hi:i<l.length:=(List.getElem?_eq_some_iff.1 h).1
 rw [List.getElem?_set]
 by_cases hj:i=j
 ·subst hj
  rw [if_pos rfl,WC,if_pos hi,abG h,if_pos (Nat.lt_succ_self _)]
 ·rw [if_neg hj]
  unfold xA
  rw [List.getElem?_mapIdx,List.getElem?_mapIdx]
  congr 1
  funext y
  by_cases h1:j<i
  ·rw [if_pos h1,if_pos (by omega)]
  ·rw [if_neg h1,if_neg (by omega)]
theorem aqK(g:Nat→Nat→Nat)(l:List Nat):xA g l.length l=l.mapIdx g:=by
 refine List.ext_getElem? fun j=>?_
 unfold xA
 rw [List.getElem?_mapIdx,List.getElem?_mapIdx]
 cases h:l[j]? with
 |none=>rfl
 |some x=>simp [(List.getElem?_eq_some_iff.1 h).1]
theorem agh{β:Type}{step:(Int×List Int)→Tre ((Int×List Int) ⊕ β)}(g:Nat→Nat→Nat)(l:List Nat)(fin:List Int→β)
  (hs:∀(i:Nat) x,l[i]?=some x→(step ((i:Int),up (xA g i l))).run some=some (.inl (((i+1:Nat):Int),up (xA g (i+1) l))))
  (he:(step ((l.length:Int),up (xA g l.length l))).run some=some (.inr (fin (up (xA g l.length l))))):aP step (0,up l)=some (fin (up (l.mapIdx g))):=by
 have key:∀(n i:Nat),i+n=l.length→aP step ((i:Int),up (xA g i l))=some (fin (up (l.mapIdx g))):=by
  intro n
  induction n with
  |zero=>
   intro i hi
   have:i=l.length:=hi
   subst this
   rw [←aqK]
   exact fC he
  |succ n ih=>
   intro i hi
   have h1:i<l.length:=by omega
   rw [iJ (hs i l[i] (List.getElem?_eq_getElem h1))]
   exact ih (i+1) (by omega)
 have:=key l.length 0 (by omega)
 rw [aoF] at this
 exact this
theorem ahl(f:Nat→Nat)(l:List Nat):l.mapIdx (fun _ x=>f x)=l.map f:=by
 refine List.ext_getElem? fun i=>?_
 simp
theorem ahm{A B:List Nat}{r k:Nat}{f:Nat→Nat}{g:Nat→Nat→Nat}(hk:A.length=k)(hg:∀i x,i≠k→g i x=f x)(hr:g k r=r):(A++r::B).mapIdx g=A.map f++r::B.map f:=by
 subst hk
 refine List.ext_getElem? fun i=>?_
 rw [List.getElem?_mapIdx]
 rcases Nat.lt_trichotomy i A.length with h|h|h
 ·rw [List.getElem?_append_left h,List.getElem?_append_left (by simpa using h),List.getElem?_map]
  congr 1
  funext x
  exact hg i x (by omega)
 ·subst h
  rw [List.getElem?_append_right (Nat.le_refl _),List.getElem?_append_right (by simp)]
  simp [hr]
 ·rw [List.getElem?_append_right (by omega),List.getElem?_append_right (by simp;omega),List.length_map]
  obtain ⟨n,hn⟩:∃n,i-A.length=n+1:=⟨i-A.length-1,by omega⟩
  rw [hn,List.getElem?_cons_succ,List.getElem?_cons_succ,List.getElem?_map]
  congr 1
  funext x
  exact hg i x (by omega)
theorem wu{α:Type}(p:α→Bool):∀(l:List α)(i:Nat),(lF p i l = -1∧∀x∈l,p x=false)∨∃k x,l[k]?=some x∧p x=true∧lF p i l=((i+k:Nat):Int):=by
 intro l
 induction l with
 |nil=>intro i;exact .inl ⟨rfl,fun x hx=>by cases hx⟩
 |cons a l ih=>
  intro i
  simp only [lF]
  cases ha:p a
  ·rcases ih (i+1) with ⟨h1,h2⟩|⟨k,x,h1,h2,h3⟩
   ·exact .inl ⟨h1,fun x hx=>by
     cases hx with
     |head=>exact ha
     |tail _ hx=>exact h2 x hx⟩
   ·exact .inr ⟨k+1,x,h1,h2,by rw [cond_false,h3];congr 1;omega⟩
  ·exact .inr ⟨0,a,rfl,ha,rfl⟩
theorem ahJ{α ρ R:Type}{xs:List α}{i:Nat}{x:α}{k:α→Tre ρ}{c:ρ→Option R}(h:xs[i]?=some x) :
  (Tre.ite (0≤(i:Int)∧(i:Int)<(xs.length:Int)) (.mat xs[i]? k)).run c=(k x).run c:=by
 have hi:i<xs.length:=(List.getElem?_eq_some_iff.1 h).1
 rw [Tre.run_ite,if_pos ⟨by omega,by omega⟩,Tre.qE,h]
 rfl
def L6(b:Nat)(xs:List Int):Bool:=decide (xs.length≤1048576)&&xs.all fun x=>decide (0≤x)&&decide (x<((2 ^ b:Nat):Int))
theorem Y1{b:Nat}{xs:List Int}(h:L6 b xs=true):∃ns:List Nat,xs=up ns∧ns.length≤1048576∧(∀n∈ns,n<2 ^ b)∧xs.map Int.toNat=ns:=by
 unfold L6 at h
 simp only [Bool.and_eq_true,decide_eq_true_eq,List.all_eq_true] at h
 refine ⟨xs.map Int.toNat,?_,by simpa using h.1,?_,rfl⟩
 ·unfold up
  rw [List.map_map]
  exact ((List.map_congr_left (g:=id) fun x hx=>Int.toNat_of_nonneg (h.2 x hx).1).trans (List.map_id _)).symm
 ·intro n hn
  obtain ⟨x,hx,rfl⟩:=List.mem_map.1 hn
  have:=h.2 x hx
  omega
theorem aoD{b:Nat}{ns:List Nat}(h1:ns.length≤1048576)(h2:∀n∈ns,n<2 ^ b):L6 b (up ns)=true:=by
 unfold L6
 simp only [Bool.and_eq_true,decide_eq_true_eq,List.all_eq_true]
 refine ⟨by simpa using h1,fun x hx=>?_⟩
 obtain ⟨n,hn,rfl⟩:=List.mem_map.1 hx
 have:=h2 n hn
 omega
def aiV (xs:List Int):List Int:=up (ech (xs.map Int.toNat))
theorem up_toNat(ns:List Nat):(up ns).map Int.toNat=ns:=by
 unfold up
 rw [List.map_map]
 exact (List.map_congr_left (g:=id) fun x _=>rfl).trans (List.map_id _)
theorem L9{b c:Nat}(h:b≤c):2 ^ b≤2 ^ c:=Nat.pow_le_pow_right (by decide) h
end Go.Abs
namespace Go.Abs
end Go.Abs
namespace Go.Abs
end Go.Abs
namespace Go.Abs
def pI:List Nat→List Nat
 |[]=>[0]
 |x::l=>pI l++(pI l).map (x ^^^ ·)
theorem aes:∀l:List Nat,(pI l).length=2 ^ l.length:=by
 intro l
 induction l with
 |nil=>rfl
 |cons x l ih=>simp only [pI,List.length_append,List.length_map,ih,List.length_cons,Nat.pow_succ];omega
theorem akI:∀l:List Nat,0∈pI l:=by
 intro l
 induction l with
 |nil=>simp [pI]
 |cons x l ih=>exact List.mem_append.2 (.inl ih)
theorem MJ(a b:Nat):a^^^(a^^^b)=b:=by rw [←Nat.xor_assoc,Nat.xor_self,Nat.zero_xor]
theorem amF:∀{l:List Nat}{r v:Nat},r∈l→v∈pI l→r^^^v∈pI l:=by
 intro l
 induction l with
 |nil=>intro r v hr;cases hr
 |cons x l ih=>
  intro r v hr hv
  simp only [pI,List.mem_append,List.mem_map] at hv ⊢
  cases hr with
  |head=>
   rcases hv with hv|⟨w,hw,rfl⟩
   ·exact .inr ⟨v,hv,rfl⟩
   ·exact .inl (by rw [MJ];exact hw)
  |tail _ hr=>
   rcases hv with hv|⟨w,hw,rfl⟩
   ·exact .inl (ih hr hv)
   ·exact .inr ⟨r^^^w,ih hr hw,by rw [←Nat.xor_assoc,Nat.xor_comm x r,Nat.xor_assoc]⟩
theorem Sp.sums{l:List Nat}{v:Nat}(h:Sp l v):v∈pI l:=by
 induction h with
 |zero=>exact akI l
 |add hr _ ih=>exact amF hr ih
theorem as4:∀{l:List Nat}{v:Nat},v∈pI l→Sp l v:=by
 intro l
 induction l with
 |nil=>intro v hv;simp only [pI,List.mem_singleton] at hv;subst hv;exact .zero
 |cons x l ih=>
  intro v hv
  simp only [pI,List.mem_append,List.mem_map] at hv
  have hs:∀{w},Sp l w→Sp (x::l) w:=fun h=>h.trans fun r hr=>Sp.mem (.tail _ hr)
  rcases hv with hv|⟨w,hw,rfl⟩
  ·exact hs (ih hv)
  ·exact .add (.head _) (hs (ih hw))
theorem akJ{p:Nat}:∀{l:List Nat}{v:Nat},(∀r∈l,r.testBit p=false)→v∈pI l→v.testBit p=false:=by
 intro l
 induction l with
 |nil=>intro v _ hv;simp only [pI,List.mem_singleton] at hv;subst hv;simp
 |cons x l ih=>
  intro v h hv
  simp only [pI,List.mem_append,List.mem_map] at hv
  rcases hv with hv|⟨w,hw,rfl⟩
  ·exact ih (fun r hr=>h r (.tail _ hr)) hv
  ·rw [Nat.testBit_xor,h x (.head _),ih (fun r hr=>h r (.tail _ hr)) hw];rfl
theorem Red.nodup{c:Nat}:∀{E:List (Nat×Nat)},Red c E→(pI (E.map (·.2))).Nodup:=by
 intro E
 induction E with
 |nil=>intro _;simp [pI]
 |cons a l ih=>
  intro h
  have hp:=(List.pairwise_cons.1 h.2).1
  have hl:∀r∈l.map (·.2),r.testBit a.1=false:=by
   intro r hr
   obtain ⟨b,hb,rfl⟩:=List.mem_map.1 hr
   exact ((h.1 b (.tail _ hb)).2).2 a.1 (hp b hb).1
  have ha:a.2.testBit a.1=true:=(h.1 a (.head _)).2.1
  simp only [List.map_cons,pI]
  rw [List.nodup_append]
  refine ⟨ih h.tail,?_,?_⟩
  ·rw [List.nodup_iff_pairwise_ne]
   refine List.pairwise_map.2 ((List.nodup_iff_pairwise_ne.1 (ih h.tail)).imp ?_)
   intro x y hxy hne
   exact hxy (by rw [←MJ a.2 x,hne,MJ])
  ·intro x hx y hy hxy
   obtain ⟨w,hw,rfl⟩:=List.mem_map.1 hy
   have h1:=akJ hl hx
   have h2:=akJ hl hw
   rw [hxy,Nat.testBit_xor,ha,h2] at h1
   cases h1
theorem aqD{α:Type} [DecidableEq α]:∀{l l':List α},l.Nodup→(∀x∈l,x∈l')→l.length≤l'.length:=by
 intro l
 induction l with
 |nil=>intro l' _ _;exact Nat.zero_le _
 |cons x l ih=>
  intro l' hn hs
  rw [List.nodup_cons] at hn
  have hx:=hs x (.head _)
  have:=ih (l':=l'.erase x) hn.2 (fun y hy=>by
   have hne:y≠x:=by rintro rfl;exact hn.1 hy
   exact (List.mem_erase_of_ne hne).2 (hs y (.tail _ hy)))
  rw [List.length_erase_of_mem hx] at this
  have hpos:0<l'.length:=List.length_pos_of_mem hx
  simp only [List.length_cons]
  omega
theorem qQ.le{rows E:List Nat}(h:qQ rows E):E.length≤rows.length:=by
 obtain ⟨P,c,hr,rfl,hs⟩:=h
 have:=aqD hr.nodup (fun x hx=>((hs x).2 (as4 hx)).sums)
 rw [aes,aes] at this
 exact (Nat.pow_le_pow_iff_right (by decide)).1 this
theorem Sp.map{rows:List Nat}{f:Nat→Nat}(h0:f 0=0)(hf:∀a b,f (a^^^b)=f a^^^f b){v:Nat}(h:Sp rows v):Sp (rows.map f) (f v):=by
 induction h with
 |zero=>rw [h0];exact .zero
 |add hr _ ih=>rw [hf];exact .add (List.mem_map.2 ⟨_,hr,rfl⟩) ih
end Go.Abs
namespace Go.Abs
def aby(h:Nat):Nat→List Nat→Nat
 |_,[]=>0
 |i,x::l=>cond (h.testBit i) x 0^^^aby h (i+1) l
theorem agr{h:Nat}:∀(l:List Nat)(i:Nat),(∀q,i≤q→h.testBit q=false)→aby h i l=0:=by
 intro l
 induction l with
 |nil=>intro i _;rfl
 |cons x l ih=>
  intro i hq
  simp only [aby]
  rw [hq i (Nat.le_refl i),ih (i+1) fun q h=>hq q (by omega),cond_false,Nat.xor_self]
theorem ags(l:List Nat)(i:Nat):aby 0 i l=0:=agr l i fun q _=>Nat.zero_testBit q
theorem aro(x a b:Nat):a^^^b=(x^^^a)^^^(x^^^b):=by
 rw [Nat.xor_comm x a,Nat.xor_assoc,←Nat.xor_assoc x x b,Nat.xor_self,Nat.zero_xor]
theorem aqZ(a b:Nat):∀(l:List Nat)(i:Nat),aby (a^^^b) i l=aby a i l^^^aby b i l:=by
 intro l
 induction l with
 |nil=>intro i;exact (Nat.xor_self 0).symm
 |cons x l ih=>
  intro i
  simp only [aby]
  rw [ih,Nat.testBit_xor]
  cases a.testBit i<;>cases b.testBit i
  ·simp only [Bool.xor_false,cond_false,Nat.zero_xor]
  ·simp only [Bool.false_xor,cond_true,cond_false,Nat.zero_xor]
   rw [Nat.xor_comm,Nat.xor_assoc,Nat.xor_comm (aby b (i+1) l)]
  ·simp only [Bool.xor_false,cond_true,cond_false,Nat.zero_xor]
   rw [Nat.xor_assoc]
  ·simp only [Bool.xor_self,cond_true,cond_false,Nat.zero_xor]
   exact aro x _ _
theorem akC:∀(l:List Nat)(i j:Nat){x:Nat},l[j]?=some x→aby (2 ^ (i+j)) i l=x:=by
 intro l
 induction l with
 |nil=>intro i j x h;simp at h
 |cons y l ih=>
  intro i j x h
  simp only [aby]
  cases j with
  |zero=>
   simp only [List.getElem?_cons_zero,Option.some.injEq] at h
   subst h
   rw [Nat.add_zero,Nat.testBit_two_pow_self,cond_true,agr l (i+1) fun q hq=>by rw [Nat.testBit_two_pow];exact decide_eq_false (by omega),Nat.xor_zero]
  |succ j=>
   simp only [List.getElem?_cons_succ] at h
   rw [Nat.testBit_two_pow,decide_eq_false (by omega),cond_false,Nat.zero_xor,show i+(j+1)=i+1+j by omega]
   exact ih (i+1) j h
structure Vv(N:Nat)(S:List Nat):Prop where
 len:S.length=N
 head:∀i x,S[i]?=some x→x&&&(2 ^ N-1)=2 ^ i
theorem Vv.bit{N:Nat}{S:List Nat}(h:Vv N S){i x q:Nat}(hx:S[i]?=some x)(hq:q<N):x.testBit q=decide (i=q):=by
 have:=congrArg (·.testBit q) (h.head i x hx)
 simpa [Nat.testBit_and,Nat.testBit_two_pow_sub_one,Nat.testBit_two_pow,hq] using this
theorem Vv.back{N:Nat}{S:List Nat}(h:Vv N S){v:Nat}(hv:Sp S v):aby (v&&&(2 ^ N-1)) 0 S=v:=by
 induction hv with
 |zero=>rw [Nat.zero_and,ags]
 |add hr _ ih=>
  obtain ⟨i,hi⟩:=List.getElem?_of_mem hr
  rw [Nat.and_xor_distrib_right,aqZ,ih,h.head i _ hi]
  have:=akC S 0 i hi
  rw [Nat.zero_add] at this
  rw [this]
theorem Vs:∀(l:List (Nat×Nat))(lo b:Nat),(l.Pairwise fun a b=>a.1<b.1)→(∀a∈l,lo≤a.1∧a.1<b)→l.length≤b-lo:=by
 intro l
 induction l with
 |nil=>intro lo b _ _;exact Nat.zero_le _
 |cons a l ih=>
  intro lo b h hb
  obtain ⟨h1,h2⟩:=List.pairwise_cons.1 h
  have:=ih (a.1+1) b h2 fun x hx=>⟨h1 x hx,(hb x (.tail _ hx)).2⟩
  have h0:=hb a (.head _)
  simp only [List.length_cons]
  omega
theorem XI:∀(l:List (Nat×Nat))(lo:Nat),(l.Pairwise fun a b=>a.1<b.1)→(∀a∈l,lo≤a.1∧a.1<lo+l.length)→∀(i:Nat)(a:Nat×Nat),l[i]?=some a→a.1=lo+i:=by
 intro l
 induction l with
 |nil=>intro lo _ _ i a h;simp at h
 |cons b l ih=>
  intro lo h hb i a ha
  obtain ⟨h1,h2⟩:=List.pairwise_cons.1 h
  simp only [List.length_cons] at hb
  have h0:=hb b (.head _)
  have hl:=Vs l (b.1+1) (lo+(l.length+1)) h2 fun x hx=>⟨h1 x hx,(hb x (.tail _ hx)).2⟩
  have hb0:b.1=lo:=by omega
  cases i with
  |zero=>simp only [List.getElem?_cons_zero,Option.some.injEq] at ha;subst ha;exact hb0
  |succ i=>
   simp only [List.getElem?_cons_succ] at ha
   rw [ih (lo+1) h2 (fun x hx=>⟨by have:=h1 x hx;omega,by have:=(hb x (.tail _ hx)).2;omega⟩) i a ha]
   omega
theorem Vv.full{N:Nat}{S rows E:List Nat}(h:Vv N S)(hs:∀r∈rows,Sp S r)(he:qQ rows E)(hl:E.length=N):E=S:=by
 obtain ⟨P,c,hr,rfl,hsp⟩:=he
 rw [List.length_map] at hl
 have hin:∀a∈P,Sp S a.2:=fun a ha=>Sp.trans hs ((hsp a.2).2 (Sp.mem (List.mem_map.2 ⟨a,ha,rfl⟩)))
 have hpos:∀a∈P,a.1<N:=fun a ha=>by
  refine Nat.lt_of_not_le fun hge=>?_
  have h0:a.2&&&(2 ^ N-1)=0:=by
   refine Nat.eq_of_testBit_eq fun q=>?_
   rw [Nat.testBit_and,Nat.testBit_two_pow_sub_one,Nat.zero_testBit]
   by_cases hq:q<N
   ·rw [(hr.1 a ha).2.2 q (by omega)];rfl
   ·rw [decide_eq_false hq,Bool.and_false]
  have h1:=h.back (hin a ha)
  rw [h0,ags] at h1
  have h2:=(hr.1 a ha).2.1
  rw [←h1,Nat.zero_testBit] at h2
  cases h2
 have hidx:=XI P 0 (hr.2.imp fun h=>h.1) fun a ha=>⟨Nat.zero_le _,by have:=hpos a ha;omega⟩
 refine List.ext_getElem? fun i=>?_
 rw [List.getElem?_map]
 cases ha:P[i]? with
 |none=>
  have hi:=List.getElem?_eq_none_iff.1 ha
  rw [List.getElem?_eq_none_iff.2 (show S.length≤i by have:=h.len;omega)]
  rfl
 |some a=>
  have hi:i<P.length:=(List.getElem?_eq_some_iff.1 ha).1
  have ham:=List.mem_of_getElem? ha
  have ha1:a.1=i:=by rw [hidx i a ha];omega
  have hiS:i<S.length:=by have:=h.len;omega
  have hx:S[i]?=some S[i]:=List.getElem?_eq_getElem hiS
  have hhead:a.2&&&(2 ^ N-1)=2 ^ i:=by
   refine Nat.eq_of_testBit_eq fun q=>?_
   rw [Nat.testBit_and,Nat.testBit_two_pow_sub_one,Nat.testBit_two_pow]
   by_cases hq:q<N
   ·rw [decide_eq_true hq,Bool.and_true]
    by_cases hqi:i=q
    ·subst hqi;rw [decide_eq_true rfl,←ha1];exact (hr.1 a ham).2.1
    ·have hb:P[q]?=some P[q]:=List.getElem?_eq_getElem (by omega)
     have hb1:P[q].1=q:=by rw [hidx q _ hb];omega
     have:=hr.apart ham (List.mem_of_getElem? hb) (by omega)
     rw [hb1] at this
     rw [this,decide_eq_false hqi]
   ·rw [decide_eq_false hq,Bool.and_false,decide_eq_false (by omega)]
  have h1:=h.back (hin a ham)
  have h2:=akC S 0 i hx
  rw [Nat.zero_add] at h2
  rw [hhead,h2] at h1
  rw [hx,Option.map_some,h1]
theorem Vv.ech{N:Nat}{S:List Nat}(h:Vv N S):qQ S S:=by
 refine ⟨(List.range N).zip S,N,⟨fun a ha=>?_,?_⟩,?_,fun v=>Iff.rfl⟩
 ·obtain ⟨i,hi⟩:=List.getElem?_of_mem ha
  rw [List.getElem?_zip_eq_some] at hi
  obtain ⟨h1,h2⟩:=hi
  have hiN:i<N:=by have:=(List.getElem?_eq_some_iff.1 h1).1;simpa using this
  rw [List.getElem?_range hiN,Option.some.injEq] at h1
  refine ⟨by omega,by rw [h.bit h2 (by omega)];exact decide_eq_true h1,fun q hq=>by rw [h.bit h2 (by omega)];exact decide_eq_false (by omega)⟩
 ·rw [List.pairwise_iff_getElem]
  intro i j hi hj hij
  simp only [List.length_zip,List.length_range,h.len,Nat.min_self] at hi hj
  simp only [List.getElem_zip,List.getElem_range]
  refine ⟨hij,?_⟩
  rw [h.bit (List.getElem?_eq_getElem (by have:=h.len;omega)) hj]
  exact decide_eq_false (by omega)
 ·exact List.map_snd_zip (by simp [h.len])
theorem qQ.heads{N:Nat}{rows E A:List Nat}(h:qQ rows E)(hA:qQ (rows.map (· &&& (2 ^ N-1))) A)(hE:E.length=N)(hAl:A.length=N):Vv N E:=by
 obtain ⟨P,c,hr,rfl,hs⟩:=h
 rw [List.length_map] at hE
 have hlow:∀a∈P,a.1<N:=by
  intro a ha
  refine Decidable.byContradiction fun hn=>?_
  have hz:∀q,q<N→a.2.testBit q=false:=fun q hq=>(hr.1 a ha).2.2 q (by omega)
  have hza:a.2&&&(2 ^ N-1)=0:=by
   refine Nat.eq_of_testBit_eq fun q=>?_
   rw [Nat.testBit_and,Nat.testBit_two_pow_sub_one,Nat.zero_testBit]
   by_cases hq:q<N
   ·rw [hz q hq];rfl
   ·simp [hq]
  have hA2:qQ (((P.erase a).map (·.2)).map (· &&& (2 ^ N-1))) A:=by
   obtain ⟨Q,d,h1,h2,h3⟩:=hA
   refine ⟨Q,d,h1,h2,fun v=>Iff.trans ⟨fun hv=>?_,fun hv=>?_⟩ (h3 v)⟩
   ·refine Sp.trans (fun x hx=>?_) hv
    obtain ⟨y,hy,rfl⟩:=List.mem_map.1 hx
    obtain ⟨b,hb,rfl⟩:=List.mem_map.1 hy
    have:=((hs b.2).2 (Sp.mem (List.mem_map.2 ⟨b,List.mem_of_mem_erase hb,rfl⟩))).map (f:=(· &&& (2 ^ N-1))) (Nat.zero_and _) (fun a b=>Nat.and_xor_distrib_right)
    exact this
   ·have key:∀w,Sp (P.map (·.2)) w→Sp (((P.erase a).map (·.2)).map (· &&& (2 ^ N-1))) (w&&&(2 ^ N-1)):=by
     intro w hw
     induction hw with
     |zero=>rw [Nat.zero_and];exact .zero
     |add hx _ ih=>
      obtain ⟨b,hb,rfl⟩:=List.mem_map.1 hx
      rw [Nat.and_xor_distrib_right]
      by_cases hba:b=a
      ·rw [hba,hza,Nat.zero_xor];exact ih
      ·exact .add (List.mem_map.2 ⟨b.2,List.mem_map.2 ⟨b,(List.mem_erase_of_ne hba).2 hb,rfl⟩,rfl⟩) ih
    refine Sp.trans (fun x hx=>?_) hv
    obtain ⟨r,hr2,rfl⟩:=List.mem_map.1 hx
    exact key r ((hs r).1 (Sp.mem hr2))
  have:=hA2.le
  rw [List.length_map,List.length_map,List.length_erase_of_mem ha] at this
  have:=List.length_pos_of_mem ha
  omega
 have hsort:=hr.2.imp (S:=fun a b:Nat×Nat=>a.1<b.1) fun h=>h.1
 have hat:=XI P 0 hsort fun a ha=>⟨Nat.zero_le _,by have:=hlow a ha;omega⟩
 refine ⟨by rw [List.length_map];exact hE,fun i x hx=>?_⟩
 rw [List.getElem?_map] at hx
 obtain ⟨a,ha,rfl⟩:=Option.map_eq_some_iff.1 hx
 have hai:=hat i a ha
 have ham:=List.mem_of_getElem? ha
 have hiN:=hlow a ham
 refine Nat.eq_of_testBit_eq fun q=>?_
 rw [Nat.testBit_and,Nat.testBit_two_pow_sub_one,Nat.testBit_two_pow]
 by_cases hq:q<N
 ·obtain ⟨b,hb⟩:∃b,P[q]?=some b:=⟨_,List.getElem?_eq_getElem (by omega)⟩
  have hbq:=hat q b hb
  by_cases hiq:i=q
  ·subst hiq
   have:=(hr.1 a ham).2.1
   rw [show a.1=i by omega] at this
   simp [this,hq]
  ·have:=hr.apart ham (List.mem_of_getElem? hb) (by omega)
   rw [show b.1=q by omega] at this
   simp [this,hiq]
 ·have:i≠q:=by omega
  simp [hq,this]
theorem an6{rows:List Nat}(h:∀r∈rows,r=0):qQ rows []:=
 ⟨[],0,⟨(fun a ha=>by cases ha),List.Pairwise.nil⟩,rfl,fun v=>⟨fun hv=>Sp.trans (fun r hr=>by rw [h r hr];exact .zero) hv,fun hv=>Sp.trans (fun r hr=>by cases hr) hv⟩⟩
end Go.Abs
namespace Go.Abs
end Go.Abs
namespace Go.Abs
abbrev K.n:K:=.int .i64
abbrev K.il:K:=.sl (.int .i64)
abbrev AV.i(x:Int):AV:=.imm true (.int .i64) x
section
variable {R R' : Type} {r : R'} {g : R → Option R'}
theorem dI{k:K}{a:AV}{c:Bool→k.den→Tre R}{W:Prop}(h:∀z d,(c z d).run g=some r→a=.imm z k d→W)(e:(bE k a c).run g=some r):W:=
 let ⟨z,d,e1,e2⟩:=dO e
 h z d e2 e1
theorem aM{z0:Bool}{k:K}{a:AV}{c:k.den→Tre R}{W:Prop}(h:∀d,(c d).run g=some r→a=.imm z0 k d→W)(e:(aC z0 k a c).run g=some r):W:=
 let ⟨d,e1,e2⟩:=bQ e
 h d e2 e1
theorem agw{k:K}{a:AV}{c:Bool→k.den→Tre R}{W:Prop}(h:∀z d,(c z d).run g=some r→a=.iptr z (.sl k) [d] [.idx 0]→W)(e:(KO k a c).run g=some r):W:=
 let ⟨z,d,e1,e2⟩:=aiA e
 h z d e2 e1
theorem tNn{e:K}{a:AV}{c:Bool→List e.den→Tre R}{W:Prop}(h:∀z d,(c z d).run g=some r→a=.nn z e d→W)(e:(aru e a c).run g=some r):W:=
 let ⟨z,d,e1,e2⟩:=anN e
 h z d e2 e1
theorem kW{q:ay}{p:Path}{a:AV}{c:Tre R}{W:Prop}(h:(c).run g=some r→a=.ref q p→W)(e:(fA q p a c).run g=some r):W:=
 let ⟨e1,e2⟩:=akY e
 h e2 e1
theorem anI{q:ay}{t:Path}{a:AV}{c:Nat→Tre R}{W:Prop}(h:∀n,(c n).run g=some r→a=.ref q (amS t n)→W)(e:(TH q t a c).run g=some r):W:=
 let ⟨n,e1,e2⟩:=aiB e
 h n e2 e1
theorem fT{q:ay}{p:Path}{a:AV}{c:Tre R}{W:Prop}(h:(c).run g=some r→a=.ptr q p→W)(e:(dB q p a c).run g=some r):W:=
 let ⟨e1,e2⟩:=KP e
 h e2 e1
theorem tFn{f:Nat}{caps:List ay}{a:AV}{c:Tre R}{W:Prop}(h:(c).run g=some r→a=.fn f caps→W)(e:(vW f caps a c).run g=some r):W:=
 let ⟨e1,e2⟩:=wO e
 h e2 e1
theorem awO{a:AV}{c:Tre R}{W:Prop}(h:(c).run g=some r→a=.nil→W)(e:(amN a c).run g=some r):W:=
 let ⟨e1,e2⟩:=akX e
 h e2 e1
theorem aH{α:Type}{l:List α}{c:α→List α→Tre R}{W:Prop}(h:∀x y,(c x y).run g=some r→l=x::y→W)(e:(aB l c).run g=some r):W:=
 let ⟨x,y,e1,e2⟩:=ZB e
 h x y e2 e1
theorem bn{α:Type}{l:List α}{c:Tre R}{W:Prop}(h:(c).run g=some r→l=[]→W)(e:(aL l c).run g=some r):W:=
 let ⟨e1,e2⟩:=TG e
 h e2 e1
theorem tRt{mem:Bool}{k:K}{x:Root}{c:Mask→k.den→Tre R}{W:Prop}(h:∀m d,(c m d).run g=some r→x=⟨mem,k,m,d⟩→W)(e:(gH mem k x c).run g=some r):W:=
 let ⟨m,d,e1,e2⟩:=afL e
 h m d e2 e1
theorem bN{mem:Bool}{k:K}{o:Option Root}{c:Mask→k.den→Tre R}{W:Prop}(h:∀m d,(c m d).run g=some r→o=some ⟨mem,k,m,d⟩→W)(e:(aW mem k o c).run g=some r):W:=
 let ⟨m,d,e1,e2⟩:=jw e
 h m d e2 e1
theorem tM{m0 m:Mask}{c:Tre R}{W:Prop}(h:(c).run g=some r→m=m0→W)(e:(asM m0 m c).run g=some r):W:=
 let ⟨e1,e2⟩:=uK e
 h e2 e1
theorem rZ{m:Mask}{c:Bool→Tre R}{W:Prop}(h:∀z,(c z).run g=some r→m=.imm z→W)(e:(jg m c).run g=some r):W:=
 let ⟨z,e1,e2⟩:=ZC e
 h z e2 e1
theorem tD{α:Type} [DecidableEq α] {y:α} {x:α} {c:Tre R} {W:Prop} (h:(c).run g=some r→x=y→W) (e:(asD x y c).run g=some r):W:=
 let ⟨e1,e2⟩:=apo e
 h e2 e1
end
theorem dw{V:Env}{A:List (Nat×bB)}{a:Code}{kp kx:Keep}{D:St→Tre (Ex×St)} (h:∀(s:St)(e:Ex)(s':St),(D (restrict kp s)).run some=some (e,s') →
  ∃(σ β:Type) (mk:σ→St) (out:β→Ex×St) (step:σ→Tre (σ ⊕ β)) (x:σ) (b:β),restrict kp s=mk x∧aP step x=some b∧out b=(e,s') ∧
   ∀(x:σ)(c:St→Option (Ex×St)),den V A a (mk x) (bY kp kx c)=(step x).run (bZ mk out c)):bP V A a ⟨kp,kx,D⟩:=gF h
theorem bT{V:Env}{A:List (Nat×bB)}{a:Code}{kp kx:Keep}{σ β:Type}{mk:σ→St}{out:β→Ex×St}{step:σ→Tre (σ ⊕ β)}{s:St}{e:Ex×St}{x:σ}
  (h4:∀(x:σ)(c:St→Option (Ex×St)),den V A a (mk x) (bY kp kx c)=(step x).run (bZ mk out c)) (h:(Tre.mat (aP step x) fun y=>Tre.ret (out y)).run some=some e) (h1:restrict kp s=mk x) :
  ∃(σ β:Type) (mk:σ→St) (out:β→Ex×St) (step:σ→Tre (σ ⊕ β)) (x:σ) (b:β),restrict kp s=mk x∧aP step x=some b∧out b=e ∧
   ∀(x:σ)(c:St→Option (Ex×St)),den V A a (mk x) (bY kp kx c)=(step x).run (bZ mk out c):=by
 obtain ⟨y,hy,hz⟩:=abF h
 exact ⟨σ,β,mk,out,step,x,y,h1,hy,Option.some.inj hz,h4⟩
def fnI(fn:Func)(A:List (Nat×bB)):FnI:=⟨fn.body.getD .skip,fn.results.toList,fn.resultTypes.toList,A⟩
def dD(rw:List Nat)(G:List AV→List Root→Tre aA):Ctr:=⟨rw,fun ci=>G ci.args ci.roots,false⟩
theorem aD{P:Program}{V:Env}{Γ:Glb}{fn:Func}{A:List (Nat×bB)}{G:List AV→List Root→Tre aA}{f:FuncId}{rw:List Nat}(hT:gq P V)(hE:afH P Γ V)(hf:P.funcs[f]?=some fn)(hL:qp V A (fn.body.getD .skip))
  (h:∀av rs co,(G av rs).run some=some co→(Tre.mat (bI V (fnI fn A) ⟨av,rs⟩) Tre.ret).run some=some co) (hb:fn.body=some (fn.body.getD .skip):=by kernel_rfl)
  (hd:Bg fn.ntmps (fn.body.getD .skip)=true:=by kernel_rfl):Contract P Γ f (dD rw G):=
 (aiL (F:=fnI fn A) hT hE hf hb rfl hd hL rw).weaken fun ci co h'=>h ci.args ci.roots co h'
theorem bF{V:Env}{A:List (Nat×bB)}{c:Code}(h:(fB c).length=0:=by kernel_rfl):qp V A c:=ajB h
theorem bM{V:Env}{A:List (Nat×bB)}{a:Code}{id:Nat}{L:bB}(h:bP V A a L)(h1:eH a=some id:=by kernel_rfl)(h2:gI id A=some L:=by kernel_rfl):∀i L',eH a=some i→gI i A=some L'→bP V A a L':=aop h1 h2 h
theorem bJ{V:Env}{A:List (Nat×bB)}{c:Code}{n:Nat}(h:∀k,k<n→∀i L,eH (aU c k)=some i→gI i A=some L→bP V A (aU c k) L)(hn:(fB c).length=n:=by kernel_rfl):qp V A c:=ajA hn h
end Go.Abs
namespace Go.Abs
open Go.Sort
structure amM where
 g:List Int→List Int
 len:∀d,(g d).length=d.length
 cut:Option (List Int→Nat)
 le:∀n,cut=some n→∀d,n d≤d.length
def amM.res(o:amM)(d:List Int):AV:=match o.cut with
 |none=>.tnil
 |some n=>.slc (0,0) [] 0 (n d)
def amM.val(o:amM)(d:List Int)(a:Option Addr)(cap:Nat):Value:=match o.cut with
 |none=>.tuple #[]
 |some n=>.slice a (n d) cap
end Go.Abs
namespace Go.Proofs.Ytldafhnnnabipaa
open Go Go.Abs Go.Proofs
abbrev aJ:K:=(.pair .n (.pair .n .unit))
abbrev amY:K:=(.pair .n (.pair .il .unit))
abbrev fQ:K:=(.pair (.sl (.int .u8)) (.pair .n (.pair (.int .u64) .unit)))
abbrev acW:K:=(.pair aJ (.pair .il (.pair .n .unit)))
abbrev aG:K:=(.pair aJ (.pair .n (.pair (.sl .il) .unit)))
abbrev asa:K:=(.pair aJ (.pair .n (.pair .n (.pair (.sl .il) (.pair (.sl .il) .unit)))))
def tau:List (Nat×TI):=[(42,⟨.il,24,2⟩),(2,⟨.n,8,0⟩),(31,⟨aJ,16,0⟩),(48,⟨aG,48,0⟩),(24,⟨(.sl .il),24,42⟩),(3,⟨.n,8,0⟩),(165,⟨fQ,40,0⟩),(55,⟨(.sl (.int .u8)),24,5⟩),(94,⟨.fn,8,0⟩),(163,⟨(.int .u64),8,0⟩),(135,⟨.il,24,3⟩),(160,⟨(.sl aJ),24,31⟩),(5,⟨(.int .u8),1,0⟩),(1,⟨.fn,8,0⟩),(4,⟨.bool,1,0⟩),(9,⟨.str,16,0⟩),(12,⟨(.int .u64),8,0⟩),(13,⟨(.pair .str (.pair (.int .u64) .unit)),24,0⟩),(21,⟨(.int .i32),4,0⟩),(22,⟨aJ,16,0⟩),(23,⟨aJ,16,0⟩),(25,⟨asa,80,0⟩),(26,⟨asa,80,0⟩),(27,⟨.fn,8,0⟩),(28,⟨.fn,8,0⟩),(30,⟨.fn,8,0⟩),(32,⟨asa,80,0⟩),(33,⟨asa,80,0⟩),(34,⟨.fn,8,0⟩),(35,⟨.fn,8,0⟩),(36,⟨.fn,8,0⟩),(37,⟨.fn,8,0⟩),(38,⟨.fn,8,0⟩),(39,⟨aG,48,0⟩),(40,⟨aG,48,0⟩),(41,⟨.fn,8,0⟩),(43,⟨acW,48,0⟩),(44,⟨acW,48,0⟩),(46,⟨.fn,8,0⟩),(47,⟨aG,48,0⟩),(49,⟨.fn,8,0⟩),(50,⟨.fn,8,0⟩),(51,⟨.fn,8,0⟩),(52,⟨.fn,8,0⟩),(53,⟨.fn,8,0⟩),(54,⟨.fn,8,0⟩),(56,⟨.fn,8,0⟩),(57,⟨.fn,8,0⟩),(58,⟨(.int .u64),8,0⟩),(59,⟨.fn,8,0⟩),(61,⟨.fn,8,0⟩),(62,⟨amY,32,0⟩),(63,⟨amY,32,0⟩),(65,⟨.fn,8,0⟩),(66,⟨.fn,8,0⟩),(67,⟨.fn,8,0⟩),(69,⟨.fn,8,0⟩),(71,⟨.fn,8,0⟩),(72,⟨.fn,8,0⟩),(73,⟨.fn,8,0⟩),(74,⟨.fn,8,0⟩),(76,⟨.fn,8,0⟩),(77,⟨.fn,8,0⟩),(78,⟨.fn,8,0⟩),(79,⟨.fn,8,0⟩),(80,⟨.fn,8,0⟩),(81,⟨.fn,8,0⟩),(82,⟨.ptr,8,0⟩),(83,⟨.fn,8,0⟩),(84,⟨(.sl .bool),24,4⟩),(85,⟨.fn,8,0⟩),(86,⟨.fn,8,0⟩),(87,⟨.fn,8,0⟩),(88,⟨.fn,8,0⟩),(89,⟨.fn,8,0⟩),(90,⟨.fn,8,0⟩),(91,⟨.fn,8,0⟩),(92,⟨.fn,8,0⟩),(93,⟨.fn,8,0⟩),(95,⟨.fn,8,0⟩),(96,⟨.fn,8,0⟩),(97,⟨.ptr,8,0⟩),(98,⟨.fn,8,0⟩),(99,⟨.fn,8,0⟩),(100,⟨.fn,8,0⟩),(101,⟨.fn,8,0⟩),(102,⟨.fn,8,0⟩),(103,⟨.fn,8,0⟩),(104,⟨.ptr,8,0⟩),(105,⟨.fn,8,0⟩),(106,⟨.fn,8,0⟩),(107,⟨.fn,8,0⟩),(108,⟨.fn,8,0⟩),(109,⟨.fn,8,0⟩),(110,⟨.fn,8,0⟩),(111,⟨.fn,8,0⟩),(112,⟨.fn,8,0⟩),(113,⟨.fn,8,0⟩),(114,⟨.ptr,8,0⟩),(115,⟨.fn,8,0⟩),(116,⟨.fn,8,0⟩),(117,⟨.fn,8,0⟩),(118,⟨.fn,8,0⟩),(119,⟨.fn,8,0⟩),(120,⟨.fn,8,0⟩),(121,⟨.fn,8,0⟩),(122,⟨.fn,8,0⟩),(123,⟨.fn,8,0⟩),(124,⟨.fn,8,0⟩),(125,⟨.fn,8,0⟩),(126,⟨.fn,8,0⟩),(127,⟨.fn,8,0⟩),(128,⟨.fn,8,0⟩),(129,⟨.fn,8,0⟩),(130,⟨.fn,8,0⟩),(131,⟨.fn,8,0⟩),(133,⟨.fn,8,0⟩),(134,⟨.fn,8,0⟩),(136,⟨.fn,8,0⟩),(137,⟨.fn,8,0⟩),(138,⟨.fn,8,0⟩),(140,⟨.fn,8,0⟩),(141,⟨.fn,8,0⟩),(142,⟨.fn,8,0⟩),(143,⟨.fn,8,0⟩),(144,⟨.fn,8,0⟩),(145,⟨.fn,8,0⟩),(146,⟨.fn,8,0⟩),(147,⟨.fn,8,0⟩),(149,⟨.fn,8,0⟩),(150,⟨.fn,8,0⟩),(151,⟨.fn,8,0⟩),(152,⟨.fn,8,0⟩),(153,⟨.fn,8,0⟩),(154,⟨.fn,8,0⟩),(155,⟨.fn,8,0⟩),(156,⟨.fn,8,0⟩),(157,⟨.fn,8,0⟩),(158,⟨.fn,8,0⟩),(159,⟨.fn,8,0⟩),(161,⟨.fn,8,0⟩),(162,⟨.fn,8,0⟩),(164,⟨fQ,40,0⟩),(166,⟨.fn,8,0⟩),(167,⟨.fn,8,0⟩),(169,⟨.fn,8,0⟩),(170,⟨.fn,8,0⟩),(171,⟨.fn,8,0⟩),(172,⟨.fn,8,0⟩),(173,⟨.fn,8,0⟩),(174,⟨.fn,8,0⟩),(175,⟨.fn,8,0⟩),(176,⟨.fn,8,0⟩),(177,⟨.n,8,0⟩),(179,⟨.fn,8,0⟩),(180,⟨.fn,8,0⟩),(181,⟨.fn,8,0⟩),(182,⟨.fn,8,0⟩),(184,⟨.fn,8,0⟩),(185,⟨.fn,8,0⟩),(186,⟨(.int .u32),4,0⟩),(187,⟨.fn,8,0⟩),(188,⟨.fn,8,0⟩),(189,⟨.fn,8,0⟩),(190,⟨.fn,8,0⟩),(191,⟨.fn,8,0⟩),(192,⟨.fn,8,0⟩),(193,⟨(.int .u64),8,0⟩),(194,⟨.fn,8,0⟩),(195,⟨.fn,8,0⟩),(196,⟨.fn,8,0⟩),(197,⟨.ptr,8,0⟩),(198,⟨.fn,8,0⟩),(199,⟨.ptr,8,0⟩),(201,⟨.fn,8,0⟩),(202,⟨.fn,8,0⟩),(208,⟨.fn,8,0⟩),(211,⟨.fn,8,0⟩),(212,⟨.ptr,8,0⟩)]
theorem aT{E:List (Nat×Ctr)}{Z:List (Nat×List Frz)}:gq Try.prog ⟨tau,E,Z⟩:=arh (arf (by kernel_rfl)) (by kernel_rfl)
theorem avZ:Go.Abs.Enters Try.prog 35:=⟨Try.f35,Try.func35,by kernel_rfl,by kernel_rfl⟩
theorem av4:Go.Abs.Enters Try.prog 36:=⟨Try.f36,Try.func36,by kernel_rfl,by kernel_rfl⟩
theorem av5:Go.Abs.Enters Try.prog 37:=⟨Try.f37,Try.func37,by kernel_rfl,by kernel_rfl⟩
theorem av6:Go.Abs.Enters Try.prog 38:=⟨Try.f38,Try.func38,by kernel_rfl,by kernel_rfl⟩
theorem av7:Go.Abs.Enters Try.prog 39:=⟨Try.f39,Try.func39,by kernel_rfl,by kernel_rfl⟩
theorem av8:Go.Abs.Enters Try.prog 40:=⟨Try.f40,Try.func40,by kernel_rfl,by kernel_rfl⟩
theorem av9:Go.Abs.Enters Try.prog 41:=⟨Try.f41,Try.func41,by kernel_rfl,by kernel_rfl⟩
theorem awc:Go.Abs.Enters Try.prog 42:=⟨Try.f42,Try.func42,by kernel_rfl,by kernel_rfl⟩
theorem awd:Go.Abs.Enters Try.prog 43:=⟨Try.f43,Try.func43,by kernel_rfl,by kernel_rfl⟩
theorem awe:Go.Abs.Enters Try.prog 44:=⟨Try.f44,Try.func44,by kernel_rfl,by kernel_rfl⟩
theorem atf:Go.Abs.Enters Try.prog 45:=⟨Try.f45,Try.func45,by kernel_rfl,by kernel_rfl⟩
theorem apX:Go.Abs.Enters Try.prog 48:=⟨Try.f48,Try.func48,by kernel_rfl,by kernel_rfl⟩
theorem awf:Go.Abs.Enters Try.prog 55:=⟨Try.f55,Try.func55,by kernel_rfl,by kernel_rfl⟩
theorem amR:Go.Abs.Enters Try.prog 57:=⟨Try.f57,Try.func57,by kernel_rfl,by kernel_rfl⟩
theorem atg:Go.Abs.Enters Try.prog 58:=⟨Try.f58,Try.func58,by kernel_rfl,by kernel_rfl⟩
theorem apY:Go.Abs.Enters Try.prog 61:=⟨Try.f61,Try.func61,by kernel_rfl,by kernel_rfl⟩
theorem apZ:Go.Abs.Enters Try.prog 64:=⟨Try.f64,Try.func64,by kernel_rfl,by kernel_rfl⟩
theorem ath:Go.Abs.Enters Try.prog 73:=⟨Try.f73,Try.func73,by kernel_rfl,by kernel_rfl⟩
theorem ap0:Go.Abs.Enters Try.prog 75:=⟨Try.f75,Try.func75,by kernel_rfl,by kernel_rfl⟩
theorem ati:Go.Abs.Enters Try.prog 78:=⟨Try.f78,Try.func78,by kernel_rfl,by kernel_rfl⟩
theorem atj:Go.Abs.Enters Try.prog 86:=⟨Try.f86,Try.func86,by kernel_rfl,by kernel_rfl⟩
theorem ap1:Go.Abs.Enters Try.prog 98:=⟨Try.f98,Try.func98,by kernel_rfl,by kernel_rfl⟩
theorem atX:Go.Abs.Enters Try.prog 100:=⟨Try.f100,Try.func100,by kernel_rfl,by kernel_rfl⟩
theorem atY:Go.Abs.Enters Try.prog 101:=⟨Try.f101,Try.func101,by kernel_rfl,by kernel_rfl⟩
theorem apJ:Go.Abs.Enters Try.prog 102:=⟨Try.f102,Try.func102,by kernel_rfl,by kernel_rfl⟩
theorem apK:Go.Abs.Enters Try.prog 103:=⟨Try.f103,Try.func103,by kernel_rfl,by kernel_rfl⟩
theorem alo:Go.Abs.Enters Try.prog 104:=⟨Try.f104,Try.func104,by kernel_rfl,by kernel_rfl⟩
theorem apL:Go.Abs.Enters Try.prog 105:=⟨Try.f105,Try.func105,by kernel_rfl,by kernel_rfl⟩
theorem atZ:Go.Abs.Enters Try.prog 106:=⟨Try.f106,Try.func106,by kernel_rfl,by kernel_rfl⟩
theorem alp:Go.Abs.Enters Try.prog 107:=⟨Try.f107,Try.func107,by kernel_rfl,by kernel_rfl⟩
theorem alq:Go.Abs.Enters Try.prog 108:=⟨Try.f108,Try.func108,by kernel_rfl,by kernel_rfl⟩
theorem at1:Go.Abs.Enters Try.prog 109:=⟨Try.f109,Try.func109,by kernel_rfl,by kernel_rfl⟩
theorem at5:Go.Abs.Enters Try.prog 110:=⟨Try.f110,Try.func110,by kernel_rfl,by kernel_rfl⟩
theorem at6:Go.Abs.Enters Try.prog 111:=⟨Try.f111,Try.func111,by kernel_rfl,by kernel_rfl⟩
theorem at7:Go.Abs.Enters Try.prog 112:=⟨Try.f112,Try.func112,by kernel_rfl,by kernel_rfl⟩
theorem aua:Go.Abs.Enters Try.prog 113:=⟨Try.f113,Try.func113,by kernel_rfl,by kernel_rfl⟩
theorem apM:Go.Abs.Enters Try.prog 114:=⟨Try.f114,Try.func114,by kernel_rfl,by kernel_rfl⟩
theorem alr:Go.Abs.Enters Try.prog 115:=⟨Try.f115,Try.func115,by kernel_rfl,by kernel_rfl⟩
theorem aub:Go.Abs.Enters Try.prog 116:=⟨Try.f116,Try.func116,by kernel_rfl,by kernel_rfl⟩
theorem als:Go.Abs.Enters Try.prog 117:=⟨Try.f117,Try.func117,by kernel_rfl,by kernel_rfl⟩
theorem apN:Go.Abs.Enters Try.prog 118:=⟨Try.f118,Try.func118,by kernel_rfl,by kernel_rfl⟩
theorem auc:Go.Abs.Enters Try.prog 119:=⟨Try.f119,Try.func119,by kernel_rfl,by kernel_rfl⟩
theorem aud:Go.Abs.Enters Try.prog 120:=⟨Try.f120,Try.func120,by kernel_rfl,by kernel_rfl⟩
theorem alu:Go.Abs.Enters Try.prog 125:=⟨Try.f125,Try.func125,by kernel_rfl,by kernel_rfl⟩
theorem aue:Go.Abs.Enters Try.prog 128:=⟨Try.f128,Try.func128,by kernel_rfl,by kernel_rfl⟩
theorem auf:Go.Abs.Enters Try.prog 129:=⟨Try.f129,Try.func129,by kernel_rfl,by kernel_rfl⟩
theorem apO:Go.Abs.Enters Try.prog 130:=⟨Try.f130,Try.func130,by kernel_rfl,by kernel_rfl⟩
theorem agQ:Go.Abs.Enters Try.prog 132:=⟨Try.f132,Try.func132,by kernel_rfl,by kernel_rfl⟩
theorem aug:Go.Abs.Enters Try.prog 133:=⟨Try.f133,Try.func133,by kernel_rfl,by kernel_rfl⟩
theorem auh:Go.Abs.Enters Try.prog 135:=⟨Try.f135,Try.func135,by kernel_rfl,by kernel_rfl⟩
theorem aui:Go.Abs.Enters Try.prog 137:=⟨Try.f137,Try.func137,by kernel_rfl,by kernel_rfl⟩
theorem auj:Go.Abs.Enters Try.prog 138:=⟨Try.f138,Try.func138,by kernel_rfl,by kernel_rfl⟩
theorem auk:Go.Abs.Enters Try.prog 139:=⟨Try.f139,Try.func139,by kernel_rfl,by kernel_rfl⟩
theorem aul:Go.Abs.Enters Try.prog 140:=⟨Try.f140,Try.func140,by kernel_rfl,by kernel_rfl⟩
theorem ab9:Go.Abs.Enters Try.prog 142:=⟨Try.f142,Try.func142,by kernel_rfl,by kernel_rfl⟩
theorem alv:Go.Abs.Enters Try.prog 144:=⟨Try.f144,Try.func144,by kernel_rfl,by kernel_rfl⟩
theorem agR:Go.Abs.Enters Try.prog 145:=⟨Try.f145,Try.func145,by kernel_rfl,by kernel_rfl⟩
theorem aum:Go.Abs.Enters Try.prog 146:=⟨Try.f146,Try.func146,by kernel_rfl,by kernel_rfl⟩
theorem aun:Go.Abs.Enters Try.prog 147:=⟨Try.f147,Try.func147,by kernel_rfl,by kernel_rfl⟩
theorem agS:Go.Abs.Enters Try.prog 149:=⟨Try.f149,Try.func149,by kernel_rfl,by kernel_rfl⟩
theorem apP:Go.Abs.Enters Try.prog 150:=⟨Try.f150,Try.func150,by kernel_rfl,by kernel_rfl⟩
theorem Yd:Go.Abs.Enters Try.prog 157:=⟨Try.f157,Try.func157,by kernel_rfl,by kernel_rfl⟩
theorem auo:Go.Abs.Enters Try.prog 159:=⟨Try.f159,Try.func159,by kernel_rfl,by kernel_rfl⟩
theorem aup:Go.Abs.Enters Try.prog 161:=⟨Try.f161,Try.func161,by kernel_rfl,by kernel_rfl⟩
theorem auq:Go.Abs.Enters Try.prog 162:=⟨Try.f162,Try.func162,by kernel_rfl,by kernel_rfl⟩
theorem agT:Go.Abs.Enters Try.prog 163:=⟨Try.f163,Try.func163,by kernel_rfl,by kernel_rfl⟩
theorem aur:Go.Abs.Enters Try.prog 164:=⟨Try.f164,Try.func164,by kernel_rfl,by kernel_rfl⟩
theorem apQ:Go.Abs.Enters Try.prog 165:=⟨Try.f165,Try.func165,by kernel_rfl,by kernel_rfl⟩
theorem apR:Go.Abs.Enters Try.prog 166:=⟨Try.f166,Try.func166,by kernel_rfl,by kernel_rfl⟩
theorem aus:Go.Abs.Enters Try.prog 167:=⟨Try.f167,Try.func167,by kernel_rfl,by kernel_rfl⟩
theorem aut:Go.Abs.Enters Try.prog 168:=⟨Try.f168,Try.func168,by kernel_rfl,by kernel_rfl⟩
theorem auu:Go.Abs.Enters Try.prog 169:=⟨Try.f169,Try.func169,by kernel_rfl,by kernel_rfl⟩
theorem auv:Go.Abs.Enters Try.prog 170:=⟨Try.f170,Try.func170,by kernel_rfl,by kernel_rfl⟩
theorem auw:Go.Abs.Enters Try.prog 171:=⟨Try.f171,Try.func171,by kernel_rfl,by kernel_rfl⟩
theorem auy:Go.Abs.Enters Try.prog 172:=⟨Try.f172,Try.func172,by kernel_rfl,by kernel_rfl⟩
theorem apS:Go.Abs.Enters Try.prog 188:=⟨Try.f188,Try.func188,by kernel_rfl,by kernel_rfl⟩
theorem alx:Go.Abs.Enters Try.prog 190:=⟨Try.f190,Try.func190,by kernel_rfl,by kernel_rfl⟩
theorem auz:Go.Abs.Enters Try.prog 191:=⟨Try.f191,Try.func191,by kernel_rfl,by kernel_rfl⟩
theorem auA:Go.Abs.Enters Try.prog 192:=⟨Try.f192,Try.func192,by kernel_rfl,by kernel_rfl⟩
theorem aly:Go.Abs.Enters Try.prog 193:=⟨Try.f193,Try.func193,by kernel_rfl,by kernel_rfl⟩
theorem auB:Go.Abs.Enters Try.prog 194:=⟨Try.f194,Try.func194,by kernel_rfl,by kernel_rfl⟩
theorem auC:Go.Abs.Enters Try.prog 195:=⟨Try.f195,Try.func195,by kernel_rfl,by kernel_rfl⟩
theorem auD:Go.Abs.Enters Try.prog 196:=⟨Try.f196,Try.func196,by kernel_rfl,by kernel_rfl⟩
theorem auE:Go.Abs.Enters Try.prog 197:=⟨Try.f197,Try.func197,by kernel_rfl,by kernel_rfl⟩
theorem auF:Go.Abs.Enters Try.prog 198:=⟨Try.f198,Try.func198,by kernel_rfl,by kernel_rfl⟩
theorem apT:Go.Abs.Enters Try.prog 200:=⟨Try.f200,Try.func200,by kernel_rfl,by kernel_rfl⟩
theorem auG:Go.Abs.Enters Try.prog 201:=⟨Try.f201,Try.func201,by kernel_rfl,by kernel_rfl⟩
theorem auH:Go.Abs.Enters Try.prog 202:=⟨Try.f202,Try.func202,by kernel_rfl,by kernel_rfl⟩
theorem apU:Go.Abs.Enters Try.prog 203:=⟨Try.f203,Try.func203,by kernel_rfl,by kernel_rfl⟩
theorem auI:Go.Abs.Enters Try.prog 204:=⟨Try.f204,Try.func204,by kernel_rfl,by kernel_rfl⟩
theorem auJ:Go.Abs.Enters Try.prog 205:=⟨Try.f205,Try.func205,by kernel_rfl,by kernel_rfl⟩
theorem alz:Go.Abs.Enters Try.prog 206:=⟨Try.f206,Try.func206,by kernel_rfl,by kernel_rfl⟩
theorem apV:Go.Abs.Enters Try.prog 212:=⟨Try.f212,Try.func212,by kernel_rfl,by kernel_rfl⟩
theorem apW:Go.Abs.Enters Try.prog 221:=⟨Try.f221,Try.func221,by kernel_rfl,by kernel_rfl⟩
theorem auK:Go.Abs.Enters Try.prog 222:=⟨Try.f222,Try.func222,by kernel_rfl,by kernel_rfl⟩
theorem auL:Go.Abs.Enters Try.prog 223:=⟨Try.f223,Try.func223,by kernel_rfl,by kernel_rfl⟩
abbrev bX:=((List Int)×(Int×(Int×Unit)))
abbrev au:=((Int×(Int×Unit))×(Int×((List (List Int))×Unit)))
def amZ (p0:List Int):Tre Bool:=
 .ret (decide ((p0.length:Int)>4096))
def aom (p0:List Int):Option Bool:=(amZ p0).run some
def xw(p0:List Int):Bool:=
 decide ((p0.length:Int)>4096)
theorem ahi(p0:List Int):aom p0=some (xw p0):=rfl
def af8:Env:=⟨tau,[],[]⟩
def aoo:FnI:=fnI Try.f35 []
def ZY (_:Bool) (_:List Int):Bool→aA:=fun r=>⟨(.imm true .bool r),[],[]⟩
theorem alY:∀(zp0:Bool)(p0:List Int),bI af8 aoo ⟨[(.imm zp0 (.sl (.int .u8)) p0)],[]⟩=(amZ p0).run fun r=>some (ZY zp0 p0 r):=fun _ _=>by kernel_rfl
def aon (av:List AV) (rs:List Root):Tre aA:=
 aB av fun a0_ av0=>
 aL av0<|
 aL rs<|
 bE (.sl (.int .u8)) a0_ fun z2 d1=>
 .ret (ZY z2 d1 (xw d1))
def af9:Ctr:=dD [] aon
theorem alZ:Contract Try.prog .none 35 af9:=aD (V:=af8) aT aI Try.func35 bF fun _ _ _=>aH fun _ _=>bn<|bn<|dI fun _ _=>fun h=>by intros;subst_vars;exact xR (alY _ _) (ahi _) h
def agk (p0:List Int):Tre bX:=
 .ret (p0,(0,(0,())))
def akc (p0:List Int):Option bX:=(agk p0).run some
theorem adN(p0:List Int):akc p0=some (p0,(0,(0,()))):=rfl
def aak:Env:=⟨tau,[],[]⟩
def ake:FnI:=fnI Try.f86 []
def Td (zp0:Bool) (_:List Int):bX→aA:=fun r=>⟨(.ptr (1,0) []),[],[⟨true,fQ,(.imm zp0),r⟩]⟩
theorem ahQ:∀(zp0:Bool)(p0:List Int),bI aak ake ⟨[(.imm zp0 (.sl (.int .u8)) p0)],[]⟩=(agk p0).run fun r=>some (Td zp0 p0 r):=fun _ _=>by kernel_rfl
def akd (av:List AV) (rs:List Root):Tre aA:=
 aB av fun a0_ av0=>
 aL av0<|
 aL rs<|
 bE (.sl (.int .u8)) a0_ fun z2 d1=>
 .ret (Td z2 d1 (d1,(0,(0,()))))
def PS:Ctr:=dD [] akd
theorem WY:Contract Try.prog .none 86 PS:=aD (V:=aak) aT aI Try.func86 bF fun _ _ _=>aH fun _ _=>bn<|bn<|dI fun _ _=>fun h=>by intros;subst_vars;exact xR (ahQ _ _) (adN _) h
def wC (p0:bX):Tre (Int×bX):=
 .cond (decide (p0.2.1<(p0.1.length:Int)))
  (.ite (0≤p0.2.1∧p0.2.1<(p0.1.length:Int))<|
  .mat (p0.1[p0.2.1.toNat]?) fun x1=>
  let v2:=aN .u64 (p0.2.2.1*6364136223846793005)
  let v3:=aN .u64 (aN .i64 x1)
  let v4:=aN .u64 ((aN .u64 (v2+v3))+1442695040888963407)
  .cond (decide (aN .i64 (p0.2.1+1)≤(p0.1.length:Int)))
   (.ret (aN .i64 x1,(p0.1,(aN .i64 (p0.2.1+1),(v4,p0.2.2.2)))))
   (let v5:=LC .u64 (Pe .u64 v4 40) 255
   .ret (aN .i64 v5,(p0.1,(aN .i64 (p0.2.1+1),(v4,p0.2.2.2))))))
  (let v6:=aN .u64 (p0.2.2.1*6364136223846793005)
  let v7:=aN .u64 ((aN .u64 (v6+0))+1442695040888963407)
  .cond (decide (aN .i64 (p0.2.1+1)≤(p0.1.length:Int)))
   (.ret (0,(p0.1,(aN .i64 (p0.2.1+1),(v7,p0.2.2.2)))))
   (let v8:=LC .u64 (Pe .u64 v7 40) 255
   .ret (aN .i64 v8,(p0.1,(aN .i64 (p0.2.1+1),(v7,p0.2.2.2))))))
def jF (p0:bX):Option (Int×bX):=(wC p0).run some
def BQ:Env:=⟨tau,[],[]⟩
def PX:FnI:=fnI Try.f204 []
def yI (zp0:Bool) (_:bX):(Int×bX)→aA:=fun r=>⟨(.i r.1),[⟨true,fQ,(.imm zp0),r.2⟩],[]⟩
theorem NP:∀(zp0:Bool)(p0:bX),bI BQ PX ⟨[(.ptr (0,0) [])],[⟨true,fQ,(.imm zp0),p0⟩]⟩=(wC p0).run fun r=>some (yI zp0 p0 r):=fun _ _=>by kernel_rfl
def PW (av:List AV) (rs:List Root):Tre aA:=
 aB av fun a0_ av0=>
 aL av0<|
 aB rs fun r0_ rs0=>
 aL rs0<|
 dB (0,0) [] a0_<|
 gH true fQ r0_ fun m1 d2=>
 jg m1 fun z3=>
 .mat (jF d2) fun r=>.ret (yI z3 d2 r)
def BR:Ctr:=dD [] PW
theorem NQ:Contract Try.prog .none 204 BR:=aD (V:=BQ) aT aI Try.func204 bF fun _ _ _=>aH fun _ _=>bn<|aH fun _ _=>bn<|fT<|tRt fun _ _=>rZ fun _=>fun h=>by intros;subst_vars;exact bg (NP _ _) h
def wD (p0:Int) (p1:bX):Tre (Int×bX):=
 .cond (decide (p0≤1))
  (.ret (0,p1))
  (.mat (jF p1) fun r1=>
  .cond (decide (p0>200))
   (.mat (jF r1.2) fun r2=>
   let v3:=aN .i64 ((aN .i64 (r1.1*256))+r2.1)
   .ifn (p0=0)<|
   .ret (Int.tmod v3 p0,r2.2))
   (.ifn (p0=0)<|
   .ret (Int.tmod r1.1 p0,r1.2)))
def dZ (p0:Int) (p1:bX):Option (Int×bX):=(wD p0 p1).run some
def BU:Env:=⟨tau,[(204,BR)],[]⟩
def P6:FnI:=fnI Try.f149 []
def yK (zp0:Bool) (_:Int) (_:bX):(Int×bX)→aA:=fun r=>⟨(.i r.1),[⟨true,fQ,(.imm zp0),r.2⟩],[]⟩
theorem NR:∀(zp0:Bool)(p0:Int)(p1:bX),bI BU P6 ⟨[(.ptr (0,0) []),(.i p0)],[⟨true,fQ,(.imm zp0),p1⟩]⟩=(wD p0 p1).run fun r=>some (yK zp0 p0 p1 r):=fun _ _ _=>by kernel_rfl
def P5 (av:List AV) (rs:List Root):Tre aA:=
 aB av fun a0_ av0=>
 aB av0 fun a1_ av1=>
 aL av1<|
 aB rs fun r0_ rs0=>
 aL rs0<|
 dB (0,0) [] a0_<|
 aC true .n a1_ fun d1=>
 gH true fQ r0_ fun m2 d3=>
 jg m2 fun z4=>
 .mat (dZ d1 d3) fun r=>.ret (yK z4 d1 d3 r)
def jG:Ctr:=dD [] P5
theorem kZ:Contract Try.prog .none 149 jG:=aD (V:=BU) aT (ak NQ auI aI) Try.func149 bF fun _ _ _=>aH fun _ _=>aH fun _ _=>bn<|aH fun _ _=>bn<|fT<|aM fun _=>tRt fun _ _=>rZ fun _=>fun h=>by intros;subst_vars;exact bg (NR _ _ _) h
def EZ:(Int×Int)→Tre ((Int×Int) ⊕ Int):=fun s2=>
 .cond (decide (s2.1>0))
  (let v1:=aN .i64 (Int.tdiv s2.1 2)
  .ret (.inl (v1,aN .i64 (s2.2+1))))
  (.ret (.inr s2.2))
def aas (p0:Int):Tre Int:=
 .mat (aP EZ (p0,-1)) fun l2=>
 .ret l2
def mR (p0:Int):Option Int:=(aas p0).run some
def AQ:Env:=⟨tau,[],[]⟩
def Tg:Code:=(Try.f193.body).getD .skip
def Ij:(Int×Int)→St:=fun x=>bR [(0,(.i x.1)),(3,(.i x.2))] []
def E5:Int→Ex×St:=fun x=>(.exit 0,bR [(3,(.i x))] [])
def Za (s:St):Tre (Ex×St):=
 aC true .n (s.tmps 0) fun d2=>
 aC true .n (s.tmps 3) fun d4=>
 .mat (aP EZ (d2,d4)) fun x=>.ret (E5 x)
def sZ:bB:=⟨([0,3],[]),([3],[]),Za⟩
def Jg:List (Nat×bB):=[(2,sZ)]
theorem RU:∀(x:(Int×Int))(c:St→Option (Ex×St)),den AQ Jg (aU Tg 0) (Ij x) (bY sZ.kp sZ.kx c)=(EZ x).run (bZ (Ij) (E5) c):=fun _ _=>by
 kernel_rfl
theorem Xb:bP AQ Jg (aU Tg 0) sZ:=dw fun _ _ _=>aM fun _=>aM fun _=>fun h e3 e1=>bT RU h (by subst_vars;exact aR rfl rfl ⟨e1,e3,trivial⟩ trivial)
def afr:FnI:=fnI Try.f193 Jg
def Nc (_:Int):Int→aA:=fun r=>⟨(.i r),[],[]⟩
theorem adU:∀(p0:Int),bI AQ afr ⟨[(.i p0)],[]⟩=(aas p0).run fun r=>some (Nc p0 r):=fun _=>by kernel_rfl
def afq (av:List AV) (rs:List Root):Tre aA:=
 aB av fun a0_ av0=>
 aL av0<|
 aL rs<|
 aC true .n a0_ fun d1=>
 .mat (mR d1) fun r=>.ret (Nc d1 r)
def AU:Ctr:=dD [] afq
theorem E8:Contract Try.prog .none 193 AU:=aD (V:=AQ) aT aI Try.func193 (bJ (n:=1) fun k hk=>by
 match k,hk with
 |0,_=>exact bM (id:=2) Xb) fun _ _ _=>aH fun _ _=>bn<|bn<|aM fun _=>fun h=>by intros;subst_vars;exact bg (adU _) h
def Mf (bq:Int) (dx:Int):Int→Tre (Int ⊕ Int):=fun s2=>
 .mat (mR s2) fun r2=>
 .cond (decide (r2 ≥ dx))
  (.mat (mR s2) fun r3=>
  let v4:=aN .u64 (aN .i64 (r3-dx))
  .ite (0≤v4)<|
  let v5:=jD .i64 s2 (Gs .i64 bq v4)
  .ret (.inl v5))
  (.ret (.inr s2))
def agq (p0:Int) (p1:Int):Tre Int:=
 .mat (mR p1) fun r1=>
 .mat (aP (Mf p1 r1) p0) fun l6=>
 .ret l6
def Qe (p0:Int) (p1:Int):Option Int:=(agq p0 p1).run some
def Im:Env:=⟨tau,[(193,AU)],[]⟩
def aav:Code:=(Try.f221.body).getD .skip
def Nh (bq:Int) (dx:Int):Int→St:=fun x=>bR [(0,(.i x)),(1,(.i bq)),(5,(.i dx))] []
def Kq (_:Int) (_:Int):Int→Ex×St:=fun x=>(.exit 0,bR [(0,(.i x))] [])
def ad3 (s:St):Tre (Ex×St):=
 aC true .n (s.tmps 0) fun d2=>
 aC true .n (s.tmps 1) fun d4=>
 aC true .n (s.tmps 5) fun d6=>
 .mat (aP (Mf d4 d6) d2) fun x=>.ret (Kq d4 d6 x)
def yL:bB:=⟨([0,1,5],[]),([0],[]),ad3⟩
def Qd:List (Nat×bB):=[(2,yL)]
theorem Xi:∀(bq dx x:Int)(c:St→Option (Ex×St)),den Im Qd (aU aav 0) (Nh bq dx x) (bY yL.kp yL.kx c)=(Mf bq dx x).run (bZ (Nh bq dx) (Kq bq dx) c):=fun _ _ _ _=>by
 kernel_rfl
theorem abh:bP Im Qd (aU aav 0) yL:=dw fun _ _ _=>aM fun _=>aM fun _=>aM fun _=>fun h e5 e3 e1=>bT (Xi _ _) h (by subst_vars;exact aR rfl rfl ⟨e1,e3,e5,trivial⟩ trivial)
def akq:FnI:=fnI Try.f221 Qd
def Tk (_:Int) (_:Int):Int→aA:=fun r=>⟨(.i r),[],[]⟩
theorem ahZ:∀(p0 p1:Int),bI Im akq ⟨[(.i p0),(.i p1)],[]⟩=(agq p0 p1).run fun r=>some (Tk p0 p1 r):=fun _ _=>by kernel_rfl
def akp (av:List AV) (rs:List Root):Tre aA:=
 aB av fun a0_ av0=>
 aB av0 fun a1_ av1=>
 aL av1<|
 aL rs<|
 aC true .n a0_ fun d1=>
 aC true .n a1_ fun d2=>
 .mat (Qe d1 d2) fun r=>.ret (Tk d1 d2 r)
def Qf:Ctr:=dD [] akp
theorem Xj:Contract Try.prog .none 221 Qf:=aD (V:=Im) aT (ak E8 aly aI) Try.func221 (bJ (n:=1) fun k hk=>by
 match k,hk with
 |0,_=>exact bM (id:=2) abh) fun _ _ _=>aH fun _ _=>aH fun _ _=>bn<|bn<|aM fun _=>aM fun _=>fun h=>by intros;subst_vars;exact bg (ahZ _ _) h
def nk (om:Int) (OC:Int):Int→Tre (Int ⊕ (Bool ⊕ Unit)):=fun s5=>
 .mat (mR s5) fun r2=>
 .cond (decide (r2<OC))
  (.mat (Qe om s5) fun r3=>
  .cond (decide (r3=0))
   (.ret (.inr (.inl false)))
   (.ret (.inl (aN .i64 (s5+1)))))
  (.ret (.inr (.inr ())))
def Km (p0:Int):Tre Bool:=
 .mat (mR p0) fun r1=>
 .cond (decide (r1<1))
  (.ret false)
  (.cond (decide (r1>5))
   (.ret false)
   (.mat (aP (nk p0 r1) 2) fun l4=>
   .alt l4
    (fun a5=>
     .ret a5)
    (fun _=>
     .ret true)))
def wF (p0:Int):Option Bool:=(Km p0).run some
def oL:Env:=⟨tau,[(193,AU),(221,Qf)],[]⟩
def Fg:Code:=(Try.f203.body).getD .skip
def oM (om:Int) (OC:Int):Int→St:=fun x=>bR [(0,(.i om)),(3,(.i OC)),(4,(.i x))] []
def jU (_:Int) (_:Int):(Bool ⊕ Unit)→Ex×St
 |.inl x=>(.ret,bR [(2,(.imm true .bool x))] [])
 |.inr _=>(.exit 0,bR [(2,.dead)] [])
def zx (s:St):Tre (Ex×St):=
 aC true .n (s.tmps 0) fun d2=>
 aC true .n (s.tmps 3) fun d4=>
 aC true .n (s.tmps 4) fun d6=>
 .mat (aP (nk d2 d4) d6) fun x=>.alt x (fun a0=>.ret (jU d2 d4 (.inl a0))) (fun b0=>.ret (jU d2 d4 (.inr b0)))
def jf:bB:=⟨([0,3,4],[]),([2],[]),zx⟩
def wE:List (Nat×bB):=[(5,jf)]
theorem Ji:∀(om OC x:Int)(c:St→Option (Ex×St)),den oL wE (aU Fg 0) (oM om OC x) (bY jf.kp jf.kx c)=(nk om OC x).run (bZ (oM om OC) (jU om OC) c):=fun _ _ _ _=>by
 kernel_rfl
theorem Ma:bP oL wE (aU Fg 0) jf:=gF fun s e s' h=>by
 generalize hs:restrict jf.kp s=s1 at h
 have h:(zx s1).run some=some (e,s'):=h
 obtain ⟨d2,e1,h_0⟩:=bQ h
 obtain ⟨d4,e3,h_1⟩:=bQ h_0
 obtain ⟨d6,e5,h_2⟩:=bQ h_1
 obtain ⟨y,hy,hz⟩:=jd h_2
 refine ⟨_,_,oM d2 d4,jU d2 d4,nk d2 d4,d6,y,?_,hy,?_,Ji d2 d4⟩
 ·subst hs;exact aR (T:=[(0,(.i d2)),(3,(.i d4)),(4,(.i d6))]) (U:=[]) rfl rfl ⟨e1,e3,e5,trivial⟩ trivial
 ·rcases y with x|x<;>exact Option.some.inj hz
def U3:FnI:=fnI Try.f203 wE
def BX (_:Int):Bool→aA:=fun r=>⟨(.imm true .bool r),[],[]⟩
theorem RX:∀(p0:Int),bI oL U3 ⟨[(.i p0)],[]⟩=(Km p0).run fun r=>some (BX p0 r):=fun _=>by kernel_rfl
def U2 (av:List AV) (rs:List Root):Tre aA:=
 aB av fun a0_ av0=>
 aL av0<|
 aL rs<|
 aC true .n a0_ fun d1=>
 .mat (wF d1) fun r=>.ret (BX d1 r)
def wG:Ctr:=dD [] U2
theorem Dq:Contract Try.prog .none 203 wG:=aD (V:=oL) aT (ak E8 aly (ak Xj apW aI)) Try.func203 (bJ (n:=1) fun k hk=>by
 match k,hk with
 |0,_=>exact bM (id:=5) Ma) fun _ _ _=>aH fun _ _=>bn<|bn<|aM fun _=>fun h=>by intros;subst_vars;exact bg (RX _) h
-- shared
def allI{α:Type}(p:Nat→α→Bool):Nat→List α→Bool
 |_,[]=>true
 |i,x::l=>p i x&&allI p (i+1) l
theorem akU{α:Type}{p:α→Bool}:∀(l:List α)(i:Nat),allI (fun _ x=>p x) i l=l.all p:=by
 intro l
 induction l with
 |nil=>intro i;rfl
 |cons x l ih=>intro i;simp only [allI,List.all_cons,ih]
theorem alE{α β:Type}{p:Nat→α→Bool}{b0 b1:β}:∀(l:List α)(i:Nat),Bh (γ:=Unit) (fun i _ x=>cond (p i x) (.inl ()) (.inr b0)) (fun _=>b1) i () l=cond (allI p i l) b1 b0:=by
 intro l
 induction l with
 |nil=>intro i;rfl
 |cons x l ih=>
  intro i
  simp only [Bh,allI]
  cases p i x with
  |true=>simp only [cond_true,Bool.true_and];exact ih _
  |false=>rfl
theorem apl{α β:Type}{step:Int→Tre (Int ⊕ β)}{xs:List α}(p:Nat→α→Bool)(b0 b1:β)
  (hs:∀i x,xs[i]?=some x→(∀j y,j<i→xs[j]?=some y→p j y=true)→(step (i:Int)).run some=some (cond (p i x) (.inl ((i+1:Nat):Int)) (.inr b0)))
  (he:(step (xs.length:Int)).run some=some (.inr b1)):aP step 0=some (cond (allI p 0 xs) b1 b0):=by
 have:=pR (xs:=xs) (step:=step) (γ:=Unit) (fun i _=>(i:Int)) (fun i _ x=>cond (p i x) (.inl ()) (.inr b0)) (fun _=>b1) (fun i _=>∀j y,j<i→xs[j]?=some y→p j y=true)
  (by
   intro i acc x hx hI
   refine ⟨?_,?_⟩
   ·rw [hs i x hx hI]
    cases p i x<;>rfl
   ·intro a ha j y hj hy
    cases hp:p i x with
    |false=>rw [hp] at ha;cases ha
    |true=>
     by_cases hji:j=i
     ·subst hji;rw [hx] at hy;cases hy;exact hp
     ·exact hI j y (by omega) hy)
  (fun _ _=>he) xs 0 () rfl (Nat.zero_le _) (by intro j y h;omega)
 rw [←alE xs 0]
 exact this
theorem XV{α β:Type}{step:Int→Tre (Int ⊕ β)}{xs:List α}(p:α→Bool)(b0 b1:β)
  (hs:∀(i:Nat) x,xs[i]?=some x→(step (i:Int)).run some=some (cond (p x) (.inl ((i+1:Nat):Int)) (.inr b0)))
  (he:(step (xs.length:Int)).run some=some (.inr b1)):aP step 0=some (cond (xs.all p) b1 b0):=by
 rw [←akU xs 0]
 exact apl (fun _ x=>p x) b0 b1 (fun i x hx _=>hs i x hx) he
theorem aqb{α:Type}{p:α→Bool}(l:List α):(!decide (lF (fun x=>!p x) 0 l ≥ 0))=l.all p:=by
 rw [aqc]
 induction l with
 |nil=>rfl
 |cons x l ih=>simp only [List.any_cons,List.all_cons,←ih,Bool.not_or,Bool.not_not]
def aqM{α β:Type}(f:Nat→α→Option β):Nat→List α→List β
 |_,[]=>[]
 |i,x::l=>match f i x with
  |some y=>y::aqM f (i+1) l
  |none=>aqM f (i+1) l
theorem len2{e:List Int}(h:e.length=2):∃a b,e=[a,b]:=by
 match e,h with
 |[a,b],_=>exact ⟨a,b,rfl⟩
-- shared
abbrev TF3:=Int×Int×Unit
def ace:List (Int×Int):=[(1,2),(1,3),(2,7),(3,11),(3,13),(4,19),(4,25),(4,31),(5,37),(5,41),(5,47),(5,55),(5,59),(5,61)]
def aO(f:TF3):Bool:=ace.contains (f.1,f.2.1)
theorem Ox{f:TF3}(h:aO f=true):(f.1,f.2.1)∈ace:=by simpa [aO] using h
theorem dW{f:TF3}(h:aO f=true):1≤f.1∧f.1≤5:=by
 have h:=Ox h
 have:∀x∈ace,1≤x.1∧x.1≤5:=by decide
 exact this _ h
theorem agU{f:TF3}(h:aO f=true):2≤f.2.1∧f.2.1≤61:=by
 have h:=Ox h
 have:∀x∈ace,2≤x.2∧x.2≤61:=by decide
 exact this _ h
theorem aiX{F:TF3→Option Bool}(hd:∀f:TF3,inR f.1 1 5=false→F f=some false)
  (hb:∀f:TF3,(f.2.1<0∨64≤f.2.1)→F f=some false)
  (hk:((List.range' 1 5).all fun d=>(List.range 64).all fun p=>F ((d:Int),(p:Int),()) == some (aO ((d:Int),(p:Int),())))=true) (f:TF3):F f=some (aO f):=by
 have hno:∀g:TF3,(¬(1≤g.1∧g.1≤5)∨¬(0≤g.2.1∧g.2.1<64))→aO g=false:=by
  intro g hg
  cases h:aO g with
  |false=>rfl
  |true=>
   have h1:=dW h
   have h2:=agU h
   omega
 obtain ⟨d,p,⟨⟩⟩:=f
 by_cases h1:1≤d∧d≤5
 ·by_cases h2:0≤p∧p<64
  ·obtain ⟨n,rfl⟩:=Int.eq_ofNat_of_zero_le (show 0≤d by omega)
   obtain ⟨m,rfl⟩:=Int.eq_ofNat_of_zero_le h2.1
   have h3:=List.all_eq_true.1 (List.all_eq_true.1 hk n (List.mem_range'_1.2 (by omega))) m (List.mem_range.2 (by omega))
   exact eq_of_beq h3
  ·rw [hb _ (by show p<0∨64≤p;omega),hno _ (.inr h2)]
 ·rw [hd _ (aoj.2 (by show d<1∨5<d;omega)),hno _ (.inl h1)]
-- shared
def avX:Nat→Nat→Nat→Nat
 |0,_,_=>0
 |n+1,a,b=>Nat.xor (bif Nat.beq (b%2) 1 then a else 0) (avX n (2*a) (b/2))
def atI:Nat→Nat→Nat→Nat
 |0,c,_=>c
 |n+1,c,p=>bif Nat.ble (Nat.log2 p) (Nat.log2 c) then atI n (Nat.xor c (Nat.shiftLeft p (Nat.log2 c-Nat.log2 p))) p else c
def mulN(p a b:Nat):Nat:=atI 6 (avX 6 a b) p
def fZ(f:TF3)(a b:Int):Int:=((mulN f.2.1.toNat a.toNat b.toNat:Nat):Int)
def inF(f:TF3)(a:Int):Prop:=0≤a∧a<((2 ^ f.1.toNat:Nat):Int)
def iT:List (Nat×Nat):=[(1,2),(1,3),(2,7),(3,11),(3,13),(4,19),(4,25),(4,31),(5,37),(5,41),(5,47),(5,55),(5,59),(5,61)]
def xM(F:TF3→Int→Int→Option Int)(G:Nat→Nat→Nat→Nat)(d p:Nat):Bool:=(List.range (2 ^ d)).all fun a=>(List.range (2 ^ d)).all fun b=>F ((d:Int),(p:Int),()) (a:Int) (b:Int) == some ((G p a b:Nat):Int)
theorem zK{f:TF3}(h:aO f=true):∃d p:Nat,(d,p)∈iT∧f=((d:Int),(p:Int),()):=by
 have h1:=Ox h
 obtain ⟨a,b,⟨⟩⟩:=f
 have key:∀x∈ace,∃q∈iT,x=((q.1:Int),(q.2:Int)):=by decide
 obtain ⟨q,h2,h3⟩:=key _ h1
 simp only [Prod.mk.injEq] at h3
 exact ⟨q.1,q.2,h2,by rw [h3.1,h3.2]⟩
theorem arb{F:TF3→Int→Int→Option Int}{G:Nat→Nat→Nat→Nat}(h:∀q∈iT,xM F G q.1 q.2=true){f:TF3}(hf:aO f=true){a b:Int}(ha:inF f a)(hb:inF f b):F f a b=some ((G f.2.1.toNat a.toNat b.toNat:Nat):Int):=by
 obtain ⟨d,p,hq,rfl⟩:=zK hf
 obtain ⟨ha0,ha1⟩:=ha
 obtain ⟨hb0,hb1⟩:=hb
 simp only [Int.toNat_natCast] at ha1 hb1
 obtain ⟨m,rfl⟩:=Int.eq_ofNat_of_zero_le ha0
 obtain ⟨n,rfl⟩:=Int.eq_ofNat_of_zero_le hb0
 have h1:=List.all_eq_true.1 (List.all_eq_true.1 (h _ hq) m (List.mem_range.2 (by exact_mod_cast ha1))) n (List.mem_range.2 (by exact_mod_cast hb1))
 exact eq_of_beq h1
def E9 (aQ:Int):(Int×(List (Int×(Int×Unit))))→Tre ((Int×(List (Int×(Int×Unit)))) ⊕ (List (Int×(Int×Unit)))):=fun s3=>
 .ite (0≤aN .u64 aQ)<|
 let v2:=Gs .i64 2 (aN .u64 aQ)
 .cond (decide (s3.1<v2))
  (.mat (wF s3.1) fun r3=>
  .cond r3
   (.ite ((s3.2.length+1)*16≤bS∧1≤16)<|
   let v4:=s3.2++([(aQ,(s3.1,()))])
   .ret (.inl (aN .i64 (s3.1+1),v4)))
   (.ret (.inl (aN .i64 (s3.1+1),s3.2))))
  (.ret (.inr s3.2))
def aat (p0:Int):Tre (List (Int×(Int×Unit))):=
 .ite (0≤aN .u64 p0)<|
 let v1:=Gs .i64 1 (aN .u64 p0)
 .mat (aP (E9 p0) (v1,[])) fun l5=>
 .ret l5
def AX (p0:Int):Option (List (Int×(Int×Unit))):=(aat p0).run some
-- more
def GK(d:Nat):List TF3:=(iT.filter fun q=>q.1 == d).map fun q=>((q.1:Int),(q.2:Int),())
theorem alC:((List.range' 1 5).all fun d=>AX (d:Int) == some (GK d))=true:=by kernel_rfl
theorem an9{d:Nat}(h1:1≤d)(h2:d≤5):AX (d:Int)=some (GK d):=by
 have:=List.all_eq_true.1 alC d (List.mem_range'_1.2 (by omega))
 exact eq_of_beq this
theorem alB{d:Nat}(h1:1≤d)(h2:d≤5):1≤(GK d).length∧(GK d).length≤6∧∀f∈GK d,aO f=true∧f.1=(d:Int):=by
 have:∀d∈List.range' 1 5,1≤(GK d).length∧(GK d).length≤6∧∀f∈GK d,aO f=true∧f.1=(d:Int):=by decide
 exact this d (List.mem_range'_1.2 (by omega))
def AY:Env:=⟨tau,[(203,wG)],[]⟩
def Ti:Code:=(Try.f147.body).getD .skip
def Ik (aQ:Int):(Int×(List (Int×(Int×Unit))))→St:=fun x=>bR [(0,(.i aQ)),(3,(.ref (5,0) [])),(4,(.i x.1))] [((5,0),some ⟨false,(.sl aJ),.own,x.2⟩)]
def Fe (_:Int):(List (Int×(Int×Unit)))→Ex×St:=fun x=>(.exit 0,bR [(3,(.ref (5,0) []))] [((5,0),some ⟨false,(.sl aJ),.own,x⟩)])
def Zb (s:St):Tre (Ex×St):=
 aC true .n (s.tmps 0) fun d2=>
 fA (5,0) [] (s.tmps 3)<|
 aC true .n (s.tmps 4) fun d5=>
 aW false (.sl aJ) (s.roots (5,0)) fun m7 d8=>
 asM .own m7<|
 .mat (aP (E9 d2) (d5,d8)) fun x=>.ret (Fe d2 x)
def tq:bB:=⟨([0,3,4],[(5,0)]),([3],[(5,0)]),Zb⟩
def Jh:List (Nat×bB):=[(3,tq)]
theorem RV:∀(aQ:Int)(x:(Int×(List (Int×(Int×Unit)))))(c:St→Option (Ex×St)),den AY Jh (aU Ti 0) (Ik aQ x) (bY tq.kp tq.kx c)=(E9 aQ x).run (bZ (Ik aQ) (Fe aQ) c):=fun _ _ _=>by
 kernel_rfl
theorem Xc:bP AY Jh (aU Ti 0) tq:=dw fun _ _ _=>aM fun _=>kW<|aM fun _=>bN fun _ _=>tM<|fun h _ e6 e4 e3 e1=>bT (RV _) h (by subst_vars;exact aR rfl rfl ⟨e1,e3,e4,trivial⟩ ⟨e6,trivial⟩)
def aft:FnI:=fnI Try.f147 Jh
def Nf (_:Int):(List (Int×(Int×Unit)))→aA:=fun r=>⟨(.ref (1,0) []),[],[⟨false,(.sl aJ),.own,r⟩]⟩
theorem adV:∀(p0:Int),bI AY aft ⟨[(.i p0)],[]⟩=(aat p0).run fun r=>some (Nf p0 r):=fun _=>by kernel_rfl
def afs (av:List AV) (rs:List Root):Tre aA:=
 aB av fun a0_ av0=>
 aL av0<|
 aL rs<|
 aC true .n a0_ fun d1=>
 .mat (AX d1) fun r=>.ret (Nf d1 r)
def Tj:Ctr:=dD [] afs
theorem adW:Contract Try.prog .none 147 Tj:=aD (V:=AY) aT (ak Dq apU aI) Try.func147 (bJ (n:=1) fun k hk=>by
 match k,hk with
 |0,_=>exact bM (id:=3) Xc) fun _ _ _=>aH fun _ _=>bn<|bn<|aM fun _=>fun h=>by intros;subst_vars;exact bg (adV _) h
-- shared
def fG{α:Type}(t:Tre α)(Q:α→Prop):Prop:=∃a,t.run some=some a∧Q a
theorem fG.ret{α:Type}{a:α}{Q:α→Prop}(h:Q a):fG (.ret a) Q:=⟨a,rfl,h⟩
theorem fG.cond{α:Type}{b:Bool}{t f:Tre α}{Q:α→Prop}(ht:b=true→fG t Q)(hf:b=false→fG f Q):fG (.cond b t f) Q:=by
 cases b
 ·exact hf rfl
 ·exact ht rfl
theorem fG.afS{α:Type}{p:Prop} [Decidable p] {t f:Tre α} {Q:α→Prop} (ht:p→fG t Q) (hf:¬p→fG f Q):fG (.cond (decide p) t f) Q:=
 fG.cond (fun h=>ht (of_decide_eq_true h)) (fun h=>hf (of_decide_eq_false h))
theorem fG.ite{α:Type}{p:Prop} [h:Decidable p] {t:Tre α} {Q:α→Prop} (hp:p) (ht:p→fG t Q):fG (.ite p t) Q:=by
 obtain ⟨a,h1,h2⟩:=ht hp
 exact ⟨a,by rw [Tre.run_ite,if_pos hp];exact h1,h2⟩
theorem fG.ifn{α:Type}{p:Prop} [h:Decidable p] {t:Tre α} {Q:α→Prop} (hp:¬p) (ht:fG t Q):fG (.ifn p t) Q:=by
 obtain ⟨a,h1,h2⟩:=ht
 exact ⟨a,by rw [Tre.WS,if_neg hp];exact h1,h2⟩
theorem fG.mat{α β:Type}{o:Option β}{k:β→Tre α}{P:β→Prop}{Q:α→Prop}(h:∃x,o=some x∧P x)(hk:∀x,P x→fG (k x) Q):fG (.mat o k) Q:=by
 obtain ⟨x,rfl,hx⟩:=h
 exact hk x hx
theorem fG.get{α β:Type}{o:Option β}{x:β}{k:β→Tre α}{Q:α→Prop}(h:o=some x)(hk:fG (k x) Q):fG (.mat o k) Q:=by
 subst h;exact hk
theorem fG.at{α β:Type}{xs:List β}{i:Int}{k:β→Tre α}{Q:α→Prop}(hi:0≤i∧i<(xs.length:Int))(hk:∀x,x∈xs→fG (k x) Q):fG (.mat xs[i.toNat]? k) Q:=by
 have hl:i.toNat<xs.length:=by omega
 exact .get (List.getElem?_eq_getElem hl) (hk _ (List.getElem_mem hl))
theorem fG.at0{α β:Type}{xs:List β}{k:β→Tre α}{Q:α→Prop}(hi:0<xs.length)(hk:∀x,x∈xs→fG (k x) Q):fG (.mat xs[0]? k) Q:=
 .get (List.getElem?_eq_getElem hi) (hk _ (List.getElem_mem hi))
theorem fG.run{α:Type}{t:Tre α}{Q:α→Prop}(h:fG t Q):∃a,t.run some=some a∧Q a:=h
abbrev Src:=List Int×Int×Int×Unit
def xJ(c:Nat)(s:Src):Prop:=s.1.length≤5000∧(∀x∈s.1,0≤x∧x≤255)∧0≤s.2.1∧s.2.1≤(c:Int)
theorem xJ.mono{c c':Nat}{s:Src}(h:xJ c s)(hc:c≤c'):xJ c' s:=⟨h.1,h.2.1,h.2.2.1,by have:=h.2.2.2;omega⟩
theorem atP(a:Int):0≤LC .u64 a 255∧LC .u64 a 255≤255:=by
 have h:(BitVec.ofInt 64 a&&&BitVec.ofInt 64 255).toNat≤255:=by
  rw [BitVec.toNat_and]
  exact Nat.le_trans Nat.and_le_right (by decide)
 unfold LC
 show 0≤aN .u64 (((BitVec.ofInt 64 a&&&BitVec.ofInt 64 255).toNat:Nat):Int)∧aN .u64 (((BitVec.ofInt 64 a&&&BitVec.ofInt 64 255).toNat:Nat):Int)≤255
 rw [YF (by omega) (by omega)]
 omega
theorem am4{c:Nat}{s:Src}(h:xJ c s)(hc:c≤100000):∃r,jF s=some r∧((0≤r.1∧r.1≤255)∧xJ (c+1) r.2):=by
 obtain ⟨h1,h2,h3,h4⟩:=h
 have hw:aN .i64 (s.2.1+1)=s.2.1+1:=dh (by omega) (by omega)
 have hsrc:∀v:Int,xJ (c+1) (s.1,aN .i64 (s.2.1+1),v,s.2.2.2):=fun v=>⟨h1,h2,by show 0≤aN .i64 (s.2.1+1);omega,by show aN .i64 (s.2.1+1)≤((c+1:Nat):Int);omega⟩
 have hand:∀a:Int,0≤aN .i64 (LC .u64 a 255)∧aN .i64 (LC .u64 a 255)≤255:=fun a=>by
  have:=atP a
  rw [dh (by omega) (by omega)];exact this
 unfold jF wC
 refine fG.run (fG.afS (fun hlt=>fG.ite ⟨h3,hlt⟩ fun hi=>fG.at hi fun x hx=>?_) (fun _=>?_))
 ·have hb:=h2 x hx
  have hx1:aN .i64 x=x:=dh (by omega) (by omega)
  exact fG.afS (fun _=>.ret ⟨by rw [hx1];exact hb,hsrc _⟩) (fun _=>.ret ⟨hand _,hsrc _⟩)
 ·exact fG.afS (fun _=>.ret ⟨⟨Int.le_refl 0,by show (0:Int)≤255;omega⟩,hsrc _⟩) (fun _=>.ret ⟨hand _,hsrc _⟩)
theorem akM{x n:Int}(hx:0≤x)(hn:0<n):0≤Int.tmod x n∧Int.tmod x n<n:=⟨Int.tmod_nonneg n hx,Int.tmod_lt_of_pos x hn⟩
theorem Ri{n:Int}{c:Nat}{s:Src}(h:xJ c s)(hc:c≤90000):∃r,dZ n s=some r∧((0≤r.1∧(r.1=0∨r.1<n))∧xJ (c+2) r.2):=by
 unfold dZ wD
 refine fG.run (fG.afS (fun _=>.ret ⟨⟨Int.le_refl _,.inl rfl⟩,h.mono (by omega)⟩) (fun hn=>fG.mat (am4 h (by omega)) fun x hx=>fG.afS (fun _=>fG.mat (am4 hx.2 (by omega)) fun y hy=>?_) (fun _=>?_)))
 ·refine fG.ifn (by omega) (.ret ⟨?_,hy.2⟩)
  have h1:aN .i64 (x.1*256)=x.1*256:=dh (by omega) (by omega)
  have h2:aN .i64 (aN .i64 (x.1*256)+y.1)=x.1*256+y.1:=by rw [h1];exact dh (by omega) (by omega)
  show 0≤Int.tmod (aN .i64 (aN .i64 (x.1*256)+y.1)) n∧(Int.tmod (aN .i64 (aN .i64 (x.1*256)+y.1)) n=0∨Int.tmod (aN .i64 (aN .i64 (x.1*256)+y.1)) n<n)
  rw [h2]
  have:=akM (x:=x.1*256+y.1) (n:=n) (by omega) (by omega)
  exact ⟨this.1,.inr this.2⟩
 ·refine fG.ifn (by omega) (.ret ⟨?_,hx.2.mono (by omega)⟩)
  have:=akM (x:=x.1) (n:=n) (by omega) (by omega)
  exact ⟨this.1,.inr this.2⟩
def yJ (p0:Int) (p1:bX):Tre (Bool×bX):=
 .mat (dZ p0 p1) fun r1=>
 .ret (decide (r1.1=0),r1.2)
def ni (p0:Int) (p1:bX):Option (Bool×bX):=(yJ p0 p1).run some
def Dn:Env:=⟨tau,[(149,jG)],[]⟩
def RS:FnI:=fnI Try.f162 []
def zw (zp0:Bool) (_:Int) (_:bX):(Bool×bX)→aA:=fun r=>⟨(.imm true .bool r.1),[⟨true,fQ,(.imm zp0),r.2⟩],[]⟩
theorem PY:∀(zp0:Bool)(p0:Int)(p1:bX),bI Dn RS ⟨[(.ptr (0,0) []),(.i p0)],[⟨true,fQ,(.imm zp0),p1⟩]⟩=(yJ p0 p1).run fun r=>some (zw zp0 p0 p1 r):=fun _ _ _=>by kernel_rfl
def RQ (av:List AV) (rs:List Root):Tre aA:=
 aB av fun a0_ av0=>
 aB av0 fun a1_ av1=>
 aL av1<|
 aB rs fun r0_ rs0=>
 aL rs0<|
 dB (0,0) [] a0_<|
 aC true .n a1_ fun d1=>
 gH true fQ r0_ fun m2 d3=>
 jg m2 fun z4=>
 .mat (ni d1 d3) fun r=>.ret (zw z4 d1 d3 r)
def Dp:Ctr:=dD [] RQ
theorem PZ:Contract Try.prog .none 162 Dp:=aD (V:=Dn) aT (ak kZ agS aI) Try.func162 bF fun _ _ _=>aH fun _ _=>aH fun _ _=>bn<|aH fun _ _=>bn<|fT<|aM fun _=>tRt fun _ _=>rZ fun _=>fun h=>by intros;subst_vars;exact bg (PY _ _ _) h
-- shared
theorem avy{n:Int}{c:Nat}{s:Src}(h:xJ c s)(hc:c≤90000):∃r,ni n s=some r∧xJ (c+2) r.2:=by
 unfold ni yJ
 exact fG.run (fG.mat (Ri h hc) fun x hx=>.ret hx.2)
def uG (p0:Int) (p1:bX):Tre ((Int×(Int×Unit))×bX):=
 .mat (dZ p0 p1) fun r1=>
 .mat (AX (aN .i64 (1+r1.1))) fun r2=>
 .mat (dZ (r2.length:Int) r1.2) fun r3=>
 .ite (0≤r3.1∧r3.1<(r2.length:Int))<|
 .mat (r2[r3.1.toNat]?) fun x4=>
 .ret (x4,r3.2)
def lg (p0:Int) (p1:bX):Option ((Int×(Int×Unit))×bX):=(uG p0 p1).run some
-- more
theorem agN{m:Nat}(h1:1≤m)(h2:m≤5){c:Nat}{s:Src}(h:xJ c s)(hc:c≤80000):∃r,lg (m:Int) s=some r∧((aO r.1=true∧1≤r.1.1∧r.1.1≤(m:Int))∧xJ (c+4) r.2):=by
 unfold lg uG
 refine fG.run (fG.mat (Ri h (by omega)) fun a ha=>?_)
 obtain ⟨d,hd⟩:∃d:Nat,a.1=(d:Int):=⟨a.1.toNat,by omega⟩
 have hw:aN .i64 (1+a.1)=((d+1:Nat):Int):=by rw [dh (by omega) (by omega)];omega
 have hf:=alB (d:=d+1) (by omega) (by omega)
 rw [hw]
 refine fG.get (an9 (by omega) (by omega)) (fG.mat (Ri ha.2 (by omega)) fun b hb=>fG.ite ⟨hb.1.1,by omega⟩ fun hi=>fG.at hi fun x hx=>.ret ?_)
 have:=hf.2.2 x hx
 exact ⟨⟨this.1,by show 1≤x.1;omega,by show x.1≤_;omega⟩,hb.2⟩
def zy:Env:=⟨tau,[(149,jG),(147,Tj)],[]⟩
def NY:FnI:=fnI Try.f161 []
def xC (zp0:Bool) (_:Int) (_:bX):((Int×(Int×Unit))×bX)→aA:=fun r=>⟨(.imm true aJ r.1),[⟨true,fQ,(.imm zp0),r.2⟩],[]⟩
theorem Mj:∀(zp0:Bool)(p0:Int)(p1:bX),bI zy NY ⟨[(.ptr (0,0) []),(.i p0)],[⟨true,fQ,(.imm zp0),p1⟩]⟩=(uG p0 p1).run fun r=>some (xC zp0 p0 p1 r):=fun _ _ _=>by kernel_rfl
def NW (av:List AV) (rs:List Root):Tre aA:=
 aB av fun a0_ av0=>
 aB av0 fun a1_ av1=>
 aL av1<|
 aB rs fun r0_ rs0=>
 aL rs0<|
 dB (0,0) [] a0_<|
 aC true .n a1_ fun d1=>
 gH true fQ r0_ fun m2 d3=>
 jg m2 fun z4=>
 .mat (lg d1 d3) fun r=>.ret (xC z4 d1 d3 r)
def zA:Ctr:=dD [] NW
theorem Mk:Contract Try.prog .none 161 zA:=aD (V:=zy) aT (ak kZ agS (ak adW aun aI)) Try.func161 bF fun _ _ _=>aH fun _ _=>aH fun _ _=>bn<|aH fun _ _=>bn<|fT<|aM fun _=>tRt fun _ _=>rZ fun _=>fun h=>by intros;subst_vars;exact bg (Mj _ _ _) h
def Rn (p0:(Int×(Int×Unit))):Tre Int:=
 .ite (0≤aN .u64 p0.1)<|
 let v1:=Gs .i64 1 (aN .u64 p0.1)
 .ret v1
def gy (p0:(Int×(Int×Unit))):Option Int:=(Rn p0).run some
def aaw:Env:=⟨tau,[],[]⟩
def aks:FnI:=fnI Try.f157 []
def Tm (_:(Int×(Int×Unit))):Int→aA:=fun r=>⟨(.i r),[],[]⟩
theorem ah0:∀(p0:(Int×(Int×Unit))),bI aaw aks ⟨[(.imm true aJ p0)],[]⟩=(Rn p0).run fun r=>some (Tm p0 r):=fun _=>by kernel_rfl
def akr (av:List AV) (rs:List Root):Tre aA:=
 aB av fun a0_ av0=>
 aL av0<|
 aL rs<|
 aC true aJ a0_ fun d1=>
 .mat (gy d1) fun r=>.ret (Tm d1 r)
def rP:Ctr:=dD [] akr
theorem tu:Contract Try.prog .none 157 rP:=aD (V:=aaw) aT aI Try.func157 bF fun _ _ _=>aH fun _ _=>bn<|bn<|aM fun _=>fun h=>by intros;subst_vars;exact bg (ah0 _) h
-- shared
def awH(p a:Nat):Nat→Nat
 |0=>1
 |n+1=>mulN p (awH p a n) a
def ql(d p a:Nat):Nat:=awH p a (2 ^ d-2)
def yC(f:TF3)(a:Int):Int:=((ql f.1.toNat f.2.1.toNat a.toNat:Nat):Int)
def xL(F:TF3→Int→Option Int)(G:Nat→Nat→Nat→Nat)(d p:Nat):Bool:=(List.range (2 ^ d)).all fun a=>F ((d:Int),(p:Int),()) (a:Int) == some ((G d p a:Nat):Int)
theorem aqJ{F:TF3→Int→Option Int}{G:Nat→Nat→Nat→Nat}(h:∀q∈iT,xL F G q.1 q.2=true){f:TF3}(hf:aO f=true){a:Int}(ha:inF f a):F f a=some ((G f.1.toNat f.2.1.toNat a.toNat:Nat):Int):=by
 obtain ⟨d,p,hq,rfl⟩:=zK hf
 obtain ⟨ha0,ha1⟩:=ha
 simp only [Int.toNat_natCast] at ha1
 obtain ⟨m,rfl⟩:=Int.eq_ofNat_of_zero_le ha0
 have h1:=List.all_eq_true.1 (h _ hq) m (List.mem_range.2 (by exact_mod_cast ha1))
 exact eq_of_beq h1
def aqk(d p:Nat):Bool:=(List.range (2 ^ d)).all fun a=>(List.range (2 ^ d)).all fun b=>Nat.blt (mulN p a b) (2 ^ d)&&Nat.beq (mulN p a b) (mulN p b a)
def aqf(d p:Nat):Bool:=(List.range (2 ^ d)).all fun a=>Nat.blt (ql d p a) (2 ^ d)&&(Nat.beq a 0||Nat.beq (mulN p a (ql d p a)) 1)
theorem Wu:(iT.all fun q=>aqk q.1 q.2)=true:=by kernel_rfl
theorem Wh:(iT.all fun q=>aqf q.1 q.2)=true:=by kernel_rfl
theorem zW{f:TF3}(hf:aO f=true){a b:Int}(ha:inF f a)(hb:inF f b):inF f (fZ f a b)∧fZ f a b=fZ f b a:=by
 obtain ⟨d,p,hq,rfl⟩:=zK hf
 obtain ⟨ha0,ha1⟩:=ha
 obtain ⟨hb0,hb1⟩:=hb
 simp only [Int.toNat_natCast] at ha1 hb1
 obtain ⟨m,rfl⟩:=Int.eq_ofNat_of_zero_le ha0
 obtain ⟨n,rfl⟩:=Int.eq_ofNat_of_zero_le hb0
 have h0:=List.all_eq_true.1 Wu _ hq
 have h1:=List.all_eq_true.1 (List.all_eq_true.1 h0 m (List.mem_range.2 (by exact_mod_cast ha1))) n (List.mem_range.2 (by exact_mod_cast hb1))
 rw [Bool.and_eq_true] at h1
 have h2:mulN p m n<2 ^ d:=Nat.le_of_ble_eq_true h1.1
 have h3:mulN p m n=mulN p n m:=Nat.eq_of_beq_eq_true h1.2
 refine ⟨⟨Int.natCast_nonneg _,?_⟩,?_⟩
 ·show ((mulN p m n:Nat):Int)<_
  simp only [Int.toNat_natCast]
  exact_mod_cast h2
 ·show ((mulN p m n:Nat):Int)=((mulN p n m:Nat):Int)
  rw [h3]
theorem zT{f:TF3}(hf:aO f=true){a:Int}(ha:inF f a):inF f (yC f a)∧(a≠0→fZ f a (yC f a)=1):=by
 obtain ⟨d,p,hq,rfl⟩:=zK hf
 obtain ⟨ha0,ha1⟩:=ha
 simp only [Int.toNat_natCast] at ha1
 obtain ⟨m,rfl⟩:=Int.eq_ofNat_of_zero_le ha0
 have h0:=List.all_eq_true.1 Wh _ hq
 have h1:=List.all_eq_true.1 h0 m (List.mem_range.2 (by exact_mod_cast ha1))
 rw [Bool.and_eq_true,Bool.or_eq_true] at h1
 have h2:ql d p m<2 ^ d:=Nat.le_of_ble_eq_true h1.1
 refine ⟨⟨Int.natCast_nonneg _,?_⟩,fun hne=>?_⟩
 ·show ((ql d p m:Nat):Int)<_
  simp only [Int.toNat_natCast]
  exact_mod_cast h2
 ·rcases h1.2 with h|h
  ·exact absurd (by rw [Nat.eq_of_beq_eq_true h];rfl) hne
  ·show ((mulN p m (ql d p m):Nat):Int)=1
   rw [Nat.eq_of_beq_eq_true h];rfl
-- shared
def lJ(f:TF3)(u w:List Int)(x:Int):List Int:=(u.zip w).map fun p=>jD .i64 p.1 (fZ f p.2 x)
theorem QN{α β γ:Type}(g:α→γ)(fin:List γ→β):∀(l:List α)(i:Nat)(acc:List γ),Bh (fun _ acc x=>(.inl (acc++[g x]):List γ ⊕ β)) fin i acc l=fin (acc++l.map g):=by
 intro l
 induction l with
 |nil=>intro i acc;simp only [Bh,List.map_nil,List.append_nil]
 |cons y l ih=>intro i acc;simp only [Bh];rw [ih];simp
-- shared
theorem VD{f:TF3}(hf:aO f=true):1≤f.1.toNat∧f.1.toNat≤5:=by
 obtain ⟨d,p,hq,rfl⟩:=zK hf
 have:∀q∈iT,1≤q.1∧q.1≤5:=by decide
 exact this _ hq
theorem AO{f:TF3}(hf:aO f=true){a:Int}(h:inF f a):∃n:Nat,a=(n:Int)∧n<2 ^ f.1.toNat∧n<2 ^ 63:=by
 obtain ⟨h0,h1⟩:=h
 have hd:=(VD hf).2
 have hp:2 ^ f.1.toNat≤2 ^ 5:=Nat.pow_le_pow_right (by omega) hd
 refine ⟨a.toNat,by omega,by omega,by omega⟩
theorem lV{f:TF3}:inF f 0:=⟨Int.le_refl 0,by exact_mod_cast Nat.two_pow_pos _⟩
theorem aha{f:TF3}(hf:aO f=true):inF f 1:=by
 have:2 ^ 1≤2 ^ f.1.toNat:=Nat.pow_le_pow_right (by omega) (VD hf).1
 exact ⟨by omega,by omega⟩
theorem QV{f:TF3}(hf:aO f=true){a b:Int}(ha:inF f a)(hb:inF f b):inF f (jD .i64 a b):=by
 obtain ⟨m,rfl,hm,hm2⟩:=AO hf ha
 obtain ⟨n,rfl,hn,hn2⟩:=AO hf hb
 rw [lW hm2 hn2]
 exact ⟨Int.natCast_nonneg _,by exact_mod_cast Nat.xor_lt_two_pow hm hn⟩
theorem Aj{f:TF3}(hf:aO f=true){a:Int}(ha:inF f a):jD .i64 0 a=a:=by
 obtain ⟨m,rfl,hm,hm2⟩:=AO hf ha
 have:=lW (a:=0) (b:=m) (by omega) hm2
 rw [show ((0:Nat):Int)=0 from rfl] at this
 rw [this,Nat.zero_xor]
def GR(f:TF3)(n:Nat)(L:List (List Int)):Prop:=∀r∈L,r.length=n∧∀y∈r,inF f y
def uF(c:Nat)(r:List Int):Bool:=match r[c]? with
 |some x=>!decide (x=0)
 |none=>false
def kD(f:TF3)(c k:Nat)(own:List Int)(i:Nat)(r:List Int):List Int:=match r[c]? with
 |some x=>bif decide (i=k)||decide (x=0) then r else (r.zip own).map fun p=>jD .i64 p.1 (fZ f x p.2)
 |none=>r
def Jt(f:TF3)(c:Nat)(row:List Int):List Int:=match row[c]? with
 |some x=>row.map fun y=>fZ f y (yC f x)
 |none=>row
def Kg(f:TF3)(c k a:Nat)(L:List (List Int)):List (List Int):=match L[k]?,L[a]? with
 |some row,some r0=>(L.set k r0).set a (Jt f c row)
 |_,_=>L
def xO(f:TF3)(c a:Nat)(L:List (List Int)):List (List Int):=match L[a]? with
 |some own=>L.mapIdx (kD f c a own)
 |none=>L
def iE(f:TF3)(c:Nat)(s:Nat×List (List Int)):Nat×List (List Int):=
 bif decide (lF (uF c) s.1 (s.2.drop s.1)<0) then s else (s.1+1,xO f c s.1 (Kg f c (lF (uF c) s.1 (s.2.drop s.1)).toNat s.1 s.2))
def jM(f:TF3):Nat→Nat→Nat×List (List Int)→Nat×List (List Int)
 |_,0,s=>s
 |c,m+1,s=>jM f (c+1) m (iE f c s)
def TR(f:TF3)(n:Nat)(L:List (List Int)):List (List Int):=(jM f 0 n (0,L)).2.take (jM f 0 n (0,L)).1
theorem ahC{c:Nat}{r:List Int}(h:uF c r=true):∃x,r[c]?=some x∧x≠0:=by
 unfold uF at h
 split at h
 ·exact ⟨_,by assumption,by simpa using h⟩
 ·cases h
theorem Bb{f:TF3}{n:Nat}{L:List (List Int)}(h:GR f n L){i:Nat}{r:List Int}(hi:L[i]?=some r):r.length=n∧∀y∈r,inF f y:=h r (List.mem_of_getElem? hi)
theorem apc{f:TF3}{n:Nat}{L:List (List Int)}(h:GR f n L){i:Nat}{r:List Int}(hr:r.length=n∧∀y∈r,inF f y):GR f n (L.set i r):=by
 intro x hx
 rcases List.mem_or_eq_of_mem_set hx with hx|rfl
 ·exact h x hx
 ·exact hr
theorem aoV{f:TF3}(hf:aO f=true){n c:Nat}{r:List Int}(h:r.length=n∧∀y∈r,inF f y):(Jt f c r).length=n∧∀y∈Jt f c r,inF f y:=by
 unfold Jt
 split
 ·rename_i x hx
  refine ⟨by simpa using h.1,fun y hy=>?_⟩
  obtain ⟨z,hz,rfl⟩:=List.mem_map.1 hy
  exact (zW hf (h.2 z hz) (zT hf (h.2 x (List.mem_of_getElem? hx))).1).1
 ·exact h
theorem anQ{f:TF3}(hf:aO f=true){n c k i:Nat}{own r:List Int}(ho:own.length=n∧∀y∈own,inF f y)(h:r.length=n∧∀y∈r,inF f y):(kD f c k own i r).length=n∧∀y∈kD f c k own i r,inF f y:=by
 unfold kD
 split
 ·rename_i x hx
  cases decide (i=k)||decide (x=0)
  ·rw [cond_false]
   refine ⟨by simp [h.1,ho.1],fun y hy=>?_⟩
   obtain ⟨p,hp,rfl⟩:=List.mem_map.1 hy
   have h1:=List.of_mem_zip (a:=p.1) (b:=p.2) hp
   exact QV hf (h.2 _ h1.1) (zW hf (h.2 x (List.mem_of_getElem? hx)) (ho.2 _ h1.2)).1
  ·exact h
 ·exact h
theorem abH{f:TF3}(hf:aO f=true){n c k a:Nat}{L:List (List Int)}(h:GR f n L):GR f n (Kg f c k a L)∧(Kg f c k a L).length=L.length:=by
 unfold Kg
 split
 ·rename_i row r0 h1 h2
  exact ⟨apc (apc h (Bb h h2)) (aoV hf (Bb h h1)),by simp⟩
 ·exact ⟨h,rfl⟩
theorem afR{f:TF3}(hf:aO f=true){n c a:Nat}{L:List (List Int)}(h:GR f n L):GR f n (xO f c a L)∧(xO f c a L).length=L.length:=by
 unfold xO
 split
 ·rename_i own h1
  refine ⟨fun r hr=>?_,by simp⟩
  obtain ⟨i,hi,rfl⟩:=List.mem_mapIdx.1 hr
  exact anQ hf (Bb h h1) (h _ (List.getElem_mem hi))
 ·exact ⟨h,rfl⟩
theorem KW{f:TF3}(hf:aO f=true){n c:Nat}{s:Nat×List (List Int)}(h:GR f n s.2)(ha:s.1≤s.2.length):GR f n (iE f c s).2∧(iE f c s).2.length=s.2.length∧(iE f c s).1≤s.2.length:=by
 unfold iE
 rcases wu (uF c) (s.2.drop s.1) s.1 with ⟨h1,_⟩|⟨k,x,h1,_,h3⟩
 ·rw [h1];exact ⟨h,rfl,ha⟩
 ·rw [h3,decide_eq_false (by omega),cond_false]
  have hlt:=(List.getElem?_eq_some_iff.1 h1).1
  rw [List.length_drop] at hlt
  have hp:=abH (c:=c) (k:=((s.1+k:Nat):Int).toNat) (a:=s.1) hf h
  have hc:=afR (c:=c) (a:=s.1) hf hp.1
  exact ⟨hc.1,by rw [hc.2,hp.2],by show s.1+1≤_;omega⟩
theorem Eb{f:TF3}(hf:aO f=true){n:Nat}:∀(m c:Nat)(s:Nat×List (List Int)),GR f n s.2→s.1≤s.2.length→GR f n (jM f c m s).2∧(jM f c m s).2.length=s.2.length∧(jM f c m s).1≤s.2.length:=by
 intro m
 induction m with
 |zero=>intro c s h ha;exact ⟨h,rfl,ha⟩
 |succ m ih=>
  intro c s h ha
  have h1:=KW (c:=c) hf h ha
  have h2:=ih (c+1) _ h1.1 (by rw [h1.2.1];exact h1.2.2)
  rw [h1.2.1] at h2
  exact h2
theorem arC{f:TF3}(hf:aO f=true){n m:Nat}{L:List (List Int)}(h:GR f n L):GR f n (TR f m L):=fun r hr=>(Eb hf m 0 (0,L) h (Nat.zero_le _)).1 r (List.mem_of_mem_take hr)
theorem aiW{f:TF3}(hf:aO f=true){n m:Nat}{L:List (List Int)}(h:GR f n L):(TR f m L).length=(jM f 0 m (0,L)).1:=by
 have:=Eb hf m 0 (0,L) h (Nat.zero_le _)
 unfold TR
 rw [List.length_take,this.2.1]
 exact Nat.min_eq_left this.2.2
theorem ajf{α:Type}(p:α→Bool):∀(l:List α)(i j:Nat),lF p (i+j) l=if lF p j l<0 then -1 else (i:Int)+lF p j l:=by
 intro l
 induction l with
 |nil=>intro i j;rfl
 |cons x l ih=>
  intro i j
  rcases Bool.eq_false_or_eq_true (p x) with hp|hp
  ·have e1:lF p (i+j) (x::l)=((i+j:Nat):Int):=by simp only [lF,hp,cond_true]
   have e2:lF p j (x::l)=(j:Int):=by simp only [lF,hp,cond_true]
   rw [e1,e2,if_neg (by omega)]
   omega
  ·have e1:lF p (i+j) (x::l)=lF p (i+(j+1)) l:=by simp only [lF,hp,cond_false];rfl
   have e2:lF p j (x::l)=lF p (j+1) l:=by simp only [lF,hp,cond_false]
   rw [e1,e2]
   exact ih i (j+1)
theorem acg{α β γ:Type}(g:Nat→α→γ)(fin:List γ→β):∀(l:List α)(i:Nat)(acc:List γ),acc.length=i+l.length→Bh (fun i acc x=>(.inl (acc.set i (g i x)):List γ ⊕ β)) fin i acc l=fin (acc.take i++l.mapIdx fun j x=>g (i+j) x):=by
 intro l
 induction l with
 |nil=>intro i acc h;simp only [Bh,List.mapIdx_nil,List.append_nil];rw [List.take_of_length_le (by simp at h;omega)]
 |cons x l ih=>
  intro i acc h
  simp only [List.length_cons] at h
  simp only [Bh]
  rw [ih (i+1) _ (by simp;omega),List.take_add_one,List.mapIdx_cons]
  simp [show i<acc.length by omega,List.take_set_of_le (Nat.le_refl i),Nat.add_assoc,Nat.add_comm 1]
-- shared
abbrev TN6:=TF3×Int×Int×List (List Int)×List (List Int)×Unit
def e0(e:List Int):Int:=e.getD 0 0
def e1(e:List Int):Int:=e.getD 1 0
def edgeOk(N:Int)(es:List (List Int))(i:Nat)(e:List Int):Bool:=
 decide (e.length=2)&&((inR (e0 e) 0 (N-1)&&(inR (e1 e) 0 (N-1)&&decide (e0 e<e1 e)))&&(decide (i=0)||decide (e0 (es.getD (i-1) [])≤e0 e)))
theorem alm{N:Int}{es:List (List Int)}{i:Nat}{e:List Int}(h:edgeOk N es i e=true):e.length=2:=by
 unfold edgeOk at h
 rw [Bool.and_eq_true] at h
 exact of_decide_eq_true h.1
def awg(es:List (List Int))(node:Int):List Int:=aqM (fun i e=>if e1 e=node then some (i:Int) else none) 0 es
def awL(n:TN6)(node:Int):Int:=if node=0 then n.2.2.1 else ((awg n.2.2.2.1 node).length:Int)
def D5(f:TF3):Int:=2 ^ f.1.toNat-1
theorem aii{f:TF3}(h:aO f=true):aN .i64 (Gs .i64 1 (aN .u64 f.1)-1)=D5 f:=by
 obtain ⟨h1,h2⟩:=dW h
 obtain ⟨n,hn⟩:=Int.eq_ofNat_of_zero_le (show 0≤f.1 by omega)
 unfold D5
 rw [hn]
 have:∀n:Nat,n<6→aN .i64 (Gs .i64 1 (aN .u64 (n:Int))-1)=2 ^ (n:Int).toNat-1:=by decide
 exact this n (by omega)
theorem aq9{f:TF3}(h:aO f=true):aN .i64 (Gs .i64 1 f.1-1)=D5 f:=by
 obtain ⟨h1,h2⟩:=dW h
 have:=aii h
 rw [YF (by omega) (by omega)] at this
 exact this
theorem aij{f:TF3}(h:aO f=true):1≤D5 f∧D5 f≤31:=by
 obtain ⟨h1,h2⟩:=dW h
 obtain ⟨n,hn⟩:=Int.eq_ofNat_of_zero_le (show 0≤f.1 by omega)
 unfold D5
 rw [hn]
 have:∀n:Nat,n<6→1≤n→(1:Int)≤2 ^ (n:Int).toNat-1∧(2:Int) ^ (n:Int).toNat-1≤31:=by decide
 exact this n (by omega) (by omega)
def Ow(f:TF3)(c:List Int):Bool:=c.all fun x=>inR x 0 (D5 f)
def atS(n:TN6)(i:Nat)(c:List Int):Bool:=decide ((c.length:Int)=awL n (e0 (n.2.2.2.1.getD i [])))&&Ow n.1 c
structure avU(n:TN6):Prop where
 field:aO n.1=true
 nodes:2≤n.2.1∧n.2.1≤8
 mess:1≤n.2.2.1∧n.2.2.1≤3
 len:n.2.2.2.1.length≤14
 clen:n.2.2.2.2.1.length=n.2.2.2.1.length
 edges:∀i e,n.2.2.2.1[i]?=some e→edgeOk n.2.1 n.2.2.2.1 i e=true
 coefs:∀i c,n.2.2.2.2.1[i]?=some c→atS n i c=true
theorem avU.two{n:TN6}(h:avU n){i:Nat}{e:List Int}(he:n.2.2.2.1[i]?=some e):∃a b,e=[a,b]∧0≤a∧a<b∧b≤n.2.1-1:=by
 have:=h.edges i e he
 obtain ⟨a,b,rfl⟩:=len2 (alm this)
 simp only [edgeOk,Bool.and_eq_true,sM,decide_eq_true_eq,e0,e1,List.getD_cons_zero,List.getD_cons_succ] at this
 exact ⟨a,b,rfl,by omega,by omega,by omega⟩
theorem nZ{α:Type}{l:List α}{i:Nat}{x d:α}(h:l[i]?=some x):l.getD i d=x:=by
 rw [List.getD_eq_getElem?_getD,h];rfl
def dQ (aQ:Int) (j4:(Int×(Int×Unit))):(Int×bX×(List Int))→Tre ((Int×bX×(List Int)) ⊕ (bX×(List Int))):=fun s3=>
 .cond (decide (s3.1<aQ))
  (.mat (gy j4) fun r1=>
  .mat (dZ r1 s3.2.1) fun r2=>
  .ite ((s3.2.2.length+1)*8≤bS∧1≤8)<|
  .ret (.inl (aN .i64 (s3.1+1),r2.2,s3.2.2++([r2.1]))))
  (.ret (.inr (s3.2.1,s3.2.2)))
def oQ (p0:(Int×(Int×Unit))) (p1:Int) (p2:bX):Tre (bX×(List Int)):=
 .mat (aP (dQ p1 p0) (0,p2,[])) fun l3=>
 .cond (decide (p1>1))
  (.mat (ni 3 l3.1) fun r4=>
  .cond r4.1
   (.ite (0≤(0:Int)∧(0:Int)<(l3.2.length:Int))<|
   .mat (l3.2[0]?) fun x5=>
   .ite (0≤aN .i64 (p1-1)∧aN .i64 (p1-1)<(l3.2.length:Int))<|
   .mat (l3.2[(aN .i64 (p1-1)).toNat]?) fun _=>
   let v7:=l3.2.set ((aN .i64 (p1-1)).toNat) x5
   .ret (r4.2,v7))
   (.ret (r4.2,l3.2)))
  (.ret (l3.1,l3.2))
def fM (p0:(Int×(Int×Unit))) (p1:Int) (p2:bX):Option (bX×(List Int)):=(oQ p0 p1 p2).run some
-- more
theorem anD{f:TF3}(hf:aO f=true):gy f=some (D5 f+1):=by
 have h1:=dW hf
 have h2:=aii hf
 have h3:=aij hf
 have h4:gy f=some (Gs .i64 1 (aN .u64 f.1)):=by
  unfold gy Rn
  rw [Tre.run_ite,if_pos (Ka _)]
  rfl
 have h5:-9223372036854775808≤Gs .i64 1 (aN .u64 f.1)-1∧Gs .i64 1 (aN .u64 f.1)-1≤9223372036854775807:=by
  obtain ⟨n,hn⟩:=Int.eq_ofNat_of_zero_le (show 0≤f.1 by omega)
  rw [hn]
  have:∀n:Nat,n<6→-9223372036854775808≤Gs .i64 1 (aN .u64 (n:Int))-1∧Gs .i64 1 (aN .u64 (n:Int))-1≤9223372036854775807:=by decide
  exact this n (by omega)
 rw [dh h5.1 h5.2] at h2
 rw [h4]
 congr 1
 omega
theorem ar6{f:TF3}{x:Int}(h0:0≤x)(h:x≤D5 f):inF f x:=by
 unfold D5 at h
 refine ⟨h0,?_⟩
 push_cast
 omega
theorem Sr{f:TF3}(hf:aO f=true){M:Nat}(hM:M≤1000):∀(m i:Nat){c:Nat}{s:Src}{l:List Int},i+m=M→xJ c s→c+2*m≤80000→l.length=i→(∀x∈l,inF f x) →
  ∃r,aP (dQ (M:Int) f) ((i:Int),s,l)=some r∧(xJ (c+2*m) r.1∧r.2.length=M∧∀x∈r.2,inF f x):=by
 intro m
 have ht:=aij hf
 induction m with
 |zero=>
  intro i c s l hi hs _ hl ha
  have hi:i=M:=hi
  refine ⟨(s,l),fC ?_,hs,by show l.length=M;omega,ha⟩
  subst hi
  unfold dQ
  rw [Tre.aF,decide_eq_false (by omega),cond_false,Tre.aK]
 |succ m ih=>
  intro i c s l hi hs hc hl ha
  obtain ⟨r,hr,⟨hr0,hr1⟩,hr2⟩:=Ri (n:=D5 f+1) hs (by omega)
  have hstep:(dQ (M:Int) f ((i:Int),s,l)).run some=some (.inl (((i+1:Nat):Int),r.2,l++[r.1])):=by
   unfold dQ
   rw [Tre.aF,decide_eq_true (by show (i:Int)<(M:Int);omega),cond_true,ah (anD hf)]
   dsimp only
   rw [ah hr,Tre.run_ite,if_pos (by unfold bS;omega),Tre.aK,aV (by omega)]
  rw [iJ hstep]
  obtain ⟨q,hq1,hq2,hq3⟩:=ih (i+1) (l:=l++[r.1]) (by omega) hr2 (by omega) (by simp;omega) (fun x hx=>by
   rcases List.mem_append.1 hx with hx|hx
   ·exact ha x hx
   ·simp only [List.mem_singleton] at hx;subst hx;exact ar6 hr0 (by omega))
  exact ⟨q,hq1,hq2.mono (by omega),hq3⟩
theorem ZH{f:TF3}(hf:aO f=true){M:Nat}(h1:1≤M)(hM:M≤1000){c:Nat}{s:Src}(hs:xJ c s)(hc:c+2*M≤70000):∃r,fM f (M:Int) s=some r∧(xJ (c+2*M+2) r.1∧r.2.length=M∧∀x∈r.2,inF f x):=by
 obtain ⟨r,hr,h2,h3,h4⟩:=Sr hf hM M 0 (l:=[]) (by omega) hs (by omega) rfl (fun x hx=>by cases hx)
 unfold fM oQ
 have hr:aP (dQ (M:Int) f) (0,s,[])=some r:=hr
 refine fG.run (fG.get hr (fG.afS (fun hgt=>fG.mat (avy h2 (by omega)) fun b hb=>fG.cond (fun _=>fG.ite ⟨Int.le_refl _,by omega⟩ fun _=>fG.at0 (by omega) fun x hx=>?_) (fun _=>.ret ⟨hb,h3,h4⟩)) (fun _=>.ret ⟨h2.mono (by omega),h3,h4⟩)))
 have hw:aN .i64 ((M:Int)-1)=(M:Int)-1:=dh (by omega) (by omega)
 rw [hw]
 refine fG.ite (by omega) fun hi=>fG.at hi fun y hy=>.ret ⟨hb,by simp [h3],fun z hz=>?_⟩
 rcases List.mem_or_eq_of_mem_set hz with hz|rfl
 ·exact h4 z hz
 ·exact h4 _ hx
def mh:Env:=⟨tau,[(157,rP),(149,jG),(162,Dp)],[]⟩
def Ch:Code:=(Try.f102.body).getD .skip
def vC (eF:Bool) (aQ:Int) (j4:(Int×(Int×Unit))):(Int×bX×(List Int))→St:=fun x=>bR [(0,(.ptr (0,0) [])),(2,(.i aQ)),(4,(.ptr (6,0) [])),(7,(.ref (9,0) [])),(8,(.i x.1))] [((0,0),some ⟨true,fQ,(.imm eF),x.2.1⟩),((6,0),some ⟨true,aJ,.own,j4⟩),((9,0),some ⟨false,.il,.own,x.2.2⟩)]
def uo (eF:Bool) (aQ:Int) (_:(Int×(Int×Unit))):(bX×(List Int))→Ex×St:=fun x=>(.exit 0,bR [(0,(.ptr (0,0) [])),(2,(.i aQ)),(7,(.ref (9,0) []))] [((0,0),some ⟨true,fQ,(.imm eF),x.1⟩),((9,0),some ⟨false,.il,.own,x.2⟩)])
def Kv (s:St):Tre (Ex×St):=
 dB (0,0) [] (s.tmps 0)<|
 aC true .n (s.tmps 2) fun d3=>
 dB (6,0) [] (s.tmps 4)<|
 fA (9,0) [] (s.tmps 7)<|
 aC true .n (s.tmps 8) fun d7=>
 aW true fQ (s.roots (0,0)) fun m9 d10=>
 jg m9 fun z11=>
 aW true aJ (s.roots (6,0)) fun m13 d14=>
 asM .own m13<|
 aW false .il (s.roots (9,0)) fun m16 d17=>
 asM .own m16<|
 .mat (aP (dQ d3 d14) (d7,d10,d17)) fun x=>.ret (uo z11 d3 d14 x)
def jW:bB:=⟨([0,2,4,7,8],[(0,0),(6,0),(9,0)]),([0,2,7],[(0,0),(9,0)]),Kv⟩
def rU:List (Nat×bB):=[(3,jW)]
theorem Fq:∀(eF:Bool)(aQ:Int)(j4:(Int×(Int×Unit)))(x:(Int×bX×(List Int)))(c:St→Option (Ex×St)),den mh rU (aU Ch 0) (vC eF aQ j4 x) (bY jW.kp jW.kx c)=(dQ aQ j4 x).run (bZ (vC eF aQ j4) (uo eF aQ j4) c):=fun _ _ _ _ _=>by
 kernel_rfl
theorem Jl:bP mh rU (aU Ch 0) jW:=dw fun _ _ _=>fT<|aM fun _=>fT<|kW<|aM fun _=>bN fun _ _=>rZ fun _=>bN fun _ _=>tM<|bN fun _ _=>tM<|fun h _ e15 _ e12 _ e8 e6 e5 e4 e2 e1=>bT (Fq _ _ _) h (by subst_vars;exact aR rfl rfl ⟨e1,e2,e4,e5,e6,trivial⟩ ⟨e8,e12,e15,trivial⟩)
def Qs:FnI:=fnI Try.f102 rU
def yP (zp0:Bool) (_:(Int×(Int×Unit))) (_:Int) (_:bX):(bX×(List Int))→aA:=fun r=>⟨(.ref (1,0) []),[⟨true,fQ,(.imm zp0),r.1⟩],[⟨false,.il,.own,r.2⟩]⟩
theorem NZ:∀(zp0:Bool)(p0:(Int×(Int×Unit)))(p1:Int)(p2:bX),bI mh Qs ⟨[(.ptr (0,0) []),(.imm true aJ p0),(.i p1)],[⟨true,fQ,(.imm zp0),p2⟩]⟩=(oQ p0 p1 p2).run fun r=>some (yP zp0 p0 p1 p2 r):=fun _ _ _ _=>by kernel_rfl
def Qr (av:List AV) (rs:List Root):Tre aA:=
 aB av fun a0_ av0=>
 aB av0 fun a1_ av1=>
 aB av1 fun a2_ av2=>
 aL av2<|
 aB rs fun r0_ rs0=>
 aL rs0<|
 dB (0,0) [] a0_<|
 aC true aJ a1_ fun d1=>
 aC true .n a2_ fun d2=>
 gH true fQ r0_ fun m3 d4=>
 jg m3 fun z5=>
 .mat (fM d1 d2 d4) fun r=>.ret (yP z5 d1 d2 d4 r)
def rV:Ctr:=dD [] Qr
theorem zB:Contract Try.prog .none 102 rV:=aD (V:=mh) aT (ak tu Yd (ak kZ agS (ak PZ auq aI))) Try.func102 (bJ (n:=1) fun k hk=>by
 match k,hk with
 |0,_=>exact bM (id:=3) Jl) fun _ _ _=>aH fun _ _=>aH fun _ _=>aH fun _ _=>bn<|aH fun _ _=>bn<|fT<|aM fun _=>aM fun _=>tRt fun _ _=>rZ fun _=>fun h=>by intros;subst_vars;exact bg (NZ _ _ _ _) h
def Y8 (p0:List Int):Tre (List Int):=
 .ite ((0+p0.length)*8≤bS∧1≤8)<|
 .ret ([]++p0)
def Ih (p0:List Int):Option (List Int):=(Y8 p0).run some
-- more
theorem asv{p0:List Int}(h:p0.length≤1048576):Ih p0=some p0:=by
 unfold Ih Y8
 rw [Tre.run_ite,if_pos (by unfold bS;omega)]
 rfl
def aan:Env:=⟨tau,[],[(1000000,[((4,0),[],false)])]⟩
def aki:FnI:=fnI Try.f188 []
def Te (_:Bool) (_:List Int):(List Int)→aA:=fun r=>⟨(.imm true .il r),[],[]⟩
theorem ahT:∀(zp0:Bool)(p0:List Int),bI aan aki ⟨[(.imm zp0 .il p0)],[]⟩=(Y8 p0).run fun r=>some (Te zp0 p0 r):=fun _ _=>by kernel_rfl
def akh (av:List AV) (rs:List Root):Tre aA:=
 aB av fun a0_ av0=>
 aL av0<|
 aL rs<|
 bE .il a0_ fun z2 d1=>
 .mat (Ih d1) fun r=>.ret (Te z2 d1 r)
def aao:Ctr:=dD [] akh
theorem ahU:Contract Try.prog .none 188 aao:=aD (V:=aan) aT aI Try.func188 bF fun _ _ _=>aH fun _ _=>bn<|bn<|dI fun _ _=>fun h=>by intros;subst_vars;exact bg (ahT _ _) h
def P9 (aQ:Int) (bL:Int) (dR:(Int×(Int×Unit))):(Int×Int)→Tre ((Int×Int) ⊕ Int):=fun s3=>
 .cond (decide (s3.2<dR.1))
  (.ite (0≤aN .u64 s3.2)<|
  let v1:=Pe .i64 bL (aN .u64 s3.2)
  .cond (decide (LC .i64 v1 1=1))
   (.ite (0≤aN .u64 s3.2)<|
   let v2:=Gs .i64 aQ (aN .u64 s3.2)
   .ret (.inl (jD .i64 s3.1 v2,aN .i64 (s3.2+1))))
   (.ret (.inl (s3.1,aN .i64 (s3.2+1)))))
  (.ret (.inr s3.1))
def akn (p0:(Int×(Int×Unit))) (p1:Int) (p2:Int):Tre Int:=
 .mat (aP (P9 p1 p2 p0) (0,0)) fun l3=>
 .mat (Qe l3 p0.2.1) fun r4=>
 .ret r4
def eY (p0:(Int×(Int×Unit))) (p1:Int) (p2:Int):Option Int:=(akn p0 p1 p2).run some
-- more
set_option maxRecDepth 100000
theorem avG:xM eY mulN 1 2=true:=by kernel_rfl
theorem avH:xM eY mulN 1 3=true:=by kernel_rfl
theorem avI:xM eY mulN 2 7=true:=by kernel_rfl
theorem asR:xM eY mulN 3 11=true:=by kernel_rfl
theorem asS:xM eY mulN 3 13=true:=by kernel_rfl
theorem asT:xM eY mulN 4 19=true:=by kernel_rfl
theorem asU:xM eY mulN 4 25=true:=by kernel_rfl
theorem asV:xM eY mulN 4 31=true:=by kernel_rfl
theorem asW:xM eY mulN 5 37=true:=by kernel_rfl
theorem asX:xM eY mulN 5 41=true:=by kernel_rfl
theorem asY:xM eY mulN 5 47=true:=by kernel_rfl
theorem asZ:xM eY mulN 5 55=true:=by kernel_rfl
theorem as0:xM eY mulN 5 59=true:=by kernel_rfl
theorem as1:xM eY mulN 5 61=true:=by kernel_rfl
theorem anE{f:TF3}(hf:aO f=true){a b:Int}(ha:inF f a)(hb:inF f b):eY f a b=some (fZ f a b):=by
 refine arb (fun q hq=>?_) hf ha hb
 simp only [iT,List.mem_cons,List.not_mem_nil,or_false] at hq
 rcases hq with rfl|rfl|rfl|rfl|rfl|rfl|rfl|rfl|rfl|rfl|rfl|rfl|rfl|rfl
 ·exact avG
 ·exact avH
 ·exact avI
 ·exact asR
 ·exact asS
 ·exact asT
 ·exact asU
 ·exact asV
 ·exact asW
 ·exact asX
 ·exact asY
 ·exact asZ
 ·exact as0
 ·exact as1
def Mc:Env:=⟨tau,[(221,Qf)],[]⟩
def adZ:Code:=(Try.f190.body).getD .skip
def Qa (aQ:Int) (bL:Int) (dR:(Int×(Int×Unit))):(Int×Int)→St:=fun x=>bR [(1,(.i aQ)),(2,(.i bL)),(3,(.ptr (5,0) [])),(7,(.i x.1)),(8,(.i x.2))] [((5,0),some ⟨true,aJ,.own,dR⟩)]
def Ng (_:Int) (_:Int) (dR:(Int×(Int×Unit))):Int→Ex×St:=fun x=>(.exit 0,bR [(3,(.ptr (5,0) [])),(7,(.i x))] [((5,0),some ⟨true,aJ,.own,dR⟩)])
def afu (s:St):Tre (Ex×St):=
 aC true .n (s.tmps 1) fun d2=>
 aC true .n (s.tmps 2) fun d4=>
 dB (5,0) [] (s.tmps 3)<|
 aC true .n (s.tmps 7) fun d7=>
 aC true .n (s.tmps 8) fun d9=>
 aW true aJ (s.roots (5,0)) fun m11 d12=>
 asM .own m11<|
 .mat (aP (P9 d2 d4 d12) (d7,d9)) fun x=>.ret (Ng d2 d4 d12 x)
def AZ:bB:=⟨([1,2,3,7,8],[(5,0)]),([3,7],[(5,0)]),afu⟩
def U4:List (Nat×bB):=[(3,AZ)]
theorem Zc:∀(aQ bL:Int)(dR:(Int×(Int×Unit)))(x:(Int×Int))(c:St→Option (Ex×St)),den Mc U4 (aU adZ 0) (Qa aQ bL dR x) (bY AZ.kp AZ.kx c)=(P9 aQ bL dR x).run (bZ (Qa aQ bL dR) (Ng aQ bL dR) c):=fun _ _ _ _ _=>by
 kernel_rfl
theorem ad1:bP Mc U4 (aU adZ 0) AZ:=dw fun _ _ _=>aM fun _=>aM fun _=>fT<|aM fun _=>aM fun _=>bN fun _ _=>tM<|fun h _ e10 e8 e6 e5 e3 e1=>bT (Zc _ _ _) h (by subst_vars;exact aR rfl rfl ⟨e1,e3,e5,e6,e8,trivial⟩ ⟨e10,trivial⟩)
def amr:FnI:=fnI Try.f190 U4
def Xe (_:(Int×(Int×Unit))) (_:Int) (_:Int):Int→aA:=fun r=>⟨(.i r),[],[]⟩
theorem ako:∀(p0:(Int×(Int×Unit)))(p1 p2:Int),bI Mc amr ⟨[(.imm true aJ p0),(.i p1),(.i p2)],[]⟩=(akn p0 p1 p2).run fun r=>some (Xe p0 p1 p2 r):=fun _ _ _=>by kernel_rfl
def amq (av:List AV) (rs:List Root):Tre aA:=
 aB av fun a0_ av0=>
 aB av0 fun a1_ av1=>
 aB av1 fun a2_ av2=>
 aL av2<|
 aL rs<|
 aC true aJ a0_ fun d1=>
 aC true .n a1_ fun d2=>
 aC true .n a2_ fun d3=>
 .mat (eY d1 d2 d3) fun r=>.ret (Xe d1 d2 d3 r)
def Md:Ctr:=dD [] amq
theorem Qb:Contract Try.prog .none 190 Md:=aD (V:=Mc) aT (ak Xj apW aI) Try.func190 (bJ (n:=1) fun k hk=>by
 match k,hk with
 |0,_=>exact bM (id:=3) ad1) fun _ _ _=>aH fun _ _=>aH fun _ _=>aH fun _ _=>bn<|bn<|aM fun _=>aM fun _=>aM fun _=>fun h=>by intros;subst_vars;exact bg (ako _ _ _) h
def Jj (aY:Int) (bD:(Int×(Int×Unit))):(Int×Int)→Tre ((Int×Int) ⊕ Int):=fun s2=>
 .cond (decide (s2.1>0))
  (.mat (eY bD s2.2 aY) fun r1=>
  .ret (.inl (aN .i64 (s2.1-1),r1)))
  (.ret (.inr s2.2))
def ad2 (p0:(Int×(Int×Unit))) (p1:Int) (p2:Int):Tre Int:=
 .mat (aP (Jj p1 p0) (p2,1)) fun l2=>
 .ret l2
def Xf (p0:(Int×(Int×Unit))) (p1:Int) (p2:Int):Option Int:=(ad2 p0 p1 p2).run some
def DZ:Env:=⟨tau,[(190,Md)],[]⟩
def Xg:Code:=(Try.f191.body).getD .skip
def Ko (aY:Int) (bD:(Int×(Int×Unit))):(Int×Int)→St:=fun x=>bR [(1,(.i aY)),(2,(.i x.1)),(3,(.ptr (5,0) [])),(7,(.i x.2))] [((5,0),some ⟨true,aJ,.own,bD⟩)]
def Il (_:Int) (_:(Int×(Int×Unit))):Int→Ex×St:=fun x=>(.exit 0,bR [(7,(.i x))] [])
def abg (s:St):Tre (Ex×St):=
 aC true .n (s.tmps 1) fun d2=>
 aC true .n (s.tmps 2) fun d4=>
 dB (5,0) [] (s.tmps 3)<|
 aC true .n (s.tmps 7) fun d7=>
 aW true aJ (s.roots (5,0)) fun m9 d10=>
 asM .own m9<|
 .mat (aP (Jj d2 d10) (d4,d7)) fun x=>.ret (Il d2 d10 x)
def vO:bB:=⟨([1,2,3,7],[(5,0)]),([7],[]),abg⟩
def Me:List (Nat×bB):=[(2,vO)]
theorem U5:∀(aY:Int)(bD:(Int×(Int×Unit)))(x:(Int×Int))(c:St→Option (Ex×St)),den DZ Me (aU Xg 0) (Ko aY bD x) (bY vO.kp vO.kx c)=(Jj aY bD x).run (bZ (Ko aY bD) (Il aY bD) c):=fun _ _ _ _=>by
 kernel_rfl
theorem Zd:bP DZ Me (aU Xg 0) vO:=dw fun _ _ _=>aM fun _=>aM fun _=>fT<|aM fun _=>bN fun _ _=>tM<|fun h _ e8 e6 e5 e3 e1=>bT (U5 _ _) h (by subst_vars;exact aR rfl rfl ⟨e1,e3,e5,e6,trivial⟩ ⟨e8,trivial⟩)
def ahY:FnI:=fnI Try.f191 Me
def Qc (_:(Int×(Int×Unit))) (_:Int) (_:Int):Int→aA:=fun r=>⟨(.i r),[],[]⟩
theorem afv:∀(p0:(Int×(Int×Unit)))(p1 p2:Int),bI DZ ahY ⟨[(.imm true aJ p0),(.i p1),(.i p2)],[]⟩=(ad2 p0 p1 p2).run fun r=>some (Qc p0 p1 p2 r):=fun _ _ _=>by kernel_rfl
def ahX (av:List AV) (rs:List Root):Tre aA:=
 aB av fun a0_ av0=>
 aB av0 fun a1_ av1=>
 aB av1 fun a2_ av2=>
 aL av2<|
 aL rs<|
 aC true aJ a0_ fun d1=>
 aC true .n a1_ fun d2=>
 aC true .n a2_ fun d3=>
 .mat (Xf d1 d2 d3) fun r=>.ret (Qc d1 d2 d3 r)
def Xh:Ctr:=dD [] ahX
theorem afw:Contract Try.prog .none 191 Xh:=aD (V:=DZ) aT (ak Qb alx aI) Try.func191 (bJ (n:=1) fun k hk=>by
 match k,hk with
 |0,_=>exact bM (id:=2) Zd) fun _ _ _=>aH fun _ _=>aH fun _ _=>aH fun _ _=>bn<|bn<|aM fun _=>aM fun _=>aM fun _=>fun h=>by intros;subst_vars;exact bg (afv _ _ _) h
def Xd (p0:(Int×(Int×Unit))) (p1:Int):Tre Int:=
 .mat (gy p0) fun r1=>
 .mat (Xf p0 p1 (aN .i64 (r1-2))) fun r2=>
 .ret r2
def dH (p0:(Int×(Int×Unit))) (p1:Int):Option Int:=(Xd p0 p1).run some
-- more
set_option maxRecDepth 100000
theorem avD:xL dH ql 1 2=true:=by kernel_rfl
theorem avE:xL dH ql 1 3=true:=by kernel_rfl
theorem avF:xL dH ql 2 7=true:=by kernel_rfl
theorem asC:xL dH ql 3 11=true:=by kernel_rfl
theorem asE:xL dH ql 3 13=true:=by kernel_rfl
theorem asF:xL dH ql 4 19=true:=by kernel_rfl
theorem asG:xL dH ql 4 25=true:=by kernel_rfl
theorem asH:xL dH ql 4 31=true:=by kernel_rfl
theorem asI:xL dH ql 5 37=true:=by kernel_rfl
theorem asJ:xL dH ql 5 41=true:=by kernel_rfl
theorem asK:xL dH ql 5 47=true:=by kernel_rfl
theorem asL:xL dH ql 5 55=true:=by kernel_rfl
theorem asN:xL dH ql 5 59=true:=by kernel_rfl
theorem asO:xL dH ql 5 61=true:=by kernel_rfl
theorem asP{f:TF3}(hf:aO f=true){a:Int}(ha:inF f a):dH f a=some (yC f a):=by
 refine aqJ (fun q hq=>?_) hf ha
 simp only [iT,List.mem_cons,List.not_mem_nil,or_false] at hq
 rcases hq with rfl|rfl|rfl|rfl|rfl|rfl|rfl|rfl|rfl|rfl|rfl|rfl|rfl|rfl
 ·exact avD
 ·exact avE
 ·exact avF
 ·exact asC
 ·exact asE
 ·exact asF
 ·exact asG
 ·exact asH
 ·exact asI
 ·exact asJ
 ·exact asK
 ·exact asL
 ·exact asN
 ·exact asO
def P7:Env:=⟨tau,[(157,rP),(191,Xh)],[]⟩
def adY:FnI:=fnI Try.f133 []
def Kl (_:(Int×(Int×Unit))) (_:Int):Int→aA:=fun r=>⟨(.i r),[],[]⟩
theorem abe:∀(p0:(Int×(Int×Unit)))(p1:Int),bI P7 adY ⟨[(.imm true aJ p0),(.i p1)],[]⟩=(Xd p0 p1).run fun r=>some (Kl p0 p1 r):=fun _ _=>by kernel_rfl
def adX (av:List AV) (rs:List Root):Tre aA:=
 aB av fun a0_ av0=>
 aB av0 fun a1_ av1=>
 aL av1<|
 aL rs<|
 aC true aJ a0_ fun d1=>
 aC true .n a1_ fun d2=>
 .mat (dH d1 d2) fun r=>.ret (Kl d1 d2 r)
def P8:Ctr:=dD [] adX
theorem abf:Contract Try.prog .none 133 P8:=aD (V:=P7) aT (ak tu Yd (ak afw auz aI)) Try.func133 bF fun _ _ _=>aH fun _ _=>aH fun _ _=>bn<|bn<|aM fun _=>aM fun _=>fun h=>by intros;subst_vars;exact bg (abe _ _) h
end Go.Proofs.Ytldafhnnnabipaa
