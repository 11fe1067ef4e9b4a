/- Part 3 of the proof of FnAnnihilators. -/
import Derived.WalkKit
import Derived.ProofKit
import Derived.OpenShut
import Derived.ShutString
import Derived.ChangeOld
import Derived.Below
import Derived.SizedLaws
import Derived.Carry
import Derived.IntWalk
import Derived.Deep.RegionLaw
import Derived.KernelRfl
import Derived.Sort.OwnSortedInts
import Derived.Lib.SlicesCompact
import Derived.Shelf.SortG.Plain
import Derived.Shelf.SortG.SortNone
import Derived.Ground.SlgnProg
import Derived.Shelf.SlicesG.CompactI
import Derived.Test.YtldafhnnnabipaaProg
import Derived.Test.YtldafhnnnabipaaAn2
set_option maxRecDepth 100000
noncomputable section
namespace Go.Abs
theorem Mask.af4{m:Mask}(h:m.done=true):m.fst.done=true:=by
 cases m<;>simp_all [Mask.done,Mask.fst]
theorem Mask.af5{m:Mask}(h:m.done=true):m.snd.done=true:=by
 cases m<;>simp_all [Mask.done,Mask.snd]
theorem Mask.aeA{m:Mask}(h:m.done=true):m.elem.done=true:=by
 cases m<;>simp_all [Mask.done,Mask.elem]
theorem Enc.toZ{w:World}{θ:ah→Nat}{Z S:BS}:∀{k:K}{m:Mask}{d:k.den}{vs:List Value}{F Z':BS},Enc w θ Z S k m d vs F→m.done=true→Sub Z Z'→Sub F Z'→Enc w θ Z' S k (.imm true) d vs noB:=by
 intro k
 induction k with
 |pair a b iha ihb=>
  intro m d vs F Z' h hd hZ hF
  obtain ⟨v1,v2,F1,F2,rfl,s1,s2,dj,h1,h2⟩:=h
  exact ⟨v1,v2,noB,noB,rfl,fun _ x=>x.elim,fun _ x=>x.elim,fun _ x=>x.elim,iha h1 (Mask.af4 hd) hZ (s1.trans hF),ihb h2 (Mask.af5 hd) hZ (s2.trans hF)⟩
 |sl e ih=>
  intro m d vs F Z' h hd hZ hF
  rcases h with ⟨rfl,_⟩|⟨_,h⟩|⟨hm,b,off,cap,c,T,fz,rfl,hc,hle,hs,hok,G',hG,hdj,he⟩
  ·simp [Mask.done] at hd
  ·exact .inr (.inl ⟨by simp,h⟩)
  ·refine .inr (.inr ⟨by simp,b,off,cap,c,T,fz,rfl,hc,hle,hs,?_,fun _=>noB,fun _=>⟨fun _ x=>x.elim,fun x=>x⟩,fun _ _ _ _ x=>x.elim,fun i x hx=>?_⟩)
   ·refine .inl ?_
    cases m with
    |own=>exact hF _ hok.1
    |sl _=>exact hF _ hok.1
    |imm z=>
     simp only [Mask.done] at hd
     subst hd
     rcases hok with h|h
     ·exact hZ _ h
     ·cases h.1
    |gone=>exact hok.elim
    |pair _ _=>exact hok.elim
   ·exact ih (he i x hx) (Mask.aeA hd) hZ ((hG i).1.trans hF)
 |_=>intro m d vs F Z' h _ _ _;exact h
theorem Ui{z:Bool}:∀(q:Path){k:K}{d:k.den}{m:Mask},bO k d m q→bO k d (.imm z) q:=by
 intro q
 induction q with
 |nil=>intro k d m _;exact dQ _ _ _
 |cons st q ih=>
  intro k d m h
  cases st with
  |fst=>
   cases k with
   |pair a b=>exact ih (k:=a) (m:=m.fst) h
   |_=>exact h.elim
  |snd=>
   cases k with
   |pair a b=>exact ih (k:=b) (m:=m.snd) h
   |_=>exact h.elim
  |idx i=>
   cases k with
   |sl e=>
    obtain ⟨_,x,hx,h⟩:=h
    exact ⟨by simp,x,hx,ih (k:=e) (m:=m.elem) h⟩
   |_=>exact h.elim
theorem Enc.frz{w:World}{θ:ah→Nat}{Z S:BS}{el:Bool}:∀(p:Path){k:K}{m m':Mask}{d:k.den}{vs:List Value}{F:BS},aaI k m p el=some m'→Enc w θ Z S k m d vs F →
  ∃F' FZ:BS,Sub F' F∧Sub FZ F∧zU F' FZ∧(∀Z':BS,Sub Z Z'→Sub FZ Z'→Enc w θ Z' S k m' d vs F')∧∀q,bO k d m q→bO k d m' q:=by
 intro p
 induction p with
 |nil=>
  intro k m m' d vs F h he
  have hid:(some m=some m')→∃F' FZ:BS,Sub F' F∧Sub FZ F∧zU F' FZ∧(∀Z':BS,Sub Z Z'→Sub FZ Z'→Enc w θ Z' S k m' d vs F')∧∀q,bO k d m q→bO k d m' q:=by
   intro h
   simp only [Option.some.injEq] at h
   subst h
   exact ⟨F,noB,.refl _,fun _ h=>h.elim,fun _ _ h=>h,fun Z' hZ _=>he.mono hZ (.refl _) (.refl _) (fun _ _=>rfl) (fun _ _=>rfl),fun _ h=>h⟩
  cases el with
  |false=>
   have h':(bif m.done then some (bif k.flat then m else .imm true) else none)=some m':=by cases k<;>exact h
   cases hd:m.done with
   |false=>rw [hd] at h';cases h'
   |true=>
    rw [hd,cond_true] at h'
    cases hf:k.flat with
    |true=>rw [hf,cond_true] at h';exact hid h'
    |false=>
     rw [hf,cond_false,Option.some.injEq] at h'
     subst h'
     exact ⟨noB,F,fun _ h=>h.elim,.refl _,fun _ h=>h.elim,fun Z' hZ hF=>he.toZ hd hZ hF,fun q h=>Ui q h⟩
  |true=>
   cases k with
   |sl e=>
    simp only [aaI] at h
    cases hd:(m.dX&&m.elem.done) with
    |false=>rw [hd] at h;cases h
    |true=>
     rw [hd,cond_true] at h
     cases hf:e.flat with
     |true=>rw [hf,cond_true] at h;exact hid h
     |false=>
      rw [hf,cond_false,Option.some.injEq] at h
      subst h
      simp only [Bool.and_eq_true] at hd
      have hcg:∀q,bO (.sl e) d m q→bO (.sl e) d (Mask.OQ (.imm true)) q:=by
       intro q hq
       cases q with
       |nil=>exact dQ _ _ _
       |cons st q=>
        cases st with
        |idx i=>
         obtain ⟨_,x,hx,hq⟩:=hq
         exact ⟨by simp [Mask.OQ],x,hx,Ui q hq⟩
        |fst=>exact hq.elim
        |snd=>exact hq.elim
      rcases he with ⟨rfl,_⟩|⟨hm,h⟩|⟨hm,b,off,cap,c,T,fz,rfl,hc,hle,hs,hok,G',hG,hdj,hel⟩
      ·simp [Mask.dX] at hd
      ·exact ⟨noB,noB,fun _ h=>h.elim,fun _ h=>h.elim,fun _ h=>h.elim,fun Z' _ _=>.inr (.inl ⟨by simp [Mask.OQ],h⟩),hcg⟩
      ·have hb:F b∧fz=(0,0):=by cases m<;>simp_all [Mask.dX,Ik]
       refine ⟨fun x=>x=b,fun x=>∃i,G' i x,fun x hx=>by rw [hx];exact hb.1,fun x ⟨i,hx⟩=>(hG i).1 x hx,fun x hx ⟨i,hy⟩=>(hG i).2 (by rw [←hx];exact hy),fun Z' hZ hF=>?_,hcg⟩
       refine .inr (.inr ⟨by simp [Mask.OQ],b,off,cap,c,T,fz,rfl,hc,hle,hs,⟨rfl,hb.2⟩,fun _=>noB,fun _=>⟨fun _ x=>x.elim,fun x=>x⟩,fun _ _ _ _ x=>x.elim,fun i x hx=>?_⟩)
       exact (hel i x hx).toZ hd.2 hZ (fun y hy=>hF y ⟨i,hy⟩)
   |_=>cases h
 |cons st p ih=>
  intro k m m' d vs F h he
  cases st with
  |fst=>
   cases k with
   |pair a b=>
    simp only [aaI,Option.map_eq_some_iff] at h
    obtain ⟨m1,h,rfl⟩:=h
    obtain ⟨v1,v2,F1,F2,rfl,s1,s2,dj,h1,h2⟩:=he
    obtain ⟨F',FZ,g1,g2,g3,g4,g5⟩:=ih h h1
    have hm0:(m.zF m1).fst=m1∧(m.zF m1).snd=m.snd:=⟨yR _ _,yS _ _⟩
    refine ⟨fun x=>F' x∨F2 x,FZ,fun x hx=>hx.elim (fun h=>s1 x (g1 x h)) (s2 x),g2.trans s1,fun x hx hz=>hx.elim (fun h=>g3 x h hz) (fun h=>dj x (g2 x hz) h),fun Z' hZ hF=>?_,fun q hq=>?_⟩
    ·exact ⟨v1,v2,F',F2,rfl,fun _=>.inl,fun _=>.inr,dj.sub g1 (.refl _),by rw [hm0.1];exact g4 Z' hZ hF,by rw [hm0.2];exact h2.mono hZ (.refl _) (.refl _) (fun _ _=>rfl) (fun _ _=>rfl)⟩
    ·cases q with
     |nil=>trivial
     |cons st q=>
      cases st with
      |fst=>show bO a d.1 (m.zF m1).fst q;rw [hm0.1];exact g5 q hq
      |snd=>show bO b d.2 (m.zF m1).snd q;rw [hm0.2];exact hq
      |idx i=>exact hq.elim
   |_=>cases h
  |snd=>
   cases k with
   |pair a b=>
    simp only [aaI,Option.map_eq_some_iff] at h
    obtain ⟨m1,h,rfl⟩:=h
    obtain ⟨v1,v2,F1,F2,rfl,s1,s2,dj,h1,h2⟩:=he
    obtain ⟨F',FZ,g1,g2,g3,g4,g5⟩:=ih h h2
    have hm0:(m.zG m1).fst=m.fst∧(m.zG m1).snd=m1:=⟨yR _ _,yS _ _⟩
    refine ⟨fun x=>F1 x∨F' x,FZ,fun x hx=>hx.elim (s1 x) (fun h=>s2 x (g1 x h)),g2.trans s2,fun x hx hz=>hx.elim (fun h=>dj x h (g2 x hz)) (fun h=>g3 x h hz),fun Z' hZ hF=>?_,fun q hq=>?_⟩
    ·exact ⟨v1,v2,F1,F',rfl,fun _=>.inl,fun _=>.inr,dj.sub (.refl _) g1,by rw [hm0.1];exact h1.mono hZ (.refl _) (.refl _) (fun _ _=>rfl) (fun _ _=>rfl),by rw [hm0.2];exact g4 Z' hZ hF⟩
    ·cases q with
     |nil=>trivial
     |cons st q=>
      cases st with
      |fst=>show bO a d.1 (m.zG m1).fst q;rw [hm0.1];exact hq
      |snd=>show bO b d.2 (m.zG m1).snd q;rw [hm0.2];exact g5 q hq
      |idx i=>exact hq.elim
   |_=>cases h
  |idx i=>cases k<;>cases h
theorem AVC.ajV{w:World}{C C':Ctx}{rs rs':RF}(hZ:Sub C.Z C'.Z)(hS:C'.S=C.S)(hθ:C'.θ=C.θ)(hρ:C'.ρ=C.ρ)
  (hrs:∀q y,rs' q=some y→∃x m',rs q=some x∧y=⟨x.mem,x.k,m',x.d⟩∧∀p,bO x.k x.d x.m p→bO x.k x.d m' p) :
  ∀(av:AV)(vs:List Value),AVC w C rs av vs→AVC w C' rs' av vs:=by
 have himm:∀{z:Bool}{k:K}{d:k.den}{vs:List Value}{F:BS},Enc w C.θ C.Z C.S k (.imm z) d vs F→Enc w C'.θ C'.Z C'.S k (.imm z) d vs F:=by
  intro z k d vs F h
  rw [hS,hθ]
  exact h.mono hZ (.refl _) (.refl _) (fun _ _=>rfl) (fun _ _=>rfl)
 have hbase:∀q (x:Root) m',aV C' q ⟨x.mem,x.k,m',x.d⟩=aV C q x:=by intro q x m';unfold aV;rw [hθ]
 have href:∀r p (vs:List Value),AVC w C rs (.ref r p) vs→AVC w C' rs' (.ref r p) vs:=by
  rintro r p vs ⟨v,rfl,h⟩
  refine ⟨v,rfl,fun y hy=>?_⟩
  obtain ⟨x,m',hx,rfl,hc⟩:=hrs r y hy
  obtain ⟨e,base,g1,g2,g3⟩:=h x hx
  exact ⟨e,base,g1,hc p g2,by rw [hρ,hbase];exact g3⟩
 have hptr:∀r p (vs:List Value),AVC w C rs (.ptr r p) vs→AVC w C' rs' (.ptr r p) vs:=by
  rintro r p vs ⟨b,off,rfl,h0,h⟩
  refine ⟨b,off,rfl,fun hp=>by rw [hθ];exact h0 hp,fun y hy=>?_⟩
  obtain ⟨x,m',hx,rfl,hc⟩:=hrs r y hy
  obtain ⟨k',cs,g1,g2,g3⟩:=h x hx
  exact ⟨k',cs,g1,hc p g2,by rw [hρ,hbase];exact g3⟩
 intro av
 induction av with
 |dead=>intro vs _;trivial
 |imm z k d=>intro vs h;exact ⟨h.1,himm h.2⟩
 |nn z e d=>intro vs h;exact ⟨h.1,himm h.2.1,h.2.2⟩
 |nil=>intro vs h;exact h
 |emp=>intro vs h;exact h
 |nilp=>intro vs h;exact h
 |ptr r p=>intro vs h;exact hptr r p vs h
 |ref r p=>intro vs h;exact href r p vs h
 |vw r p L=>intro vs h;exact AVC.Z4 (fun i=>hptr _ _ _ i) (fun e _ v=>⟨fun i=>href _ _ _ i,fun i=>href _ _ _ i⟩) h
 |iptr z k d p=>
  rintro vs ⟨vs0,b,off,cs,k',h1,h2,h3⟩
  exact ⟨vs0,b,off,cs,k',h1,himm h2,h3⟩
 |slc r p lo n=>
  rintro vs ⟨v,v0,rfl,h⟩
  refine ⟨v,v0,rfl,fun y hy=>?_⟩
  obtain ⟨x,m',hx,rfl,hc⟩:=hrs r y hy
  obtain ⟨e,base,g1,g2,g3,g4⟩:=h x hx
  exact ⟨e,base,g1,hc p g2,by rw [hρ,hbase];exact g3,g4⟩
 |pair a b iha ihb=>
  rintro vs ⟨v1,v2,rfl,h1,h2⟩
  exact ⟨v1,v2,rfl,iha v1 h1,ihb v2 h2⟩
 |fn f caps=>
  rintro vs ⟨rfl,hc⟩
  refine ⟨by rw [hθ],fun q hq y hy=>?_⟩
  obtain ⟨x,m',hx,rfl,_⟩:=hrs q y hy
  exact hc q hq x hx
 |tnil=>intro vs h;exact h.elim
 |tcons a b _ _=>intro vs h;exact h.elim
section
variable {w0 w : World} {M0 : BS} {n : Nat} {C0 C : Ctx} {s s' : St} {a : Act}
theorem Rel.akH(R:Rel w0 M0 n C0 C s a w){q:ah}{x:Root}{p:Path}{el:Bool}{m':Mask}(hx:s.roots q=some x)(hm:aaI x.k x.m p el=some m') :
  ∃C',Rel w0 M0 n C0 C' ⟨s.tmps,fun r=>bif req r q then some ⟨x.mem,x.k,m',x.d⟩ else s.roots r,s.pins⟩ a w:=by
 obtain ⟨G,hG,hGs,hGm⟩:=R.mem.ok q x hx
 obtain ⟨F',FZ,s1,s2,dj,henc,hcg⟩:=hG.frz p hm
 have hFZ:∀b,FZ b→C.F q b:=fun b hb=>hGs b (s2 b hb)
 have hrs:∀r y,(bif req r q then some (⟨x.mem,x.k,m',x.d⟩:Root) else s.roots r)=some y→(r=q∧y=⟨x.mem,x.k,m',x.d⟩)∨(r≠q∧s.roots r=some y):=by
  intro r y hy
  by_cases h:r=q
  ·rw [bH.2 h] at hy;exact .inl ⟨h,(Option.some.inj hy).symm⟩
  ·rw [iC h] at hy;exact .inr ⟨h,hy⟩
 have hZ:Sub C.Z (fun b=>C.Z b∨FZ b):=fun _=>.inl
 let C':Ctx:=⟨C.θ,C.ρ,fun r=>if r=q then (fun b=>F' b∨(x.mem=true∧b=C.θ q)) else C.F r,fun b=>C.Z b∨FZ b,C.S⟩
 have hFq:C'.F q=fun b=>F' b∨(x.mem=true∧b=C.θ q):=if_pos rfl
 have hFr:∀r,r≠q→C'.F r=C.F r:=fun r h=>if_neg h
 have hFsub:∀b,C'.F q b→C.F q b:=by
  intro b hb
  rw [hFq] at hb
  rcases hb with hb|⟨hmem,rfl⟩
  ·exact hGs b (s1 b hb)
  ·exact (hGm hmem).2.1
 have hFall:∀r b,C'.F r b→C.F r b:=by
  intro r b hb
  by_cases h:r=q
  ·subst h;exact hFsub b hb
  ·rw [hFr r h] at hb;exact hb
 have hother:∀r y,r≠q→s.roots r=some y→∀b,C.F r b→¬FZ b:=fun r y h hy b hb hz=>R.mem.disj r q y x hy hx h b hb (hFZ b hz)
 have hM:Mem w C' (fun r=>bif req r q then some ⟨x.mem,x.k,m',x.d⟩ else s.roots r):=by
  refine ⟨?_,?_,?_,?_,?_⟩
  ·intro r y hr
   rcases hrs r y hr with ⟨rfl,rfl⟩|⟨h1,h2⟩
   ·refine ⟨F',henc _ hZ (fun _=>.inr),fun b hb=>by rw [hFq];exact .inl hb,fun hmem=>?_⟩
    obtain ⟨k1,k2,k3⟩:=hGm hmem
    exact ⟨fun h=>k1 (s1 _ h),by rw [hFq];exact .inr ⟨hmem,rfl⟩,k3⟩
   ·exact (R.mem.ok r y h2).agI hZ rfl rfl rfl (hFr r h1) (fun _ _=>rfl) (fun _ _=>rfl)
  ·intro r r' y y' hr hr' hne b hb hb'
   have h1:∃z,s.roots r=some z:=by rcases hrs r y hr with ⟨rfl,_⟩|⟨_,h⟩<;>exact ⟨_,by assumption⟩
   have h2:∃z,s.roots r'=some z:=by rcases hrs r' y' hr' with ⟨rfl,_⟩|⟨_,h⟩<;>exact ⟨_,by assumption⟩
   obtain ⟨z,hz⟩:=h1
   obtain ⟨z',hz'⟩:=h2
   exact R.mem.disj r r' z z' hz hz' hne b (hFall r b hb) (hFall r' b hb')
  ·intro r y b hr hb
   rcases hrs r y hr with ⟨rfl,rfl⟩|⟨h1,h2⟩
   ·have h:=R.mem.apart r x b hx (hFsub b hb)
    refine ⟨fun hz=>hz.elim h.1 fun hz=>?_,h.2.1,h.2.2⟩
    rw [hFq] at hb
    rcases hb with hb|⟨hmem,rfl⟩
    ·exact dj b hb hz
    ·exact (hGm hmem).1 (s2 _ hz)
   ·rw [hFr r h1] at hb
    have h:=R.mem.apart r y b h2 hb
    exact ⟨fun hz=>hz.elim h.1 (hother r y h1 h2 b hb),h.2.1,h.2.2⟩
  ·intro b hb
   rcases hb with (hb|hb)|hb
   ·exact R.mem.ro b (.inl hb)
   ·exact (R.mem.apart q x b hx (hFZ b hb)).2.2
   ·exact R.mem.ro b (.inr hb)
  ·intro r y hr p' hp' y2 hr2
   have h1:∃z,s.roots r=some z∧p'∈aF z.k z.d:=by
    rcases hrs r y hr with ⟨rfl,rfl⟩|⟨_,h⟩
    ·exact ⟨x,hx,hp'⟩
    ·exact ⟨y,h,hp'⟩
   obtain ⟨z,hz,hp2⟩:=h1
   rcases hrs p' y2 hr2 with ⟨rfl,rfl⟩|⟨_,h⟩
   ·exact R.mem.ptr r z hz p' hp2 x hx
   ·exact R.mem.ptr r z hz p' hp2 y2 h
 refine ⟨C',⟨fun b hb=>.inl (R.ext.Z b hb),R.ext.S,R.ext.θ⟩,hM,fun t=>?_,R.kept,?_,?_,R.defers,R.room,?_,?_⟩
 ·show aT w C' _ (a.tmps.getD t undef) (s.tmps t)
  rw [←Ku (s.tmps t)]
  refine aT.step (C':=C') (xs:=[]) (fun av vs _ _ hav=>AVC.ajV (C':=C') hZ rfl rfl rfl (fun r y hr=>?_) av vs hav) (R.tm t)
  rcases hrs r y hr with ⟨rfl,rfl⟩|⟨_,h⟩
  ·exact ⟨x,m',hx,rfl,hcg⟩
  ·exact ⟨y,y.m,h,rfl,fun _ h=>h⟩
 ·intro r y b hr hb
  have hb2:=hFall r b hb
  rcases hrs r y hr with ⟨rfl,rfl⟩|⟨_,h⟩
  ·exact R.foot r x b hx hb2
  ·exact R.foot r y b h hb2
 ·intro r y hr p' hp' h2
  rcases hrs r y hr with ⟨rfl,rfl⟩|⟨_,h⟩
  ·exact R.pins r x hx p' hp' h2
  ·exact R.pins r y h p' hp' h2
 ·intro i y hr hmem
  rcases hrs (0,i) y hr with ⟨h1,rfl⟩|⟨_,h⟩
  ·exact R.parρ i x (by rw [h1];exact hx) hmem
  ·exact R.parρ i y h hmem
 ·intro b hb
  rcases hb with hb|hb
  ·exact R.zn b hb
  ·exact .inr (R.foot q x b hx (hFZ b hb))
theorem Rel.ags:∀(l:List Frz){C:Ctx}{s:St},Rel w0 M0 n C0 C s a w→∃C',Rel w0 M0 n C0 C' (Uz l s) a w:=by
 intro l
 induction l with
 |nil=>intro C s R;exact ⟨C,R⟩
 |cons f l ih=>
  intro C s R
  obtain ⟨q,p,el⟩:=f
  simp only [Uz]
  split
  ·exact ih R
  ·rename_i x hx
   split
   ·exact ih R
   ·rename_i m' hm
    obtain ⟨C1,R1⟩:=R.akH hx hm
    exact ih R1
end
end Go.Abs
namespace Go.Abs
variable {Γ : Glb}
section
variable {P : Program} {V : Env} {w0 w : World} {M0 : BS} {n : Nat} {C0 C : Ctx} {s : St} {a : Act}
variable {R' : Type} {r : R'} {o : Oper}
def yt(n:Nat):Code→Bool
 |.region _ ops _=>ops.toList.all fun o=>match o.dst with
  |some d=>Nat.blt d n
  |none=>true
 |.seq a b=>yt n a&&yt n b
 |.cond _ a b=>yt n a&&yt n b
 |.block _ a=>yt n a
 |.loop a=>yt n a
 |_=>true
def dZ(V:Env)(A:List (Nat×bS))(a:Code)(L:bS):Prop:=
 ∀s e s',(L.sm (restrict L.kp s)).run some=some (e,s')→∃m,iter L (fun s (c:Ex→St→Option (Ex×St))=>den V A a s c) m (restrict L.kp s) (fun e s'=>some (e,s'))=some (e,s')
def qC(V:Env)(A:List (Nat×bS)):Code→Prop
 |.seq a b=>qC V A a∧qC V A b
 |.cond _ a b=>qC V A a∧qC V A b
 |.block _ a=>qC V A a
 |.loop a=>qC V A a∧∀i L,eP a=some i→iA i A=some L→dZ V A a L
 |_=>True
def Ex.exit':Ex→Exit
 |.normal=>.normal
 |.exit id=>.exit id
 |.ret=>.ret
theorem aem(hT:gW P V)(hE:PW P Γ V w0 M0 C0){A:List (Nat×bS)}:∀(cd:Code),yt n cd=true→qC V A cd→∀{R':Type}{r:R'}{c:Ex→St→Option R'}{Q:Exit→Act→World→Prop},
  (∀e s' a' w' C',c e s'=some r→Rel w0 M0 n C0 C' s' a' w'→Q e.exit' a' w')→∀{C:Ctx}{s:St}{a:Act}{w:World},Rel w0 M0 n C0 C s a w→den V A cd s c=some r→cd.wp P Q a w:=by
 intro cd
 induction cd with
 |skip=>intro _ _ R' r c Q hq C s a w R h;exact wp_skip (hq .normal s a w C h R)
 |label l=>intro _ _ R' r c Q hq C s a w R h;exact wp_label (hq .normal s a w C h R)
 |region id ops draw=>
  intro hd _ R' r c Q hq C s a w R h
  simp only [yt,List.all_eq_true] at hd
  have hd':∀o∈ops.toList,∀d,o.dst=some d→d<n:=fun o ho d hod=>by
   have h2:=hd o ho
   rw [hod] at h2
   have h3:Nat.blt d n=true:=h2
   exact Nat.le_of_ble_eq_true h3
  have go:∀{C:Ctx}{s:St},Rel w0 M0 n C0 C s a w→wT V ops.toList draw s (fun s'=>c .normal s')=some r→(Code.region id ops draw).wp P Q a w:=by
   intro C s R h
   cases draw with
   |false=>exact Z5 hT hE hd' (fun s' a' w' C' h R=>hq .normal s' a' w' C' h R) R h
   |true=>exact XF hT hE hd' (fun s' a' w' C' h R=>hq .normal s' a' w' C' h R) R h
  unfold den at h
  split at h
  ·exact go R h
  ·obtain ⟨C1,R1⟩:=Rel.ags _ R
   exact go R1 h
 |seq x y ihx ihy=>
  intro hd hL R' r c Q hq C s a w R h
  simp only [yt,Bool.and_eq_true] at hd
  refine wp_seq (ihx hd.1 hL.1 (fun e s' a' w' C' hc R'=>?_) R h)
  cases e with
  |normal=>exact ihy hd.2 hL.2 hq R' hc
  |exit id=>exact hq (.exit id) s' a' w' C' hc R'
  |ret=>exact hq .ret s' a' w' C' hc R'
 |cond x y z ihy ihz=>
  intro hd hL R' r c Q hq C s a w R h
  simp only [yt,Bool.and_eq_true] at hd
  simp only [den] at h
  split at h
  case h_2=>simp at h
  case h_1 zz t ht=>
  have hv:=R.eval x
  rw [ht] at hv
  refine wp_cond hv.bool ?_
  cases t with
  |true=>exact ihy hd.1 hL.1 hq R h
  |false=>exact ihz hd.2 hL.2 hq R h
 |block id x ih=>
  intro hd hL R' r c Q hq C s a w R h
  refine wp_block (ih hd hL (fun e s' a' w' C' hc R'=>?_) R h)
  cases e with
  |normal=>exact hq .normal s' a' w' C' hc R'
  |exit i=>
   simp only [Ex.exit',Exit.inBlock]
   by_cases hi:i=id
   ·rw [if_pos hi]
    simp only [beq_iff.2 hi,cond_true] at hc
    exact hq .normal s' a' w' C' hc R'
   ·rw [if_neg hi]
    simp only [iB hi,cond_false] at hc
    exact hq (.exit i) s' a' w' C' hc R'
  |ret=>exact hq .ret s' a' w' C' hc R'
 |loop x ih=>
  intro hd hL R' r c Q hq C s a w R h
  simp only [den] at h
  split at h
  case h_2=>simp at h
  case h_1 L hfl=>
  obtain ⟨⟨e,s'⟩,hsm,h⟩:=Tre.Pd h
  have hfl':∃i,eP x=some i∧iA i A=some L:=by
   cases hf:eP x with
   |none=>rw [hf] at hfl;simp at hfl
   |some i=>rw [hf] at hfl;exact ⟨i,rfl,hfl⟩
  obtain ⟨i,hi1,hi2⟩:=hfl'
  obtain ⟨m,hm⟩:=hL.2 i L hi1 hi2 _ _ _ hsm
  refine wp_loop_rounds m ?_
  have key:∀(m:Nat){C:Ctx}{s1:St}{a:Act}{w:World},Rel w0 M0 n C0 C s1 a w→iter L (fun s (c:Ex→St→Option (Ex×St))=>den V A x s c) m s1 (fun e s'=>some (e,s'))=some (e,s')→Code.rounds P x Q m a w:=by
   intro m
   induction m with
   |zero=>intro C s1 a w _ h;simp [iter] at h
   |succ m ihm=>
    intro C s1 a w R1 h1
    rw [rounds_succ]
    simp only [iter] at h1
    refine ih hd hL.1 (fun e1 s2 a' w' C' hc R'=>?_) R1 h1
    cases e1 with
    |normal=>exact ihm (R'.restrict L.kp) hc
    |exit id=>
     simp only [Option.some.injEq,Prod.mk.injEq] at hc
     refine hq (.exit id) s' a' w' C' ?_ (by rw [←hc.2];exact R'.restrict L.kx)
     rw [hc.1];exact h
    |ret=>
     simp only [Option.some.injEq,Prod.mk.injEq] at hc
     refine hq .ret s' a' w' C' ?_ (by rw [←hc.2];exact R'.restrict L.kx)
     rw [hc.1];exact h
  exact key m (R.restrict L.kp) hm
 |exit id=>intro _ _ R' r c Q hq C s a w R h;exact wp_exit (hq (.exit id) s a w C h R)
 |ret=>intro _ _ R' r c Q hq C s a w R h;exact wp_ret (hq .ret s a w C h R)
 |_=>intro _ _ R' r c Q hq C s a w R h;simp [den] at h
end
end Go.Abs
namespace Go.Abs
def cmb(rs:RF)(fs:List Root):RF:=fun q=>if q.1=1 then fs[q.2]? else rs q
structure Moved(w:World)(C0:Ctx)(rs0:RF)(C:Ctx)(rs:RF)(fs:List Root)(ks:List Kill):Prop where
 Z:C.Z=C0.Z
 S:C.S=C0.S
 pars:∀i,C.θ (par i)=C0.θ (par i)∧C.ρ (par i)=C0.ρ (par i)
 mem:Mem w C (cmb rs fs)
 leaf:∀b vs,b.dV=true→hit ks b=false→(∀q∈b.names,q.1≠1)→AVC w C0 rs0 b vs→AVC w C (cmb rs fs) b vs
 foot:∀q y b,cmb rs fs q=some y→C.F q b→∃q0 y0,rs0 q0=some y0∧C0.F q0 b
 ptr1:∀q y,cmb rs fs q=some y→∀p∈aF y.k y.d,p.1≠1
 rs1:∀i,rs (par i)=rs0 (par i)
structure Io(w:World)(C:Ctx)(rs:RF)(fs:List Root)(ks:List Kill)(C':Ctx)(rs':RF)(fs':List Root)(ks':List Kill):Prop where
 leaf:∀b vs,b.dV=true→hit ks' b=false→(∀q∈b.names,q.1=1→q.2<fs.length)→AVC w C (cmb rs fs) b vs→AVC w C' (cmb rs' fs') b vs
 grow:fs.length≤fs'.length
 ks:∀b,hit ks' b=false→hit ks b=false
section
variable {P : Program} {V : Env} {w : World} {C0 C : Ctx} {rs0 rs : RF} {fs : List Root} {ks : List Kill}
variable {R' : Type} {r : R'}
theorem Io.refl:Io w C rs fs ks C rs fs ks:=⟨fun _ _ _ _ _ h=>h,Nat.le_refl _,fun _ h=>h⟩
theorem Io.trans{C1 C2:Ctx}{rs1 rs2:RF}{fs1 fs2:List Root}{k1 k2:List Kill}(h:Io w C rs fs ks C1 rs1 fs1 k1)(k:Io w C1 rs1 fs1 k1 C2 rs2 fs2 k2):Io w C rs fs ks C2 rs2 fs2 k2:=
 ⟨fun b vs hl hh hn hb=>k.leaf b vs hl hh (fun q hq h1=>Nat.lt_of_lt_of_le (hn q hq h1) h.grow) (h.leaf b vs hl (k.ks b hh) hn hb),Nat.le_trans h.grow k.grow,fun b hb=>h.ks b (k.ks b hb)⟩
theorem abd(xs:List Kill):∀(a:AV),∀q∈(AV.kills xs a).names,q∈a.names:=by
 intro a
 induction a with
 |pair a b iha ihb=>
  intro q hq
  rw [kJ] at hq
  simp only [AV.names,List.mem_append] at hq ⊢
  exact hq.imp (iha q) (ihb q)
 |tcons a b iha ihb=>
  intro q hq
  rw [kZ] at hq
  simp only [AV.names,List.mem_append] at hq ⊢
  exact hq.imp (iha q) (ihb q)
 |_=>
  intro q hq
  rw [gu _ _ rfl] at hq
  cases hh:hit xs _ with
  |true=>rw [hh] at hq;cases hq
  |false=>rw [hh] at hq;exact hq
theorem AVC.ad8{w':World}{C C':Ctx}{rs rs':RF}{xs:List Kill}{N:ah→Prop}
  (h:∀a vs,a.dV=true→hit xs a=false→(∀q∈a.names,N q)→AVC w C rs a vs→AVC w' C' rs' a vs):∀(a:AV)(vs:List Value),(∀q∈a.names,N q)→AVC w C rs a vs→AVC w' C' rs' (AV.kills xs a) vs:=by
 intro a
 induction a with
 |pair a b iha ihb=>
  intro vs hn hv
  obtain ⟨v1,v2,rfl,h1,h2⟩:=hv
  rw [kJ]
  exact ⟨v1,v2,rfl,iha _ (fun q hq=>hn q (by simp [AV.names,hq])) h1,ihb _ (fun q hq=>hn q (by simp [AV.names,hq])) h2⟩
 |tcons a b=>intro vs _ hv;exact hv.elim
 |_=>
  intro vs hn hv
  rw [gu _ _ rfl]
  cases hx:hit xs _ with
  |true=>trivial
  |false=>exact h _ _ rfl hx hn hv
theorem Cu.ad8{w':World}{C C':Ctx}{rs rs':RF}{xs:List Kill}{N:ah→Prop}
  (h:∀a vs,a.dV=true→hit xs a=false→(∀q∈a.names,N q)→AVC w C rs a vs→AVC w' C' rs' a vs) {v:Value} {a:AV} (hn:∀q∈a.names,N q) (hv:Cu w C rs v a):Cu w' C' rs' v (AV.kills xs a):=by
 rcases hv with rfl|⟨ha,vs,rfl,hv⟩|⟨ha,hv,hc⟩
 ·left;exact rG xs
 ·right;left
  refine ⟨?_,vs,rfl,AVC.ad8 h _ _ hn hv⟩
  cases a with
  |pair a b=>rw [kJ];rfl
  |imm z k d=>
   rw [gu _ _ rfl]
   have:hit xs (.imm z k d)=false:=by simp only [hit,List.any_eq_false];intro x _;cases x<;>simp [Kill.hits]
   rw [this];exact ha
  |_=>simp [AV.agg] at ha
 ·have hl:a.dV=true:=by cases a<;>first|rfl|exact hv.elim|(simp [AV.agg] at ha;done)
  rw [gu _ _ hl]
  cases hx:hit xs a with
  |true=>left;rfl
  |false=>right;right;exact ⟨ha,h _ _ hl hx hn hv,hc⟩
theorem XC{rs rs':RF}{k:K}{av:AV}(h:∀q∈av.names,rs' q=rs q)(c:List k.den→Mask→U→List Kill→List ah→Option R'):gK rs' k [] av c=gK rs k [] av c:=by
 cases av with
 |ref q p=>
  have:look rs' [] q=look rs [] q:=h q (by simp [AV.names])
  simp only [gK,this]
 |slc q p lo n=>
  have hq:look rs' [] q=look rs [] q:=h q (by simp [AV.names])
  cases p with
  |nil=>simp only [gK,hq]
  |cons=>rfl
 |_=>rfl
theorem ag2(M:Moved w C0 rs0 C rs fs ks){k:K}{av:AV}{v:Value}(hl:av.dV=true)(hloc:av.isLocal=true)(hh:hit ks av=false)(hn:∀q∈av.names,q.1≠1)(hv:AVC w C0 rs0 av [v])
  {c:List k.den→Mask→U→List Kill→List ah→Option R'} (h:gK rs k [] av c=some r) :
  ∃xs m u' k1 g1 C',c xs m u' k1 g1=some r∧Moved w C0 rs0 C' (look rs u') (fs++[⟨false,.sl k,m,xs⟩]) (ks++k1)∧Io w C rs fs ks C' (look rs u') (fs++[⟨false,.sl k,m,xs⟩]) (ks++k1) ∧
   AVC w C' (cmb (look rs u') (fs++[⟨false,.sl k,m,xs⟩])) (.ref (fr fs.length) []) [v]:=by
 have hcur:=M.leaf av [v] hl hh hn hv
 have hcmb:∀q,q.1≠1→cmb rs fs q=rs q:=fun q hq=>if_neg hq
 rw [←XC (rs':=cmb rs fs) (fun q hq=>hcmb q (hn q hq)) c] at h
 have hlook0:look (cmb rs fs) []=cmb rs fs:=rfl
 obtain ⟨xs,m,u',k1,g1,C2,G,g,hown,Fd,henc,hkeys,hptr⟩:=yc (rs:=cmb rs fs) (u:=[]) M.mem hcur h
 rw [hlook0] at Fd hptr
 have hnames:∀q∈av.names,2≤q.1:=by
  intro q hq
  cases av with
  |ref q0 p=>
   simp only [AV.names,List.mem_singleton] at hq
   subst hq
   obtain ⟨q1,q2⟩:=q
   match q1,hloc with
   |q1+2,_=>simp
  |slc q0 p lo n=>
   simp only [AV.names,List.mem_singleton] at hq
   subst hq
   obtain ⟨q1,q2⟩:=q
   match q1,hloc with
   |q1+2,_=>simp
  |nil=>cases hq
  |emp=>cases hq
  |_=>simp [AV.isLocal] at hloc
 have hu0:∀q:ah,q.1<2→bT q u'=none:=fun q hq=>hkeys q (fun h=>by have:=hnames q h;omega)
 have hrs1:∀q,q.1≠1→look (cmb rs fs) u' q=look rs u' q:=by
  intro q hq
  unfold look
  cases bT q u' with
  |some z=>rfl
  |none=>exact hcmb q hq
 have hrs2:∀j,look (cmb rs fs) u' (fr j)=fs[j]?:=by
  intro j
  unfold look
  rw [hu0 (fr j) (by simp)]
  rfl
 let C':Ctx:=C2.with (fr fs.length) 0 [v] G
 have hcase:∀{q:ah}{z:Root},cmb (look rs u') (fs++[⟨false,.sl k,m,xs⟩]) q=some z→(q=fr fs.length∧z=⟨false,.sl k,m,xs⟩)∨(q≠fr fs.length∧look (cmb rs fs) u' q=some z):=by
  rintro ⟨q1,q2⟩ z hz
  unfold cmb at hz
  by_cases h1:q1=1
  ·subst h1
   simp only [if_true] at hz
   by_cases h2:q2=fs.length
   ·subst h2
    simp only [List.getElem?_append_right (Nat.le_refl _),Nat.sub_self,List.getElem?_cons_zero,Option.some.injEq] at hz
    exact .inl ⟨rfl,hz.symm⟩
   ·have hlt:q2<fs.length:=by
     have:=(List.getElem?_eq_some_iff.1 hz).1
     simp at this;omega
    rw [List.getElem?_append_left hlt] at hz
    exact .inr ⟨by intro h;cases h;exact h2 rfl,by rw [show ((1,q2):ah)=fr q2 from rfl,hrs2];exact hz⟩
  ·rw [if_neg h1] at hz
   exact .inr ⟨by intro h;cases h;exact h1 rfl,by rw [hrs1 _ h1];exact hz⟩
 have hptr1:∀q z,cmb (look rs u') (fs++[⟨false,.sl k,m,xs⟩]) q=some z→∀p∈aF z.k z.d,p.1≠1:=by
  intro q z hz p hp
  rcases hcase hz with ⟨rfl,rfl⟩|⟨_,h2⟩
  ·obtain ⟨q0,x,hx,hp0⟩:=hptr p hp
   exact M.ptr1 q0 x hx p hp0
  ·obtain ⟨z0,hz0,_,_,hp0⟩:=Fd.was q z h2
   exact M.ptr1 q z0 hz0 p (hp0 p hp)
 have hneF:∀{p:ah},p.1≠1→p≠fr fs.length:=by rintro p hp rfl;exact hp rfl
 have hGfree:∀{b:Nat},G b→¬C.Z b∧¬C.S b∧b<w.heap.size:=fun hb=>Fd.free M.mem hb
 have hmem:Mem w C' (cmb (look rs u') (fs++[⟨false,.sl k,m,xs⟩])):=by
  refine ⟨?_,?_,?_,?_,?_⟩
  ·intro q z hz
   rcases hcase hz with ⟨rfl,rfl⟩|⟨h1,h2⟩
   ·refine ⟨G,?_,by rw [Ctx.jy];exact .refl _,fun h=>by cases h⟩
    rw [Ctx.with_ρ0]
    show Enc w C'.θ C2.Z C2.S (.sl k) m xs [v] G
    rw [Fd.Z,Fd.S]
    exact henc.mono (.refl _) (.refl _) (.refl _) (fun _ _=>rfl) (fun p hp=>by rw [Ctx.with_θ (hneF (hptr1 _ _ hz p hp)),Fd.θ])
   ·exact (Fd.mem.ok q z h2).keep rfl rfl (Ctx.with_θ h1) (Ctx.with_ρ h1) (Ctx.jv h1) (fun p hp=>Ctx.with_θ (hneF (hptr1 _ _ hz p hp))) (fun _ _=>rfl)
  ·intro q q' z z' hz hz' hne
   rcases hcase hz with ⟨rfl,rfl⟩|⟨h1,h2⟩<;>rcases hcase hz' with ⟨rfl,rfl⟩|⟨k1,k2⟩
   ·exact absurd rfl hne
   ·rw [Ctx.jy,Ctx.jv k1];exact Fd.gdisj q' z' k2
   ·rw [Ctx.jy,Ctx.jv h1];exact (Fd.gdisj q z h2).symm
   ·rw [Ctx.jv h1,Ctx.jv k1];exact Fd.mem.disj q q' z z' h2 k2 hne
  ·intro q z b hz hb
   show ¬C2.Z b∧¬C2.S b∧_
   rcases hcase hz with ⟨rfl,rfl⟩|⟨h1,h2⟩
   ·rw [Ctx.jy] at hb;rw [Fd.Z,Fd.S];exact hGfree hb
   ·rw [Ctx.jv h1] at hb;exact Fd.mem.apart q z b h2 hb
  ·exact Fd.mem.ro
  ·intro q z hz p hp z2 hz2
   rcases hcase hz2 with ⟨rfl,rfl⟩|⟨k1,k2⟩
   ·exact absurd rfl (hptr1 q z hz _ hp)
   ·rcases hcase hz with ⟨rfl,rfl⟩|⟨h1,h2⟩
    ·obtain ⟨q0,x,hx,hp0⟩:=hptr p hp
     obtain ⟨z0,hz0,_,hm0,_⟩:=Fd.was p z2 k2
     rw [hm0];exact M.mem.ptr q0 x hx p hp0 z0 hz0
    ·exact Fd.mem.ptr q z h2 p hp z2 k2
 have hstage:∀b vs,b.dV=true→hit k1 b=false→(∀q∈b.names,q.1=1→q.2<fs.length)→AVC w C (cmb rs fs) b vs→AVC w C' (cmb (look rs u') (fs++[⟨false,.sl k,m,xs⟩])) b vs:=by
  intro b vs hl hh hn hb
  refine lC (C':=C') Fd.mem (fun q=>q=fr fs.length) rfl rfl (fun q hq=>Ctx.with_θ hq) (fun q hq=>Ctx.with_ρ hq) ?_ (fun _ _=>rfl) hl (fun q hq h=>by
   have:=hn q hq (by rw [h]);rw [h] at this;simp at this) (Fd.leaf b vs hl hh hb)
  intro q z hq hz
  rcases hcase hz with ⟨h,_⟩|⟨_,h2⟩
  ·exact absurd h hq
  ·exact h2
 refine ⟨xs,m,u',k1,g1,C',g,⟨Fd.Z.trans M.Z,Fd.S.trans M.S,fun i=>?_,hmem,?_,?_,hptr1,fun i=>?_⟩,⟨fun b vs hl hh hn hb=>?_,by simp,fun b hb=>?_⟩,?_⟩
 ·rw [Ctx.with_θ (by intro h;cases h),Ctx.with_ρ (by intro h;cases h),Fd.θ,Fd.ρ];exact M.pars i
 ·intro b vs hl hh hn hb
  rw [AU,Bool.or_eq_false_iff] at hh
  exact hstage b vs hl hh.2 (fun q hq h1=>absurd h1 (hn q hq)) (M.leaf b vs hl hh.1 hn hb)
 ·intro q z b hz hb
  rcases hcase hz with ⟨rfl,rfl⟩|⟨h1,h2⟩
  ·rw [Ctx.jy] at hb
   obtain ⟨q0,y0,hy0,hb0⟩:=Fd.gfoot b hb
   exact M.foot q0 y0 b hy0 hb0
  ·rw [Ctx.jv h1] at hb
   obtain ⟨z0,hz0,hs0,_⟩:=Fd.was q z h2
   exact M.foot q z0 b hz0 (hs0 b hb)
 ·unfold look
  rw [hu0 (par i) (by simp)]
  exact M.rs1 i
 ·rw [AU,Bool.or_eq_false_iff] at hh
  exact hstage b vs hl hh.2 hn hb
 ·rw [AU,Bool.or_eq_false_iff] at hb;exact hb.1
 ·refine ⟨v,rfl,fun z hz=>?_⟩
  rcases hcase hz with ⟨_,rfl⟩|⟨h,_⟩
  ·exact ⟨k,none,rfl,trivial,by rw [bM,Ctx.with_ρ0];rfl⟩
  ·exact absurd rfl h
theorem ahK{w:World}{C:Ctx}{rs:RF}{av:AV}{vs:List Value}(h:AVC w C rs av vs)(hl:av.isLocal=true):∃v,vs=[v]:=by
 cases av with
 |nil=>exact ⟨_,h⟩
 |emp=>obtain ⟨a,h⟩:=h;exact ⟨_,h⟩
 |ref=>obtain ⟨v,h,_⟩:=h;exact ⟨v,h⟩
 |slc=>obtain ⟨v,_,h,_⟩:=h;exact ⟨v,h⟩
 |_=>cases hl
structure aiX(w:World)(C0:Ctx)(rs0:RF)(C:Ctx)(rs:RF)(fs:List Root)(ks:List Kill)(av a':AV)(rs':RF)(fs':List Root)(ks':List Kill)(C':Ctx)(vs:List Value):Prop where
 moved:Moved w C0 rs0 C' rs' fs' ks'
 stage:Io w C rs fs ks C' rs' fs' ks'
 val:AVC w C' (cmb rs' fs') a' vs
 names:∀q∈a'.names,q.1=1→q.2<fs'.length
 agg:a'.agg=av.agg
theorem aiz(M:Moved w C0 rs0 C rs fs ks){q:ah}(hq:2≤q.1)(hh:hit ks (.ptr q [])=false){x:Root}(hx:rs q=some x)(hxm:x.mem=true){vs:List Value}(hv:AVC w C0 rs0 (.ptr q []) vs) :
  ∃C',Moved w C0 rs0 C' (look rs [(q,none)]) (fs++[x]) ks∧Io w C rs fs ks C' (look rs [(q,none)]) (fs++[x]) ks∧AVC w C' (cmb (look rs [(q,none)]) (fs++[x])) (.ptr (fr fs.length) []) vs:=by
 have hcur:=M.leaf (.ptr q []) vs rfl hh (by intro p hp;simp only [AV.names,List.mem_singleton] at hp;subst hp;omega) hv
 have hx0:cmb rs fs q=some x:=by unfold cmb;rw [if_neg (by omega)];exact hx
 let C':Ctx:=C.with (fr fs.length) (C.θ q) (C.ρ q) (C.F q)
 have hcase:∀{p:ah}{z:Root},cmb (look rs [(q,none)]) (fs++[x]) p=some z→(p=fr fs.length∧z=x)∨(p≠fr fs.length∧p≠q∧cmb rs fs p=some z):=by
  rintro ⟨q1,q2⟩ z hz
  unfold cmb at hz
  by_cases h1:q1=1
  ·subst h1
   simp only [if_true] at hz
   by_cases h2:q2=fs.length
   ·subst h2
    simp only [List.getElem?_append_right (Nat.le_refl _),Nat.sub_self,List.getElem?_cons_zero,Option.some.injEq] at hz
    exact .inl ⟨rfl,hz.symm⟩
   ·have hlt:q2<fs.length:=by
     have:=(List.getElem?_eq_some_iff.1 hz).1
     simp at this;omega
    rw [List.getElem?_append_left hlt] at hz
    refine .inr ⟨by intro h;cases h;exact h2 rfl,by rintro rfl;simp at hq,?_⟩
    unfold cmb;rw [if_pos rfl];exact hz
  ·rw [if_neg h1] at hz
   unfold look at hz
   simp only [bT] at hz
   by_cases hqq:((q1,q2):ah)=q
   ·rw [bH.2 hqq] at hz;cases hz
   ·rw [iC hqq] at hz
    refine .inr ⟨by intro h;cases h;exact h1 rfl,hqq,?_⟩
    unfold cmb;rw [if_neg h1];exact hz
 have hptr1:∀p z,cmb (look rs [(q,none)]) (fs++[x]) p=some z→∀t∈aF z.k z.d,t.1≠1:=by
  intro p z hz t ht
  rcases hcase hz with ⟨rfl,rfl⟩|⟨_,_,h2⟩
  ·exact M.ptr1 q z hx0 t ht
  ·exact M.ptr1 p z h2 t ht
 have hneF:∀{p:ah},p.1≠1→p≠fr fs.length:=by rintro p hp rfl;exact hp rfl
 have hmem:Mem w C' (cmb (look rs [(q,none)]) (fs++[x])):=by
  refine ⟨?_,?_,?_,?_,?_⟩
  ·intro p z hz
   rcases hcase hz with ⟨rfl,rfl⟩|⟨h1,_,h2⟩
   ·obtain ⟨G,g1,g2,g3⟩:=M.mem.ok q z hx0
    refine ⟨G,?_,by rw [Ctx.jy];exact g2,fun hm=>by rw [Ctx.with_θ0,Ctx.jy,Ctx.with_ρ0];exact g3 hm⟩
    rw [Ctx.with_ρ0]
    exact g1.mono (.refl _) (.refl _) (.refl _) (fun _ _=>rfl) (fun t ht=>by rw [Ctx.with_θ (hneF (hptr1 _ _ hz t ht))])
   ·exact (M.mem.ok p z h2).keep rfl rfl (Ctx.with_θ h1) (Ctx.with_ρ h1) (Ctx.jv h1) (fun t ht=>Ctx.with_θ (hneF (hptr1 _ _ hz t ht))) (fun _ _=>rfl)
  ·intro p p' z z' hz hz' hne
   rcases hcase hz with ⟨rfl,rfl⟩|⟨h1,h1',h2⟩<;>rcases hcase hz' with ⟨rfl,rfl⟩|⟨k1,k1',k2⟩
   ·exact absurd rfl hne
   ·rw [Ctx.jy,Ctx.jv k1];exact M.mem.disj q p' z z' hx0 k2 (Ne.symm k1')
   ·rw [Ctx.jy,Ctx.jv h1];exact M.mem.disj p q z z' h2 hx0 h1'
   ·rw [Ctx.jv h1,Ctx.jv k1];exact M.mem.disj p p' z z' h2 k2 hne
  ·intro p z b hz hb
   rcases hcase hz with ⟨rfl,rfl⟩|⟨h1,_,h2⟩
   ·rw [Ctx.jy] at hb;exact M.mem.apart q z b hx0 hb
   ·rw [Ctx.jv h1] at hb;exact M.mem.apart p z b h2 hb
  ·exact M.mem.ro
  ·intro p z hz t ht z2 hz2
   rcases hcase hz2 with ⟨rfl,rfl⟩|⟨k1,_,k2⟩
   ·exact absurd rfl (hptr1 p z hz _ ht)
   ·rcases hcase hz with ⟨rfl,rfl⟩|⟨_,_,h2⟩
    ·exact M.mem.ptr q z hx0 t ht z2 k2
    ·exact M.mem.ptr p z h2 t ht z2 k2
 have hstage:∀b vs,b.dV=true→(∀t∈b.names,t.1=1→t.2<fs.length)→AVC w C (cmb rs fs) b vs→AVC w C' (cmb (look rs [(q,none)]) (fs++[x])) b vs:=by
  intro b vs hl hn hb
  refine lC (C':=C') M.mem (fun t=>t=fr fs.length) rfl rfl (fun t ht=>Ctx.with_θ ht) (fun t ht=>Ctx.with_ρ ht) ?_ (fun _ _=>rfl) hl (fun t ht h=>by
   have:=hn t ht (by rw [h]);rw [h] at this;simp at this) hb
  intro t z ht hz
  rcases hcase hz with ⟨h,_⟩|⟨_,_,h2⟩
  ·exact absurd h ht
  ·exact h2
 refine ⟨C',⟨M.Z,M.S,fun i=>?_,hmem,?_,?_,hptr1,fun i=>?_⟩,⟨fun b vs hl _ hn hb=>hstage b vs hl hn hb,by simp,fun b hb=>hb⟩,?_⟩
 ·rw [Ctx.with_θ (by intro h;cases h),Ctx.with_ρ (by intro h;cases h)];exact M.pars i
 ·intro b vs hl hh hn hb
  exact hstage b vs hl (fun t ht h1=>absurd h1 (hn t ht)) (M.leaf b vs hl hh hn hb)
 ·intro p z b hz hb
  rcases hcase hz with ⟨rfl,rfl⟩|⟨h1,_,h2⟩
  ·rw [Ctx.jy] at hb;exact M.foot q z b hx0 hb
  ·rw [Ctx.jv h1] at hb;exact M.foot p z b h2 hb
 ·unfold look
  simp only [bT]
  rw [iC (by rintro rfl;simp at hq)]
  exact M.rs1 i
 ·obtain ⟨b,off,rfl,h0,hroot⟩:=hcur
  obtain ⟨rfl,rfl⟩:=h0 rfl
  refine ⟨_,_,rfl,fun _=>⟨by rw [Ctx.with_θ0],rfl⟩,fun z hz=>?_⟩
  rcases hcase hz with ⟨_,rfl⟩|⟨h,_⟩
  ·refine ⟨z.k,C.ρ q,at_nil _,dQ _ _ _,?_⟩
   rw [bM,Ctx.with_ρ0]
   unfold aV
   rw [if_pos hxm,Ctx.with_θ0]
  ·exact absurd rfl h
theorem Uy{rs:RF}{av b:AV}(h:uU rs av=some b):∃q x z,av=.ref q []∧q.1≠1∧rs q=some x∧x.mem=false∧x.m=.imm z∧x.k.plain=true∧b=.imm z x.k x.d:=by
 unfold uU at h
 split at h
 case h_2=>cases h
 case h_1 d j=>
 split at h
 case h_2=>cases h
 case h_1 x hx=>
 cases hm:x.mem with
 |true=>rw [hm] at h;cases h
 |false=>
 rw [hm] at h
 simp only [cond_false] at h
 split at h
 case h_2=>cases h
 case h_1 z hz=>
 cases hp:x.k.plain with
 |false=>rw [hp] at h;cases h
 |true=>
 rw [hp] at h
 simp only [cond_true,Option.some.injEq] at h
 exact ⟨(d+2,j),x,z,rfl,by simp,hx,hm,hz,hp,h.symm⟩
theorem ug(M:Moved w C0 rs0 C rs fs ks){e:Option K}{av:AV}(hl:av.dV=true)(hg:av.agg=false)(hn:∀q∈av.names,q.1≠1){vs:List Value}(hv:AVC w C0 rs0 av vs)
  {c:AV→RF→List Root→List Kill→Option R'}
  (h:(bif hit ks av then none else match uU rs av with
   |some b=>c b rs fs ks
   |none=>bif av.isLocal then (match e with
   |some (.sl k)=>gK rs k [] av fun xs m u' k1 _=>c (.ref (fr fs.length) []) (look rs u') (fs++[⟨false,.sl k,m,xs⟩]) (ks++k1)
   |some _=>none
   |none=>match av with
    |.nil=>c .nil rs fs ks
    |_=>none) else KA av ks rs fs c)=some r) :
  ∃a' rs' fs' ks' C',c a' rs' fs' ks'=some r∧aiX w C0 rs0 C rs fs ks av a' rs' fs' ks' C' vs:=by
 cases hh:hit ks av with
 |true=>rw [hh] at h;cases h
 |false=>
 rw [hh] at h
 simp only [cond_false] at h
 cases hfz:uU rs av with
 |some b=>
  rw [hfz] at h
  have hcur:=M.leaf av vs hl hh hn hv
  obtain ⟨q,x,z,rfl,hq1,hx,hxm,hmk,hpl,rfl⟩:=Uy hfz
  obtain ⟨v,rfl,hroot⟩:=hcur
  have hx':cmb rs fs q=some x:=by unfold cmb;rw [if_neg hq1];exact hx
  obtain ⟨e',base,hat,_,hloc⟩:=hroot x hx'
  rw [at_nil] at hat
  rw [bM] at hloc
  simp only [Option.some.injEq,Prod.mk.injEq] at hloc hat
  obtain ⟨G,hE,_,_⟩:=M.mem.ok q x hx'
  rw [hmk,hloc.1] at hE
  refine ⟨_,_,_,_,C,h,M,.refl,⟨hpl,hE.aia⟩,fun q hq=>(by cases hq),?_⟩
  show x.k.isAgg=false
  rw [hat];rfl
 |none=>
 rw [hfz] at h
 dsimp only at h
 cases hloc:av.isLocal with
 |true=>
  rw [hloc] at h
  simp only [cond_true] at h
  split at h
  case h_2=>cases h
  case h_3=>
   have hcur:=M.leaf av vs hl hh hn hv
   split at h
   ·exact ⟨_,_,_,_,C,h,M,.refl,hcur,fun q hq=>(by cases hq),rfl⟩
   ·simp at h
  case h_1 k=>
  obtain ⟨v,rfl⟩:=ahK hv hloc
  obtain ⟨xs,m,u',k1,g1,C',g,h1,h2,h3⟩:=ag2 M hl hloc hh hn hv h
  refine ⟨_,_,_,_,C',g,h1,h2,h3,fun q hq _=>?_,hg.symm⟩
  simp only [AV.names,List.mem_singleton] at hq
  subst hq
  simp
 |false=>
  rw [hloc] at h
  simp only [cond_false] at h
  have hcur:=M.leaf av vs hl hh hn hv
  unfold KA at h
  split at h
  ·exact ⟨_,_,_,_,C,h,M,.refl,hcur,fun q hq h1=>absurd h1 (hn q hq),rfl⟩
  ·exact ⟨_,_,_,_,C,h,M,.refl,hcur,fun q hq h1=>absurd h1 (hn q hq),rfl⟩
  ·exact ⟨_,_,_,_,C,h,M,.refl,hcur,fun q hq h1=>absurd h1 (hn q hq),rfl⟩
  ·split at h
   case h_2=>simp at h
   case h_1 x hx=>
   cases hxm:x.mem with
   |false=>rw [hxm] at h;simp at h
   |true=>
   rw [hxm] at h
   simp only [cond_true] at h
   obtain ⟨C',h1,h2,h3⟩:=aiz M (by simp) hh hx hxm hv
   refine ⟨_,_,_,_,C',h,h1,h2,h3,fun q hq _=>?_,rfl⟩
   simp only [AV.names,List.mem_singleton] at hq
   subst hq
   simp
  ·simp at h
theorem N7{ks:List Kill}{av:AV}(h:∀x:Kill,x.hits av=false):hit ks av=false:=by
 simp only [hit,List.any_eq_false]
 intro x _
 rw [h x];simp
theorem WL(a b:AV):∀q∈(AV.flatten a b).names,q∈a.names∨q∈b.names:=by
 intro q hq
 unfold AV.flatten at hq
 split at hq
 ·cases hq
 ·simpa [AV.names] using hq
theorem RU:∀(av:AV){e:Option K}{C:Ctx}{rs:RF}{fs:List Root}{ks:List Kill}{c:AV→RF→List Root→List Kill→Option R'}{vs:List Value},Moved w C0 rs0 C rs fs ks→(∀q∈av.names,q.1≠1)→AVC w C0 rs0 av vs →
  O6 e av ks rs fs c=some r→∃a' rs' fs' ks' C',c a' rs' fs' ks'=some r∧aiX w C0 rs0 C rs fs ks av a' rs' fs' ks' C' vs:=by
 intro av
 induction av with
 |imm z k d=>
  intro e C rs fs ks c vs M hn hv h
  exact ⟨_,_,_,_,C,h,M,.refl,M.leaf _ _ rfl (N7 fun x=>by cases x<;>rfl) hn hv,fun q hq=>(by cases hq),rfl⟩
 |nilp=>
  intro e C rs fs ks c vs M hn hv h
  exact ⟨_,_,_,_,C,h,M,.refl,M.leaf _ _ rfl (N7 fun x=>by cases x<;>rfl) hn hv,fun q hq=>(by cases hq),rfl⟩
 |pair a b iha ihb=>
  intro e C rs fs ks c vs M hn hv h
  simp only [O6] at h
  split at h
  case h_2=>simp at h
  case h_1 ka kb=>
  obtain ⟨v1,v2,rfl,h1,h2⟩:=hv
  obtain ⟨a',rs1,fs1,ks1,C1,h,A⟩:=iha M (fun q hq=>hn q (by simp [AV.names,hq])) h1 h
  obtain ⟨b',rs2,fs2,ks2,C2,h,B⟩:=ihb A.moved (fun q hq=>hn q (by simp [AV.names,hq])) h2 h
  refine ⟨_,_,_,_,C2,h,B.moved,A.stage.trans B.stage,AVC.flatten (AVC.ad8 (fun b vs hl hh hn hb=>B.stage.leaf b vs hl hh hn hb) _ _ A.names A.val) B.val,fun q hq h1=>?_,by rw [CG];rfl⟩
  rcases WL _ _ q hq with hq|hq
  ·exact Nat.lt_of_lt_of_le (A.names q (abd _ _ q hq) h1) B.stage.grow
  ·exact B.names q hq h1
 |tcons a b _ _=>intro e C rs fs ks c vs M hn hv h;exact hv.elim
 |tnil=>intro e C rs fs ks c vs M hn hv h;exact hv.elim
 |dead=>
  intro e C rs fs ks c vs M hn hv h
  exact ug M rfl rfl hn hv h
 |nil=>intro e C rs fs ks c vs M hn hv h;exact ug M rfl rfl hn hv h
 |emp=>intro e C rs fs ks c vs M hn hv h;exact ug M rfl rfl hn hv h
 |ref q p=>intro e C rs fs ks c vs M hn hv h;exact ug M rfl rfl hn hv h
 |slc q p lo k0=>intro e C rs fs ks c vs M hn hv h;exact ug M rfl rfl hn hv h
 |ptr q p=>intro e C rs fs ks c vs M hn hv h;exact ug M rfl rfl hn hv h
 |iptr z k d p=>intro e C rs fs ks c vs M hn hv h;exact ug M rfl rfl hn hv h
 |nn z k d=>intro e C rs fs ks c vs M hn hv h;exact ug M rfl rfl hn hv h
 |vw q p L=>intro e C rs fs ks c vs M hn hv h;exact ug M rfl rfl hn hv h
 |fn f caps=>intro e C rs fs ks c vs M hn hv h;exact ug M rfl rfl hn hv h
theorem Zu{av:AV}{e:Option K}(M:Moved w C0 rs0 C rs fs ks)(hn:∀q∈av.names,q.1≠1){v:Value}(hv:aT w C0 rs0 v av){c:AV→RF→List Root→List Kill→Option R'}(h:O6 e av ks rs fs c=some r) :
  ∃a' rs' fs' ks' C',c a' rs' fs' ks'=some r∧Moved w C0 rs0 C' rs' fs' ks'∧Io w C rs fs ks C' rs' fs' ks'∧Cu w C' (cmb rs' fs') v a'∧∀q∈a'.names,q.1=1→q.2<fs'.length:=by
 rcases hv with (rfl|⟨hg,vs,rfl,hA⟩|⟨hg,hA,hc⟩)|⟨vs,_,ht⟩
 ·simp only [O6] at h
  rw [N7 fun x=>by cases x<;>rfl] at h
  simp [AV.isLocal,KA,uU] at h
 ·obtain ⟨a',rs',fs',ks',C',h,A⟩:=RU av M hn hA h
  exact ⟨a',rs',fs',ks',C',h,A.moved,A.stage,.inr (.inl ⟨by rw [A.agg];exact hg,vs,rfl,A.val⟩),A.names⟩
 ·obtain ⟨a',rs',fs',ks',C',h,A⟩:=RU av M hn hA h
  exact ⟨a',rs',fs',ks',C',h,A.moved,A.stage,.inr (.inr ⟨by rw [A.agg];exact hg,A.val,hc⟩),A.names⟩
 ·cases av with
  |tnil=>simp only [O6] at h;rw [N7 fun x=>by cases x<;>rfl] at h;simp [AV.isLocal,KA,uU] at h
  |tcons a b=>simp only [O6] at h;cases hh:hit ks (.tcons a b)<;>rw [hh] at h<;>simp [AV.isLocal,KA,uU] at h
  |_=>exact ht.elim
theorem Xk:∀(l:List (AV×Option K))(vals:List Value){C:Ctx}{rs:RF}{fs:List Root}{ks:List Kill}{c:AV→RF→List Root→List Kill→Option R'},Moved w C0 rs0 C rs fs ks→XJ l=false→l.length=vals.length →
  (∀(i:Nat)(x:AV×Option K)(v:Value),l[i]?=some x→vals[i]?=some v→aT w C0 rs0 v x.1)→O7 l ks rs fs c=some r →
  ∃t rs' fs' ks' C',c t rs' fs' ks'=some r∧Moved w C0 rs0 C' rs' fs' ks'∧Io w C rs fs ks C' rs' fs' ks'∧PX w C' (cmb rs' fs') t vals:=by
 intro l
 induction l with
 |nil=>
  intro vals C rs fs ks c M _ hlen _ h
  have:vals=[]:=List.eq_nil_of_length_eq_zero hlen.symm
  subst this
  exact ⟨_,_,_,_,C,h,M,.refl,rfl⟩
 |cons x l ih=>
  intro vals C rs fs ks c M hfr hlen hv h
  obtain ⟨a,k⟩:=x
  cases vals with
  |nil=>simp at hlen
  |cons v vals=>
  simp only [XJ,Bool.or_eq_false_iff] at hfr
  have hn:∀q∈a.names,q.1≠1:=by
   intro q hq h1
   have:=hfr.1
   simp only [ai4,List.any_eq_false] at this
   exact this q hq (beq_iff.2 h1)
  simp only [O7] at h
  obtain ⟨a',rs1,fs1,ks1,C1,h,M1,S1,V1,N1⟩:=Zu M hn (hv 0 (a,k) v rfl rfl) h
  obtain ⟨t,rs2,fs2,ks2,C2,h,M2,S2,T2⟩:=ih vals M1 hfr.2 (by simpa using hlen) (fun i x v hx hvv=>hv (i+1) x v (by simpa using hx) (by simpa using hvv)) h
  exact ⟨_,_,_,_,C2,h,M2,S1.trans S2,v,vals,rfl,Cu.ad8 (fun b vs hl hh hn hb=>S2.leaf b vs hl hh hn hb) N1 V1,T2⟩
end
end Go.Abs
namespace Go.Abs
section
variable {P : Program} {V : Env}
theorem afl:∀(l:List AV)(k t:Nat),PN (X4 k l) t=if k≤t then (l[t-k]?).getD .dead else .dead:=by
 intro l
 induction l with
 |nil=>intro k t;simp [X4,PN]
 |cons a l ih=>
  intro k t
  simp only [X4,PN]
  by_cases h:t=k
  ·rw [beq_iff.2 h];subst h;simp
  ·rw [iB h]
   simp only [cond_false,ih]
   by_cases h2:k≤t
   ·rw [if_pos (by omega),if_pos h2,show t-k=(t-(k+1))+1 by omega];simp
   ·rw [if_neg (by omega),if_neg h2]
theorem ae7:∀(l:List Root)(k:Nat)(q:ah),O8 (X3 k l) q=if q.1=0∧k≤q.2 then l[q.2-k]? else none:=by
 intro l
 induction l with
 |nil=>intro k q;simp [X3,O8]
 |cons a l ih=>
  intro k q
  simp only [X3,O8]
  by_cases h:q=par k
  ·rw [bH.2 h];subst h;simp
  ·rw [iC h]
   simp only [cond_false,ih]
   obtain ⟨q1,q2⟩:=q
   by_cases h2:q1=0∧k≤q2
   ·have hne:q2≠k:=by rintro rfl;exact h (by rw [h2.1])
    rw [if_pos ⟨h2.1,by simp;omega⟩,if_pos h2]
    simp only
    rw [show q2-k=(q2-(k+1))+1 by omega];simp
   ·rw [if_neg h2,if_neg (fun h3=>h2 ⟨h3.1,by have:=h3.2;simp at this;omega⟩)]
theorem ade(l:List Root):O8 (X3 0 l)=Nq l:=by
 funext q
 rw [ae7]
 obtain ⟨q1,q2⟩:=q
 match q1 with
 |0=>simp [Nq]
 |q1+1=>simp [Nq]
theorem acL{m n:Nat}(hmn:m≤n):∀(c:Code),yt m c=true→yt n c=true:=by
 intro c
 induction c with
 |region id ops draw=>
  intro h
  simp only [yt,List.all_eq_true] at h ⊢
  refine fun o ho=>?_
  have h2:=h o ho
  cases hd:o.dst with
  |none=>rfl
  |some d=>
   rw [hd] at h2
   have h3:Nat.blt d m=true:=h2
   have h4:d+1≤m:=Nat.le_of_ble_eq_true h3
   show Nat.ble (d+1) n=true
   exact Nat.ble_eq_true_of_le (Nat.le_trans h4 hmn)
 |seq a b iha ihb=>intro h;simp only [yt,Bool.and_eq_true] at h ⊢;exact ⟨iha h.1,ihb h.2⟩
 |cond x a b iha ihb=>intro h;simp only [yt,Bool.and_eq_true] at h ⊢;exact ⟨iha h.1,ihb h.2⟩
 |block id a ih=>intro h;exact ih h
 |loop a ih=>intro h;exact ih h
 |_=>intro _;rfl
theorem Xj{rs:RF}:∀(n i:Nat){ps:List Root},BD rs i n=some ps→ps.length=n∧∀(j:Nat)(x:Root),ps[j]?=some x→rs (par (i+j))=some x:=by
 intro n
 induction n with
 |zero=>intro i ps h;simp only [BD,Option.some.injEq] at h;subst h;exact ⟨rfl,by simp⟩
 |succ n ih=>
  intro i ps h
  simp only [BD] at h
  split at h
  case h_2=>simp at h
  case h_1 x hx=>
  cases hr:BD rs (i+1) n with
  |none=>rw [hr] at h;simp at h
  |some ps'=>
   rw [hr] at h
   simp only [Option.map_some,Option.some.injEq] at h
   subst h
   obtain ⟨h1,h2⟩:=ih _ hr
   refine ⟨by simp [h1],fun j y hj=>?_⟩
   cases j with
   |zero=>simp only [List.getElem?_cons_zero,Option.some.injEq] at hj;subst hj;exact hx
   |succ j=>have:=h2 j y (by simpa using hj);rw [show i+(j+1)=i+1+j by omega];exact this
theorem agu{R:Type}(k:K)(d:k.den)(m:Mask)(c:(k':K)→k'.den→Mask→Option R):iX k d m [] c=c k d m:=by cases k<;>rfl
theorem abz{w0 w:World}{M0:BS}{n:Nat}{C0 C:Ctx}{st:St}{a:Act}(hT:gW P V)(R:Rel w0 M0 n C0 C st a w):∀(l:List ResultVar)(ts:List TypeId){vals:List (AV×Option K)},vW V st.tmps st.roots l ts=some vals →
  ∃vs:List Value,vs.length=vals.length∧(∀(i:Nat)(x:AV×Option K)(v:Value),vals[i]?=some x→vs[i]?=some v→aT w C st.roots v x.1)∧∀(g:ResultVar→Sem Value),(∀t,g (.tmp t)=pure (a.tmps.getD t undef))→(∀t T,g (.cell t T)=(do loadVar T (←asAddr (a.tmps.getD t undef))))→(List.mapM g l).run P w=.ok vs w:=by
 intro l
 induction l with
 |nil=>intro ts vals h;simp only [vW,Option.some.injEq] at h;subst h;exact ⟨[],rfl,by simp,fun _ _ _=>rfl⟩
 |cons r l ih=>
  intro ts vals h
  have step:∀(x:AV×Option K)(v:Value),(vW V st.tmps st.roots l ts.tail).map (x::·)=some vals→aT w C st.roots v x.1→(∀(g:ResultVar→Sem Value),(∀t,g (.tmp t)=pure (a.tmps.getD t undef))→(∀t T,g (.cell t T)=(do loadVar T (←asAddr (a.tmps.getD t undef))))→(g r).run P w=.ok v w) →
    ∃vs:List Value,vs.length=vals.length∧(∀(i:Nat)(x:AV×Option K)(v:Value),vals[i]?=some x→vs[i]?=some v→aT w C st.roots v x.1)∧∀(g:ResultVar→Sem Value),(∀t,g (.tmp t)=pure (a.tmps.getD t undef))→(∀t T,g (.cell t T)=(do loadVar T (←asAddr (a.tmps.getD t undef))))→(List.mapM g (r::l)).run P w=.ok vs w:=by
   intro x v hm hv hrun
   cases hr:vW V st.tmps st.roots l ts.tail with
   |none=>rw [hr] at hm;simp at hm
   |some vals'=>
    rw [hr] at hm
    simp only [Option.map_some,Option.some.injEq] at hm
    subst hm
    obtain ⟨vs,h1,h2,h3⟩:=ih _ hr
    refine ⟨v::vs,by simp [h1],fun i y u hy hu=>?_,fun g hg hg2=>by simp only [List.mapM_cons,Sem.run_bind,hrun g hg hg2,Result.andThen_ok,h3 g hg hg2,Sem.run_pure]⟩
    cases i with
    |zero=>simp only [List.getElem?_cons_zero,Option.some.injEq] at hy hu;subst hy;subst hu;exact hv
    |succ i=>exact h2 i y u (by simpa using hy) (by simpa using hu)
  cases r with
  |tmp t=>
   simp only [vW] at h
   exact step _ _ h (R.tm t) (fun g hg _=>by rw [hg];rfl)
  |cell t T=>
   simp only [vW] at h
   split at h
   case h_2=>simp at h
   case h_1 k q hk e1=>
   split at h
   case h_2=>simp at h
   case h_1 y hy=>
   split at h
   case isFalse=>simp at h
   case isTrue hc=>
   obtain ⟨hmem,hkk⟩:=hc
   obtain ⟨ti,hti,hki⟩:=Env.uM hk
   have hty:=hT.ty _ _ hti
   have hx:=R.tm t
   rw [e1] at hx
   obtain ⟨⟨b,off,hv,hbo,hroot⟩,_⟩:=hx.cell (by simp) rfl (by simp) (by simp)
   simp only [List.cons.injEq,and_true] at hv
   obtain ⟨rfl,rfl⟩:=hbo rfl
   obtain ⟨k',d,m,vs,b1,hp,hc2⟩:=iM (p:=[]) (c:=fun k' d m=>some ((⟨k',d⟩:Σ k:K,k.den),m)) (R.mem.ok _ _ hy) (agu _ _ _ _)
   simp only [Option.some.injEq,Prod.mk.injEq,Sigma.mk.injEq] at hc2
   obtain ⟨⟨rfl,hd⟩,rfl⟩:=hc2
   cases hd
   obtain ⟨k2,cs,g1,g2,g3⟩:=hroot y hy
   rw [hp.lc] at g3
   simp only [Option.some.injEq,Prod.mk.injEq] at g3
   obtain ⟨rfl,rfl⟩:=g3
   obtain ⟨F,he⟩:=hp.enc
   have hr:=Uf R.mem hy hp
   have hm:y.k.isAgg=false→Mi q y.k [] y.d y.m≠.dead→(valOf y.k vs).cells = #[valOf y.k vs]:=fun hg hd=>he.cellV (P6 hd) hg
   refine step _ (valOf y.k vs) h (aT.val hr.1 he.len hr.2 hm) ?_
   have hki:ti.k=y.k:=hki.trans hkk.symm
   have hrun:=BG (P:=P) hty hp.lies (by rw [hki];exact he.len) (v:=valOf y.k vs) (by rw [hki];exact rW he.len)
   intro g _ hg2
   rw [hg2,hv]
   simpa [Instr.loadAt,Instr.sureAddr,asAddr] using hrun
theorem abE{fn:Func}{w0 w:World}{M0:BS}{n:Nat}{C0 C:Ctx}{st:St}{a:Act}(hT:gW P V)(R:Rel w0 M0 n C0 C st a w){ts:List TypeId}{vals:List (AV×Option K)}(h:vW V st.tmps st.roots fn.results.toList ts=some vals) :
  ∃vs:List Value,vs.length=vals.length∧(∀(i:Nat)(x:AV×Option K)(v:Value),vals[i]?=some x→vs[i]?=some v→aT w C st.roots v x.1) ∧
   (results fn a.tmps).run P w=.ok (match vs with|[v]=>v|vs=>.tuple vs.toArray) w:=by
 obtain ⟨vs,h1,h2,h3⟩:=abz hT R _ _ h
 refine ⟨vs,h1,h2,?_⟩
 unfold results
 have he:fn.results=fn.results.toList.toArray:=by simp
 rw [he,List.mapM_toArray]
 simp only [Sem.run_bind,Sem.run_map]
 rw [h3 _ (fun t=>rfl) (fun t T=>rfl)]
 simp only [Result.andThen_ok,Sem.run_pure]
 cases vs with
 |nil=>rfl
 |cons v vl=>
  cases vl with
  |nil=>rfl
  |cons v2 vl=>simp
theorem Rel.Ez{w0 w:World}{M0:BS}{n:Nat}{C0 C:Ctx}{s:St}{a:Act}{V:Env}(h:Rel w0 M0 n C0 C s a w):∃C',Rel w0 M0 n C0 C' (Ez V s) a w:=by
 unfold Go.Abs.Ez
 split
 ·exact ⟨C,h⟩
 ·exact Rel.ags _ h
theorem aat{Γ:Glb}(hT:gW P V)(hE:XG P Γ V){f:FuncId}{fn:Func}{F:FnI}(hf:P.funcs[f]?=some fn)(hb:fn.body=some F.body)(hres:fn.results.toList=F.results)
  (hdst:yt fn.ntmps F.body=true) (hL:qC V F.loops F.body) (rw:List Nat):Contract P Γ f ⟨rw,fun ci=>.mat (bU V F ci) .ret,false⟩:=by
 intro w C ci co vals hM hptr hsz hvals hgl hG
 have hE:PW P Γ V w (vV C ci.roots) C:=⟨hE,fun b hb=>⟨hgl.1 b hb,fun ⟨i,x,hx,hF⟩=>(hM.apart (par i) x b hx hF).1 (hgl.1 b hb),hM.ro b (.inl (hgl.1 b hb))⟩,hgl.2⟩
 suffices hold:Calls P f vals w fun e w'=>match e with
   |.returned v=>∃C',Er w C ci co v w' C'
   |_=>False from hold.mono fun e w' h=>by
  cases e with
  |returned v=>obtain ⟨C',h⟩:=h;exact ⟨C',h,fun h=>nomatch h⟩
  |_=>exact h
 refine calls_of_wp hf hb ?_
 have hG:bU V F ci=some co:=by
  obtain ⟨o,ho⟩:∃o,bU V F ci=o:=⟨_,rfl⟩
  have hG:(Tre.mat (bU V F ci) Tre.ret).run some=some co:=hG
  rw [ho] at hG ⊢
  cases o with
  |none=>cases hG
  |some x=>exact hG
 unfold bU at hG
 have hn:fn.ntmps≤(vals++Array.replicate (fn.ntmps-vals.size) undef).size:=by simp;omega
 have hinit:Rel w (vV C ci.roots) (vals++Array.replicate (fn.ntmps-vals.size) undef).size C C (agE ci) { tmps:=vals++Array.replicate (fn.ntmps-vals.size) undef,defers:=[] } w:=by
  have hroots:(agE ci).roots=Nq ci.roots:=ade _
  refine ⟨⟨.refl _,rfl,fun _=>rfl⟩,by rw [hroots];exact hM,fun t=>?_,.refl _ _,fun q x b hq hb=>?_,fun q x hq p hp h1=>?_,rfl,rfl,fun _ _ _ _=>rfl,fun b hb=>.inl hb⟩
  ·rw [hroots]
   show aT w C _ _ (PN (X4 0 ci.args) t)
   rw [afl]
   simp only [Nat.zero_le,if_true,Nat.sub_zero]
   cases ht:ci.args[t]? with
   |none=>exact aT.dead
   |some av=>
    simp only [Option.getD_some]
    have hlt:t<vals.size:=by rw [hsz];exact (List.getElem?_eq_some_iff.1 ht).1
    have:(vals++Array.replicate (fn.ntmps-vals.size) undef).getD t undef=vals[t]:=by
     rw [Array.getD_eq_getD_getElem?,Array.getElem?_append_left hlt,Array.getElem?_eq_getElem hlt];rfl
    rw [this]
    exact hvals t _ av (Array.getElem?_eq_getElem hlt) ht
  ·rw [hroots] at hq
   obtain ⟨q1,q2⟩:=q
   match q1,hq with
   |0,hq=>exact .inr ⟨q2,x,hq,hb⟩
   |q1+1,hq=>cases hq
  ·rw [hroots] at hq
   obtain ⟨q1,q2⟩:=q
   match q1,hq with
   |0,hq=>have:=hptr x (List.mem_of_getElem? hq) p hp;omega
   |q1+1,hq=>cases hq
 refine aem hT hE F.body (acL hn _ hdst) hL (fun e s' a' w' C' hc R'=>?_) hinit hG
 have hfin:(match vW V (Ez V s').tmps (Ez V s').roots F.results F.types with
   |none=>none
   |some vals=>bif (Ez V s').pins 1||XJ vals then none else
    O7 vals [] (Ez V s').roots [] fun r rs fs _=>match BD rs 0 ci.roots.length with
     |none=>none
     |some ps=>bif rM ps.length fs.length ps&&rM ps.length fs.length fs then some (⟨one r,ps,fs⟩:au) else none)=some co→bodyPost P fn (fun e w'=>match e with
   |.returned v=>∃C',Er w C ci co v w' C'
   |_=>False) .ret a' w':=by
  clear hc
  obtain ⟨C',R'⟩:=R'.Ez
  generalize Ez V s'=s' at R'
  intro hc
  split at hc
  case h_1=>simp at hc
  case h_2 _ rv hrv=>
  cases hchk:(s'.pins 1||XJ rv) with
  |true=>rw [hchk] at hc;simp at hc
  |false=>
  rw [hchk] at hc
  simp only [cond_false] at hc
  simp only [Bool.or_eq_false_iff] at hchk
  rw [←hres] at hrv
  obtain ⟨vl,hsl1,hsl2,hsl3⟩:=abE hT R' hrv
  refine ⟨R'.defers,_,hsl3,?_⟩
-- the state as the start of the results' way
  have hp1:∀q y,s'.roots q=some y→∀p∈aF y.k y.d,p.1≠1:=by
   intro q y hy p hp h1
   have:=R'.pins q y hy p hp (by omega)
   rw [h1,hchk.1] at this;cases this
  have hsub:∀q y,cmb s'.roots [] q=some y→s'.roots q=some y:=by
   intro q y h
   unfold cmb at h
   split at h
   ·simp at h
   ·exact h
  have hM0:Moved w' C' s'.roots C' s'.roots [] []:=by
   refine ⟨rfl,rfl,fun _=>⟨rfl,rfl⟩,⟨fun q y h=>R'.mem.ok q y (hsub q y h),fun q q' y y' h h'=>R'.mem.disj q q' y y' (hsub q y h) (hsub q' y' h'),fun q y b h=>R'.mem.apart q y b (hsub q y h),R'.mem.ro,fun q y h p hp z hz=>R'.mem.ptr q y (hsub q y h) p hp z (hsub p z hz)⟩,
    fun b vs hl _ _ hb=>lC R'.mem (fun _=>False) rfl rfl (fun _ _=>rfl) (fun _ _=>rfl) (fun q y _ h=>hsub q y h) (fun _ _=>rfl) hl (fun _ _ h=>h) hb,
    fun q y b h hb=>⟨q,y,hsub q y h,hb⟩,fun q y h=>hp1 q y (hsub q y h),fun _=>rfl⟩
  obtain ⟨tv,rs2,fs2,ks2,C2,hc,M2,S2,T2⟩:=Xk rv vl hM0 hchk.2 hsl1.symm hsl2 hc
  split at hc
  case h_1=>simp at hc
  case h_2 _ ps hps=>
  obtain ⟨hpl,hps2⟩:=Xj _ _ hps
  cases hchk3:(rM ps.length fs2.length ps&&rM ps.length fs2.length fs2) with
  |false=>rw [hchk3] at hc;simp at hc
  |true=>
  rw [hchk3] at hc
  simp only [cond_true,Option.some.injEq] at hc
  subst hc
  have hout:∀q y,zR ⟨one tv,ps,fs2⟩ q=some y→cmb rs2 fs2 q=some y:=by
   rintro ⟨q1,q2⟩ y hq
   match q1,hq with
   |0,hq=>have:=hps2 q2 y hq;rw [Nat.zero_add] at this;exact this
   |1,hq=>exact hq
   |q1+2,hq=>cases hq
  have hval:∀b vs,b.dV=true→hit [] b=false→AVC w' C2 (cmb rs2 fs2) b vs→AVC w' C2 (zR ⟨one tv,ps,fs2⟩) b vs:=
   fun b vs hl _ hb=>lC M2.mem (fun _=>False) rfl rfl (fun _ _=>rfl) (fun _ _=>rfl) (fun q y _ h=>hout q y h) (fun _ _=>rfl) hl (fun _ _ h=>h) hb
  refine ⟨C2,fun b hb=>(by rw [M2.Z];exact R'.ext.Z b hb),M2.S.trans R'.ext.S,fun i=>(M2.pars i).1.trans (R'.ext.θ i),
   ⟨fun q y h=>M2.mem.ok q y (hout q y h),fun q q' y y' h h'=>M2.mem.disj q q' y y' (hout q y h) (hout q' y' h'),fun q y b h=>M2.mem.apart q y b (hout q y h),M2.mem.ro,fun q y h p hp z hz=>M2.mem.ptr q y (hout q y h) p hp z (hout p z hz)⟩,
   ?_,fun i x hx hm=>?_,R'.kept,fun q y b hq hb=>?_,fun b hb=>R'.zn b (by rw [←M2.Z];exact hb)⟩
  ·have hT2:=PX.step hval _ _ T2
   rw [Ku] at hT2
   show aT w' C2 _ _ (one tv)
   cases tv with
   |tnil=>
    have:vl=[]:=hT2
    subst this
    exact .inr ⟨[],rfl,rfl⟩
   |tcons x y=>
    obtain ⟨v,l,rfl,h1,h2⟩:=hT2
    cases y with
    |tnil=>
     have:l=[]:=h2
     subst this
     exact .inl h1
    |tcons x2 y2=>
     obtain ⟨v2,l2,rfl,h3,h4⟩:=h2
     exact .inr ⟨v::v2::l2,rfl,v,_,rfl,h1,v2,l2,rfl,h3,h4⟩
    |_=>exact h2.elim
   |_=>exact hT2.elim
  ·have h1:=hps2 i x hx
   rw [Nat.zero_add,M2.rs1 i] at h1
   rw [(M2.pars i).2]
   exact R'.parρ i x h1 hm
  ·obtain ⟨q0,y0,h1,h2⟩:=M2.foot q y b (hout q y hq) hb
   exact R'.foot q0 y0 b h1 h2
 cases e with
 |exit _=>simp at hc
 |normal=>exact hfin hc
 |ret=>exact hfin hc
end
end Go.Abs
namespace Go.Abs
def Wt:K→List Value→Option (List Value)
 |.int ik,.int k n::l=>bif decide (k=ik)&&decide (n=0) then some l else none
 |.bool,.bool false::l=>some l
 |.str,.string ⟨⟨[]⟩⟩::l=>some l
 |.ptr,.pointer none::l=>some l
 |.fn,.nilFunc::l=>some l
 |.sl _,.slice none 0 0::l=>some l
 |.unit,l=>some l
 |.pair a b,l=>match Wt a l with
  |some l=>Wt b l
  |none=>none
 |_,_=>none
theorem adK:∀{k:K}{l l':List Value},Wt k l=some l'→l=k.zeroCells++l':=by
 intro k
 induction k with
 |pair a b iha ihb=>
  intro l l' h
  simp only [Wt] at h
  split at h
  ·rename_i m hm
   rw [iha hm,ihb h];simp [K.zeroCells]
  ·cases h
 |int ik=>
  intro l l' h
  unfold Wt at h
  split at h<;>first|(cases h;done)|skip
  all_goals try (rename_i heq;cases heq)
  cases hc:(decide (_=ik)&&decide (_=(0:Int))) with
  |false=>rw [hc] at h;cases h
  |true=>
   rw [hc] at h
   simp only [cond_true,Option.some.injEq] at h
   simp only [Bool.and_eq_true,decide_eq_true_eq] at hc
   obtain ⟨rfl,rfl⟩:=hc
   subst h
   rfl
 |unit=>intro l l' h;cases h;rfl
 |_=>
  intro l l' h
  unfold Wt at h
  split at h<;>first|(cases h;done)|skip
  all_goals try (rename_i heq;cases heq)
  all_goals (cases h;first|rfl|simp [K.zeroCells])
def fieldsB(P:Program):List Field→K→Nat→Bool
 |[],.unit,_=>true
 |f::fs,.pair a b,off=>Nat.beq f.offset off&&!Nat.beq a.size 0&&(match P.info? f.type with
  |some i=>Nat.beq i.size a.size&&decide (aae P f.type=some a.isAgg)
  |none=>false)&&fieldsB P fs b (off+a.size)
 |_,_,_=>false
theorem NV{P:Program}:∀(fs:List Field){k:K}{off:Nat},fieldsB P fs k off=true→tT P fs k off:=by
 intro fs
 induction fs with
 |nil=>intro k off h;cases k<;>first|trivial|cases h
 |cons f fs ih=>
  intro k off h
  cases k<;>first|(cases h;done)|skip
  rename_i a b
  simp only [fieldsB,Bool.and_eq_true,Bool.not_eq_true'] at h
  obtain ⟨⟨⟨h1,h2⟩,h3⟩,h4⟩:=h
  refine ⟨Nat.eq_of_beq_eq_true h1,(fun h0=>by rw [h0] at h2;cases h2),?_,ih h4⟩
  split at h3
  ·rename_i i hi;simp only [Bool.and_eq_true,decide_eq_true_eq] at h3;exact ⟨i,hi,Nat.eq_of_beq_eq_true h3.1,h3.2⟩
  ·cases h3
def afV(P:Program)(V:Env)(ti:TI)(d:TypeDesc):Bool:=
 match ti.k,d with
 |.int ik,.int k=>decide (k=ik)
 |.bool,.bool=>true
 |.str,.string=>true
 |.ptr,.pointer _=>true
 |.fn,.func ..=>true
 |.sl e,.slice t=>Nat.beq t ti.elem&&(match V.ti ti.elem with
  |some te=>decide (te.k=e)&&!Nat.beq te.k.size 0
  |none=>false)
 |.unit,.struct fs=>fieldsB P fs.toList .unit 0
 |.pair a b,.struct fs=>fieldsB P fs.toList (.pair a b) 0
 |_,_=>false
theorem acC{P:Program}{V:Env}{ti:TI}{d:TypeDesc}(h:afV P V ti d=true):DOK P V ti d:=by
 unfold afV at h
 unfold DOK
 cases hk:ti.k<;>simp only [hk] at h ⊢ <;> cases d<;>simp only [] at h<;>first|(cases h;done)|skip
 ·rw [of_decide_eq_true h]
 ·rfl
 ·rfl
 ·exact ⟨_,rfl⟩
 ·exact ⟨_,_,_,rfl⟩
 ·simp only [Bool.and_eq_true] at h
  obtain ⟨h1,h2⟩:=h
  refine ⟨by rw [Nat.eq_of_beq_eq_true h1],?_⟩
  split at h2
  ·rename_i te hte
   simp only [Bool.and_eq_true,decide_eq_true_eq,Bool.not_eq_true'] at h2
   exact ⟨te,hte,h2.1,(fun h0=>by rw [h0] at h2;cases h2.2)⟩
  ·cases h2
 ·exact ⟨_,rfl,NV _ h⟩
 ·exact ⟨_,rfl,NV _ h⟩
def ahS(P:Program):List Field→K→Nat→Bool
 |[],.unit,_=>true
 |f::fs,.pair (.int k) b,off=>!(f.name =="_")&&Nat.beq f.offset off&&(match P.underlying f.type with
  |some (.int k')=>decide (k'=k)
  |_=>false)&&ahS P fs b (off+1)
 |_,_,_=>false
theorem aeD{P:Program}:∀(fs:List Field){k:K}{off:Nat},ahS P fs k off=true→EqF P fs k off:=by
 intro fs
 induction fs with
 |nil=>intro k off h;cases k<;>first|trivial|cases h
 |cons f fs ih=>
  intro k off h
  cases k<;>first|(cases h;done)|skip
  rename_i a b
  cases a<;>first|(cases h;done)|skip
  simp only [ahS,Bool.and_eq_true,Bool.not_eq_true'] at h
  obtain ⟨⟨⟨h1,h2⟩,h3⟩,h4⟩:=h
  refine ⟨by simpa using h1,Nat.eq_of_beq_eq_true h2,?_,ih h4⟩
  split at h3
  ·rename_i k' hk';rw [hk',of_decide_eq_true h3]
  ·cases h3
def eqB(P:Program)(T:Nat)(k:K):Bool:=!k.ints||((match P.underlying T with
 |some (.struct fs)=>ahS P fs.toList k 0
 |_=>false)&&!P.stoodInHeld T&&!P.eqGuardType P.depth T)
theorem agn{P:Program}{T:Nat}{k:K}(h:eqB P T k=true)(hk:k.ints=true):aja P T k:=by
 unfold eqB at h
 rw [hk,Bool.not_true,Bool.false_or] at h
 simp only [Bool.and_eq_true,Bool.not_eq_true'] at h
 obtain ⟨⟨h1,h2⟩,h3⟩:=h
 refine ⟨?_,h2,h3⟩
 split at h1
 ·rename_i fs hfs;exact ⟨fs,hfs,aeD _ h1⟩
 ·cases h1
def tyB(P:Program)(V:Env)(T:Nat)(ti:TI):Bool:=
 match P.info? T,P.underlying T with
 |some i,some d=>Nat.beq i.size ti.k.size&&Nat.beq i.bytes ti.bytes&&(match i.zero with
  |some z=>(match Wt ti.k z.cells.toList with
   |some []=>true
   |_=>false)
  |none=>false)&&afV P V ti d&&eqB P T ti.k
 |_,_=>false
theorem ahr{P:Program}{V:Env}{T:Nat}{ti:TI}(h:tyB P V T ti=true):TT P V T ti:=by
 unfold tyB at h
 split at h
 ·rename_i i d hi hd
  simp only [Bool.and_eq_true] at h
  obtain ⟨⟨⟨⟨h1,h2⟩,h3⟩,h4⟩,h5⟩:=h
  split at h3
  ·rename_i z hz
   split at h3
   ·rename_i hz2
    have:=adK hz2
    rw [List.append_nil] at this
    exact ⟨⟨i,z,hi,Nat.eq_of_beq_eq_true h1,Nat.eq_of_beq_eq_true h2,hz,this⟩,⟨d,hd,acC h4⟩,agn h5⟩
   ·cases h3
  ·cases h3
 ·cases h
def ZX(P:Program)(V:Env):List (Nat×TI)→Bool
 |[]=>true
 | (t,ti)::l=>tyB P V t ti&&ZX P V l
theorem acp{α:Type}{t:Nat}{x:α}:∀(l:List (Nat×α)),iA t l=some x→(t,x)∈l:=by
 intro l
 induction l with
 |nil=>intro h;cases h
 |cons y l ih=>
  intro h
  obtain ⟨t',y⟩:=y
  simp only [iA] at h
  by_cases ht:t=t'
  ·rw [beq_iff.2 ht] at h
   simp only [cond_true,Option.some.injEq] at h
   subst h;subst ht;simp
  ·rw [iB ht] at h
   exact List.mem_cons_of_mem _ (ih h)
theorem afr{P:Program}{V:Env}:∀(l:List (Nat×TI)),ZX P V l=true→∀t ti,(t,ti)∈l→TT P V t ti:=by
 intro l
 induction l with
 |nil=>intro _ t ti h;cases h
 |cons x l ih=>
  intro h t ti hm
  obtain ⟨t0,ti0⟩:=x
  simp only [ZX,Bool.and_eq_true] at h
  rcases List.mem_cons.1 hm with he|hm
  ·cases he;exact ahr h.1
  ·exact ih h.2 t ti hm
theorem aht{P:Program}{V:Env}(h:ZX P V V.τ=true)(hm:P.follows .mixedOrders=true):gW P V:=
 ⟨fun _ _ hti=>afr _ h _ _ (acp _ hti),hm⟩
theorem aiU{P:Program}{τ:List (Nat×TI)}{E E':List (Nat×Ctr)}{Z Z':List (Nat×List Frz)}{t:Nat}{ti:TI}(h:tyB P ⟨τ,E,Z⟩ t ti=true):tyB P ⟨τ,E',Z'⟩ t ti=true:=h
theorem ahs{P:Program}{τ:List (Nat×TI)}{E:List (Nat×Ctr)}{Z:List (Nat×List Frz)}(h:ZX P ⟨τ,[],[]⟩ τ=true):ZX P ⟨τ,E,Z⟩ τ=true:=by
 have key:∀l,ZX P ⟨τ,[],[]⟩ l=true→ZX P ⟨τ,E,Z⟩ l=true:=by
  intro l
  induction l with
  |nil=>intro _;rfl
  |cons x l ih=>
   intro h
   obtain ⟨t,ti⟩:=x
   simp only [ZX,Bool.and_eq_true] at h ⊢
   exact ⟨aiU h.1,ih h.2⟩
 exact key τ h
theorem aG{P:Program}{Γ:Glb}{τ:List (Nat×TI)}{Z:List (Nat×List Frz)}:XG P Γ ⟨τ,[],Z⟩:=fun f q h=>by cases h
theorem ay{P:Program}{Γ:Glb}{τ:List (Nat×TI)}{E:List (Nat×Ctr)}{Z:List (Nat×List Frz)}{f:Nat}{q:Ctr}(h:Contract P Γ f q)(he:Enters P f)(hE:XG P Γ ⟨τ,E,Z⟩):XG P Γ ⟨τ,(f,q)::E,Z⟩:=by
 intro g q' hg
 simp only [Env.ctr,iA] at hg
 by_cases hfg:g=f
 ·rw [beq_iff.2 hfg] at hg
  simp only [cond_true,Option.some.injEq] at hg
  subst hg;subst hfg;exact ⟨h,he⟩
 ·rw [iB hfg] at hg
  exact hE g q' hg
theorem Contract.weaken{P:Program}{Γ:Glb}{f:FuncId}{q q':Ctr}(h:Contract P Γ f q)(hq:∀ci co,(q'.G ci).run some=some co→(q.G ci).run some=some co)(hs:q'.soft=false:=by rfl):Contract P Γ f q':=
 fun w C ci co vals h1 h2 h3 h4 hg h5=>(h w C ci co vals h1 h2 h3 h4 hg (hq ci co h5)).mono fun e w' k=>by
  cases e with
  |returned v=>obtain ⟨C',k,_⟩:=k;exact ⟨C',k,fun h=>by rw [hs] at h;cases h⟩
  |_=>exact k
end Go.Abs
namespace Go.Abs
open Go.ChangeShapes Go.WideShapes Go.RowKit
def K.wf:(k:K)→k.den→Prop
 |.int ik,n=>(Lit.int ik n).wf=true
 |.str,s=>s.size≤maxLen
 |.sl e,xs=>xs.length≤maxLen∧∀x∈xs,e.wf x
 |.pair a b,d=>a.wf d.1∧b.wf d.2
 |_,_=>True
def jZ(P:Program):K→TypeId ⊕ (List Field×Nat)→Bool
 |.int ik,.inl T=>match P.underlying T with
  |some (.int k)=>decide (k=ik)
  |_=>false
 |.bool,.inl T=>match P.underlying T with
  |some .bool=>true
  |_=>false
 |.str,.inl T=>match P.underlying T with
  |some .string=>true
  |_=>false
 |.sl e,.inl T=>match P.underlying T with
  |some (.slice t)=>Nat.beq (P.cellsOf t) e.size&&Nat.blt 0 e.size&&jZ P e (.inl t)
  |_=>false
 |.pair a b,.inl T=>match P.underlying T with
  |some (.struct fs)=>Nat.beq (P.cellsOf T) (K.pair a b).size&&(match fs.toList with
   |f::l=>Nat.beq f.offset 0&&Nat.beq (P.cellsOf f.type) a.size&&jZ P a (.inl f.type)&&jZ P b (.inr (l,a.size))
   |[]=>false)
  |_=>false
 |.pair a b,.inr (f::l,off)=>Nat.beq f.offset off&&Nat.beq (P.cellsOf f.type) a.size&&jZ P a (.inl f.type)&&jZ P b (.inr (l,off+a.size))
 |.unit,.inr ([],_)=>true
 |_,_=>false
section
variable {P : Program} {w : World} {H : Type} {enc : TypeId × Value → H} {held : Bool} {θ : ah → Nat} {S : BS}
theorem Rl{a:Addr}{n:Nat}{cs:List Value}(h:w.cells? 0 a n=some cs)(hn:0<n):∃c T fz,w.heap[a.block]?=some (.cells c T fz)∧a.spot=none∧a.off+n≤c.size∧cs=sub c a.off n:=by
 obtain ⟨_,hl,hc⟩:=World.cells?_some h
 have h0:=hc 0 hn
 have e0:a.add 0=a:=by simp [Addr.add]
 rw [e0] at h0
 have hsome:∃v,cs[0]?=some v:=⟨cs[0]'(by omega),List.getElem?_eq_getElem _⟩
 obtain ⟨v0,hv0⟩:=hsome
 rw [hv0] at h0
 unfold World.cell? at h0
 split at h0
 case h_2=>cases h0
 case h_1 c T fz hb=>
 split at h0
 ·cases h0
 ·rename_i hs
  have hs:a.spot=none:=by cases hh:a.spot with
   |none=>rfl
   |some x=>rw [hh] at hs;exact absurd rfl hs
  have hget:∀i,i<n→c[a.off+i]?=cs[i]?:=by
   intro i hi
   have:=hc i hi
   rw [←this]
   unfold World.cell?
   have hblk:(a.add i).block=a.block:=by unfold Addr.add;split<;>rfl
   have hsp:(a.add i).spot=none:=by unfold Addr.add;split<;>first|exact hs|rfl
   have hoff:(a.add i).off=a.off+i:=by unfold Addr.add;split<;>simp_all
   rw [hblk,hb]
   simp only [hsp,hoff,Option.isSome_none,Bool.false_eq_true,if_false]
  have hsize:a.off+n≤c.size:=by
   have:=hget (n-1) (by omega)
   rw [List.getElem?_eq_getElem (by omega)] at this
   have:=(Array.getElem?_eq_some_iff.1 this).1
   omega
  refine ⟨c,T,fz,hb,hs,hsize,?_⟩
  apply List.ext_getElem?
  intro i
  by_cases hi:i<n
  ·rw [←hget i hi]
   unfold sub
   rw [List.getElem?_take_of_lt hi,List.getElem?_drop,Array.getElem?_toList]
  ·rw [List.getElem?_eq_none (by omega),List.getElem?_eq_none (by rw [pJ hsize];omega)]
theorem ahq:∀(k:K),
  (∀(T:TypeId)(n:Nat)(cs:List Value)(x:DataW H×List MemPlace),jZ P k (.inl T)=true→DataW.trod enc P w 0 (fun _=>true) held n T cs=some x →
   ∃d:k.den,Enc w θ (fun b=>b<w.heap.size) S k (.imm true) d cs noB∧k.wf d) ∧
  (∀(fs:List Field)(off n:Nat)(cs:List Value),jZ P k (.inr (fs,off))=true→cs.length=off+k.size →
   (∀f∈fs,∃x,DataW.trod enc P w 0 (fun _=>true) held n f.type ((cs.drop f.offset).take (P.cellsOf f.type))=some x) →
   ∃d:k.den,Enc w θ (fun b=>b<w.heap.size) S k (.imm true) d (cs.drop off) noB∧k.wf d):=by
 intro k
 induction k with
 |int ik=>
  refine ⟨fun T n cs x h ht=>?_,fun fs off n cs h=>by simp [jZ] at h⟩
  simp only [jZ] at h
  split at h
  ·rename_i k hu
   have:=of_decide_eq_true h
   subst this
   obtain ⟨n,rfl,_,hw⟩:=DataW.trod_int hu ht
   exact ⟨n,rfl,hw⟩
  ·cases h
 |bool=>
  refine ⟨fun T n cs x h ht=>?_,fun fs off n cs h=>by simp [jZ] at h⟩
  simp only [jZ] at h
  split at h
  ·rename_i hu
   obtain ⟨b,rfl,_⟩:=DataW.trod_bool hu ht
   exact ⟨b,rfl,trivial⟩
  ·cases h
 |str=>
  refine ⟨fun T n cs x h ht=>?_,fun fs off n cs h=>by simp [jZ] at h⟩
  simp only [jZ] at h
  split at h
  ·rename_i hu
   obtain ⟨s,rfl,_,hw⟩:=DataW.trod_string hu ht
   exact ⟨s,rfl,hw⟩
  ·cases h
 |ptr=>exact ⟨fun T n cs x h=>by simp [jZ] at h,fun fs off n cs h=>by simp [jZ] at h⟩
 |fn=>exact ⟨fun T n cs x h=>by simp [jZ] at h,fun fs off n cs h=>by simp [jZ] at h⟩
 |unit=>
  refine ⟨fun T n cs x h=>by simp [jZ] at h,fun fs off n cs h hl _=>?_⟩
  refine ⟨(),?_,trivial⟩
  show cs.drop off=[]
  have:cs.length=off:=hl
  exact List.drop_eq_nil_of_le (by omega)
 |sl e ih=>
  refine ⟨fun T n cs x h ht=>?_,fun fs off n cs h=>by simp [jZ] at h⟩
  simp only [jZ] at h
  split at h
  case h_2=>cases h
  case h_1 t hu=>
  simp only [Bool.and_eq_true] at h
  obtain ⟨⟨h1,h2⟩,h3⟩:=h
  have h1:=Nat.eq_of_beq_eq_true h1
  have h2:0<e.size:=Nat.le_of_ble_eq_true h2
  rcases DataW.trod_slice hu ht with ⟨rfl,_⟩|⟨a,len,cap,elems,rest,m,rfl,rfl,_,_,hlc,hcm,hel,helem,hsp,_⟩
  ·exact ⟨[],.inr (.inl ⟨by simp,rfl,none,rfl⟩),by show (0:Nat)≤maxLen;unfold maxLen;omega,by simp⟩
  ·obtain ⟨hrl,hrest⟩:=hsp rfl
   by_cases hc0:cap=0
   ·have hl0:len=0:=by omega
    subst hc0;subst hl0
    exact ⟨[],.inr (.inl ⟨by simp,rfl,some a,rfl⟩),by show (0:Nat)≤maxLen;unfold maxLen;omega,by simp⟩
   ·-- every cell up to the capacity
    have hall:∀i,i<cap→∃cs' x',w.cells? 0 (a.add (i*e.size)) e.size=some cs'∧DataW.trod enc P w 0 (fun _=>true) held m t cs'=some x':=by
     intro i hi
     have key:∃x',(w.cells? 0 (a.add (i*P.cellsOf t)) (P.cellsOf t)).bind (DataW.trod enc P w 0 (fun _=>true) held m t)=some x':=by
      by_cases hil:i<len
      ·rw [helem i hil]
       exact ⟨elems[i]'(by omega),List.getElem?_eq_getElem _⟩
      ·have:=hrest (i-len) (by omega)
       rw [show len+(i-len)=i by omega] at this
       rw [this]
       exact ⟨rest[i-len]'(by omega),List.getElem?_eq_getElem _⟩
     obtain ⟨x',hx'⟩:=key
     rw [h1] at hx'
     cases hcs:w.cells? 0 (a.add (i*e.size)) e.size with
     |none=>rw [hcs] at hx';cases hx'
     |some cs'=>rw [hcs] at hx';exact ⟨cs',x',rfl,hx'⟩
    have hblk:∀i,(a.add i).block=a.block:=fun i=>by unfold Addr.add;split<;>rfl
    obtain ⟨cs0,x0,hc0',_⟩:=hall 0 (by omega)
    rw [Nat.zero_mul,show a.add 0=a by simp [Addr.add]] at hc0'
    obtain ⟨c,U,fz,hb,hspot,_,_⟩:=Rl hc0' h2
    have hoff:∀i,(a.add i).off=a.off+i:=fun i=>by unfold Addr.add;split<;>simp_all
    have hcell:∀i,i<cap→a.off+i*e.size+e.size≤c.size∧∃x',DataW.trod enc P w 0 (fun _=>true) held m t (sub c (a.off+i*e.size) e.size)=some x':=by
     intro i hi
     obtain ⟨cs',x',g1,g2⟩:=hall i hi
     obtain ⟨c',U',fz',hb',_,hs',rfl⟩:=Rl g1 h2
     rw [hblk,hb] at hb'
     cases hb'
     rw [hoff] at hs' g2
     exact ⟨hs',x',g2⟩
    have hd:∀i,i<len→∃d:e.den,Enc w θ (fun b=>b<w.heap.size) S e (.imm true) d (sub c (a.off+i*e.size) e.size) noB∧e.wf d:=by
     intro i hi
     obtain ⟨_,x',hx'⟩:=hcell i (by omega)
     exact ih.1 t m _ x' h3 hx'
    have hlist:∃ds:List e.den,ds.length=len∧∀i d,ds[i]?=some d→Enc w θ (fun b=>b<w.heap.size) S e (.imm true) d (sub c (a.off+i*e.size) e.size) noB∧e.wf d:=by
     refine ⟨List.ofFn fun i:Fin len=>(hd i.1 i.2).choose,by simp,fun i d hi=>?_⟩
     rw [List.getElem?_ofFn] at hi
     split at hi
     ·rename_i hil
      cases hi
      exact (hd i hil).choose_spec
     ·cases hi
    obtain ⟨ds,hdl,hds⟩:=hlist
    have hlast:=(hcell (cap-1) (by omega)).1
    refine ⟨ds,.inr (.inr ⟨by simp,a.block,a.off,cap,c,U,fz,?_,hb,by omega,?_,.inl (by have:=(Array.getElem?_eq_some_iff.1 hb).1;exact this),fun _=>noB,fun i=>⟨fun _ h=>h.elim,fun h=>h⟩,fun _ _ _ _ h=>h.elim,fun i d hi=>(hds i d hi).1⟩),by show ds.length≤maxLen;omega,fun d hd'=>?_⟩
    ·rw [hdl]
     obtain ⟨ab,ao,asp⟩:=a
     simp only at hspot
     subst hspot
     rfl
    ·have:cap=(cap-1)+1:=by omega
     rw [this,Nat.add_mul,Nat.one_mul]
     omega
    ·obtain ⟨i,hi⟩:=List.mem_iff_getElem?.1 hd'
     exact (hds i d hi).2
 |pair a b iha ihb=>
  have tail:∀(f:Field)(l:List Field)(off n:Nat)(cs:List Value),f.offset=off→P.cellsOf f.type=a.size→jZ P a (.inl f.type)=true→jZ P b (.inr (l,off+a.size))=true→cs.length=off+(a.size+b.size) →
    (∀g∈f::l,∃x,DataW.trod enc P w 0 (fun _=>true) held n g.type ((cs.drop g.offset).take (P.cellsOf g.type))=some x) →
    ∃d:(K.pair a b).den,Enc w θ (fun b=>b<w.heap.size) S (.pair a b) (.imm true) d (cs.drop off) noB∧(K.pair a b).wf d:=by
   intro f l off n cs h1 h2 h3 h4 hl hf
   obtain ⟨x,hx⟩:=hf f (by simp)
   rw [h1,h2] at hx
   obtain ⟨d1,e1,w1⟩:=iha.1 _ _ _ _ h3 hx
   obtain ⟨d2,e2,w2⟩:=ihb.2 l (off+a.size) n cs h4 (by omega) (fun g hg=>hf g (by simp [hg]))
   refine ⟨(d1,d2),⟨(cs.drop off).take a.size,(cs.drop off).drop a.size,noB,noB,(List.take_append_drop _ _).symm,fun _ h=>h,fun _ h=>h,fun _ h=>h.elim,e1,?_⟩,w1,w2⟩
   rw [List.drop_drop]
   exact e2
  refine ⟨fun T n cs x h ht=>?_,fun fs off n cs h hl hf=>?_⟩
  ·simp only [jZ] at h
   split at h
   case h_2=>cases h
   case h_1 fs hu=>
   simp only [Bool.and_eq_true] at h
   obtain ⟨h1,h2⟩:=h
   have h1:=Nat.eq_of_beq_eq_true h1
   split at h2
   case h_2=>cases h2
   case h_1 f l hfl=>
   simp only [Bool.and_eq_true] at h2
   obtain ⟨⟨⟨g1,g2⟩,g3⟩,g4⟩:=h2
   obtain ⟨xs,m,rfl,_,hcl,hxl,hall⟩:=DataW.trod_struct hu ht
   have:=tail f l 0 m cs (Nat.eq_of_beq_eq_true g1) (Nat.eq_of_beq_eq_true g2) g3 (by rw [Nat.zero_add];exact g4) (by rw [hcl,h1];simp [K.size]) (fun g hg=>?_)
   ·rw [List.drop_zero] at this
    exact this
   ·rw [←hfl] at hg
    obtain ⟨i,hi⟩:=List.mem_iff_getElem?.1 hg
    rw [Array.getElem?_toList] at hi
    have hlt:=(Array.getElem?_eq_some_iff.1 hi).1
    rw [hall i g hi]
    exact ⟨xs[i]'(by omega),List.getElem?_eq_getElem _⟩
  ·cases fs with
   |nil=>simp [jZ] at h
   |cons f l=>
    simp only [jZ,Bool.and_eq_true] at h
    obtain ⟨⟨⟨g1,g2⟩,g3⟩,g4⟩:=h
    exact tail f l off n cs (Nat.eq_of_beq_eq_true g1) (Nat.eq_of_beq_eq_true g2) g3 g4 (by rw [hl];simp [K.size]) hf
end
abbrev Args:List K→Type
 |[]=>Unit
 |k::l=>k.den×Args l
def avs:(l:List K)→Args l→List AV
 |[],_=>[]
 |k::l,d=>.imm true k d.1::avs l d.2
def wfs:(l:List K)→Args l→Prop
 |[],_=>True
 |k::l,d=>k.wf d.1∧wfs l d.2
theorem acr:∀(l:List K)(d:Args l),(avs l d).length=l.length:=by
 intro l
 induction l with
 |nil=>intro d;rfl
 |cons k l ih=>intro d;simp only [avs,List.length_cons,ih]
section
variable {P : Program} {H : Type} {enc : TypeId × Value → H}
def VA(P:Program)(x:TypeId×K):Bool:=jZ P x.2 (.inl x.1)&&x.2.plain&&P.readableRec x.1&&decide (x.1<P.types.size)
theorem afq{W:World}{C:Ctx}{rs:RF}(hZ:C.Z=fun b=>b<W.heap.size){base:Nat}{k:K}{T:TypeId}{v:Value}{d:DataW H}{p:List MemPlace}(hr:jZ P k (.inl T)=true)(hp:k.plain=true)(hok:Value.okWide P W .any base T v)
  (h:DataW.Trod enc P W 0 (fun _=>true) true T v d p):∃dd:k.den,aT W C rs v (.imm true k dd)∧k.wf dd:=by
 obtain ⟨n,hn⟩:=h
 obtain ⟨dd,he,hw⟩:=(ahq (θ:=C.θ) (S:=C.S) k).1 T n _ _ hr hn
 refine ⟨dd,?_,hw⟩
 rw [←hZ] at he
 cases k with
 |pair a b=>
  simp only [jZ] at hr
  split at hr
  case h_2=>cases hr
  case h_1 fs hu=>
  simp only [Value.okWide,hu] at hok
  obtain ⟨cs,rfl,_⟩:=hok
  exact .inl (.inr (.inl ⟨rfl,cs.toList,by simp,hp,he⟩))
 |unit=>simp [jZ] at hr
 |ptr=>simp [jZ] at hr
 |fn=>simp [jZ] at hr
 |int ik=>
  have hv:∃n,v=.int ik n:=by
   simp only [jZ] at hr
   split at hr
   ·rename_i k hu;have:=of_decide_eq_true hr;subst this;exact okWide_int hu hok
   ·cases hr
  obtain ⟨n,rfl⟩:=hv
  exact .inl (.inr (.inr ⟨rfl,⟨hp,by simpa [Value.cells] using he⟩,rfl⟩))
 |bool=>
  have hv:∃n,v=.bool n:=by
   simp only [jZ] at hr
   split at hr
   ·rename_i hu;exact okWide_bool hu hok
   ·cases hr
  obtain ⟨n,rfl⟩:=hv
  exact .inl (.inr (.inr ⟨rfl,⟨hp,by simpa [Value.cells] using he⟩,rfl⟩))
 |str=>
  have hv:∃n,v=.string n:=by
   simp only [jZ] at hr
   split at hr
   ·rename_i hu;exact okWide_string hu hok
   ·cases hr
  obtain ⟨n,rfl⟩:=hv
  exact .inl (.inr (.inr ⟨rfl,⟨hp,by simpa [Value.cells] using he⟩,rfl⟩))
 |sl e=>
  have hv:∃a l c,v=.slice a l c:=by
   simp only [jZ] at hr
   split at hr
   ·rename_i hu;exact okWide_slice hu hok
   ·cases hr
  obtain ⟨a,l,c,rfl⟩:=hv
  exact .inl (.inr (.inr ⟨rfl,⟨hp,by simpa [Value.cells] using he⟩,rfl⟩))
theorem trodAll_back(laid:laidOutB P=true){W W':World}(hb:Below W.heap.size W W'):∀(ks:List (TypeId×K)),ks.all (VA P)=true→∀{vs:List Value}{ds:List (DataW H)}{p:List MemPlace},(∀x∈p,x.block<W.heap.size) →
  DataW.TrodAll enc P W 0 (fun _=>true) true (ks.map (·.1)) vs ds p→DataW.TrodAll enc P W' 0 (fun b=>decide (b<W.heap.size)) true (ks.map (·.1)) vs ds p∧ds.length=ks.length:=by
 intro ks
 induction ks with
 |nil=>intro _ vs ds p _ h;obtain ⟨rfl,rfl,rfl⟩:=trodAll_nil h;exact ⟨rfl,rfl⟩
 |cons x ks ih=>
  intro hk vs ds p hlt h
  rw [List.all_cons,Bool.and_eq_true] at hk
  obtain ⟨v,vs',d,ds',p1,q1,rfl,rfl,rfl,h1,h2⟩:=trodAll_cons h
  have hx:=hk.1
  simp only [VA,Bool.and_eq_true,decide_eq_true_eq] at hx
  obtain ⟨g1,g2⟩:=ih hk.2 (fun y hy=>hlt y (by simp [hy])) h2
  exact ⟨⟨p1,q1,Below.trod laid hx.1.2 hx.2 h1 hb (fun y hy=>hlt y (by simp [hy])),g1,rfl⟩,by simp [g2]⟩
theorem ZW{W:World}{C:Ctx}{rs:RF}(hZ:C.Z=fun b=>b<W.heap.size){base:Nat}:∀(ks:List (TypeId×K)),ks.all (VA P)=true→∀{vs:List Value}{ds:List (DataW H)}{p:List MemPlace},
  (∀(j:Nat) t v,(ks.map (·.1))[j]?=some t→vs[j]?=some v→Value.okWide P W .any base t v)→DataW.TrodAll enc P W 0 (fun _=>true) true (ks.map (·.1)) vs ds p →
  vs.length=ks.length∧∃dd:Args (ks.map (·.2)),wfs _ dd∧∀(i:Nat)(v:Value)(a:AV),vs[i]?=some v→(avs _ dd)[i]?=some a→aT W C rs v a:=by
 intro ks
 induction ks with
 |nil=>
  intro _ vs ds p _ h
  obtain ⟨rfl,rfl,rfl⟩:=trodAll_nil h
  exact ⟨rfl,(),trivial,fun i v a h=>by simp at h⟩
 |cons x ks ih=>
  intro hk vs ds p hok h
  rw [List.all_cons,Bool.and_eq_true] at hk
  obtain ⟨v,vs',d,ds',p1,q1,rfl,rfl,rfl,h1,h2⟩:=trodAll_cons h
  have hx:=hk.1
  simp only [VA,Bool.and_eq_true,decide_eq_true_eq] at hx
  obtain ⟨g1,dd,g2,g3⟩:=ih hk.2 (fun j t v ht hv=>hok (j+1) t v (by simpa using ht) (by simpa using hv)) h2
  obtain ⟨d0,e1,e2⟩:=afq (rs:=rs) hZ hx.1.1.1 hx.1.1.2 (hok 0 x.1 v rfl rfl) h1
  refine ⟨by simp [g1],(d0,dd),⟨e2,g2⟩,fun i v' a hv ha=>?_⟩
  cases i with
  |zero=>
   simp only [List.getElem?_cons_zero,Option.some.injEq] at hv
   subst hv
   have ha:some (AV.imm true x.2 d0)=some a:=ha
   cases ha
   exact e1
  |succ i=>exact g3 i v' a (by simpa using hv) ha
theorem ae9{Γ:Glb}{f:FuncId}{fn:Func}{rw:List Nat}{G:Me→Tre au}{sf:Bool}(hc:Contract P Γ f ⟨rw,G,sf⟩)(laid:laidOutB P=true)(ks:List (TypeId×K))(hp:fn.params.toList=ks.map (·.1))(hk:ks.all (VA P)=true){rt:TypeId}
  (hr:fn.resultTypes = #[rt]) (hrt:P.underlying rt=some .bool) {s:ChangeSpec} (hv:s.vars=[]) (hs:∀ds:List (DataW H),ds.length=ks.length→s.fn H ds=⟨[.lit (.bool true)],ds,[]⟩)
  (hG:∀dd:Args (ks.map (·.2)),wfs _ dd→∃z,(G ⟨avs _ dd,[]⟩).run some=some ⟨.imm z .bool true,[],[]⟩) {W:World} {base:Nat} {args:Array Value} {ds gs:List (DataW H)} {before:List MemPlace}
  (hok:∀(j:Nat) t v,fn.params[j]?=some t→args[j]?=some v→Value.okWide P W .any base t v) (hW:DataW.Whole enc P fn.params.toList s.vars false W args.toList ds gs before) (hg0:(∀b∈Γ.blocks,b<W.heap.size)∧Γ.holds W) :
  Calls P f args W fun e W'=>∃v,e=.returned v∧s.post enc P fn false true false false W args v W':=by
 have hW':=hW
 obtain ⟨p,q,hA,hV,rfl,hfz,hnd⟩:=hW
 rw [hv] at hV
 obtain ⟨rfl,rfl⟩:=trodVars_none hV
 rw [hp] at hA
 have hlt:∀x∈p,x.block<W.heap.size:=fun x hx=>hW'.lt x (by simp [hx])
 have C0:Ctx:=⟨fun _=>0,fun _=>[],fun _=>noB,fun b=>b<W.heap.size,noB⟩
 have hok':∀(j:Nat) t v,(ks.map (·.1))[j]?=some t→args.toList[j]?=some v→Value.okWide P W .any base t v:=fun j t v ht hv=>hok j t v (by rw [←hp] at ht;rw [←Array.getElem?_toList];exact ht) (by rw [←Array.getElem?_toList];exact hv)
 obtain ⟨hlen,dd,hwf,hval⟩:=ZW (C:=⟨fun _=>0,fun _=>[],fun _=>noB,fun b=>b<W.heap.size,noB⟩) (rs:=Nq []) rfl ks hk hok' hA
 obtain ⟨z,hg⟩:=hG dd hwf
 refine (hc W ⟨fun _=>0,fun _=>[],fun _=>noB,fun b=>b<W.heap.size,noB⟩ ⟨avs _ dd,[]⟩ _ args ?_ (by simp) (by rw [acr,List.length_map,←hlen,Array.length_toList]) (fun i v a hv ha=>hval i v a (by rw [Array.getElem?_toList];exact hv) ha) hg0 hg).mono fun e W' he=>?_
 ·have hno:∀q:ah,Nq [] q=none:=by rintro ⟨q1,q2⟩;match q1 with
   |0=>simp [Nq]
   |q1+1=>rfl
  exact ⟨(fun q y h=>by rw [hno] at h;cases h),(fun q q' y y' h=>by rw [hno] at h;cases h),(fun q y b h=>by rw [hno] at h;cases h),(fun b h=>h.elim id fun h=>h.elim),(fun q y h=>by rw [hno] at h;cases h)⟩
 ·cases e with
  |returned v=>
   obtain ⟨C',hpost,_⟩:=he
   have hvb:=hpost.val.bool
   subst hvb
   have hb:Below W.heap.size W W':=⟨hpost.kept.os,hpost.kept.tape,hpost.kept.output,hpost.kept.size,fun b hb=>hpost.kept.block b hb (fun ⟨i,x,h,_⟩=>by simp at h)⟩
   obtain ⟨hback,hdl⟩:=trodAll_back laid hb ks hk hlt hA
   refine ⟨_,rfl,ds,[],p++[],[],p,[],hW',?_,?_,?_,hb.frame _,fun h=>by cases h⟩
   ·rw [List.append_nil,hs ds hdl,hr]
    exact trodAll_mk1 (shut_bool hrt _)
   ·rw [List.append_nil,hs ds hdl,hp]
    exact hback
   ·rw [List.append_nil,hs ds hdl,hv]
    rfl
  |_=>exact he.elim
end
end Go.Abs
namespace Go.Abs
section
variable {R R' : Type} {r : R'} {g : R → Option R'}
def bX(k:K)(a:AV)(c:Bool→k.den→Tre R):Tre R:=match a with
 |.imm z k' d=>if h:k'=k then c z (h ▸ d) else .fail
 |_=>.fail
theorem lF{k:K}{a:AV}{c:Bool→k.den→Tre R}(h:(bX k a c).run g=some r):∃z d,a=.imm z k d∧(c z d).run g=some r:=by
 unfold bX at h
 split at h
 ·split at h
  ·rename_i hk;subst hk;exact ⟨_,_,rfl,h⟩
  ·cases h
 ·cases h
def aD(z0:Bool)(k:K)(a:AV)(c:k.den→Tre R):Tre R:=match a with
 |.imm z k' d=>if h:k'=k then (if z=z0 then c (h ▸ d) else .fail) else .fail
 |_=>.fail
theorem dA{z0:Bool}{k:K}{a:AV}{c:k.den→Tre R}(h:(aD z0 k a c).run g=some r):∃d,a=.imm z0 k d∧(c d).run g=some r:=by
 unfold aD at h
 split at h
 ·split at h
  ·rename_i hk
   subst hk
   split at h
   ·rename_i hz;subst hz;exact ⟨_,rfl,h⟩
   ·cases h
  ·cases h
 ·cases h
def ahJ(e:K)(a:AV)(c:Bool→List e.den→Tre R):Tre R:=match a with
 |.nn z e' d=>if h:e'=e then c z (h ▸ d) else .fail
 |_=>.fail
theorem aef{e:K}{a:AV}{c:Bool→List e.den→Tre R}(h:(ahJ e a c).run g=some r):∃z d,a=.nn z e d∧(c z d).run g=some r:=by
 unfold ahJ at h
 split at h
 ·split at h
  ·rename_i hk;subst hk;exact ⟨_,_,rfl,h⟩
  ·cases h
 ·cases h
def nJ(q:ah)(p:Path)(a:AV)(c:Tre R):Tre R:=match a with
 |.ref q' p'=>if q'=q∧p'=p then c else .fail
 |_=>.fail
theorem uG{q:ah}{p:Path}{a:AV}{c:Tre R}(h:(nJ q p a c).run g=some r):a=.ref q p∧c.run g=some r:=by
 unfold nJ at h
 split at h
 ·split at h
  ·rename_i hk;obtain ⟨rfl,rfl⟩:=hk;exact ⟨rfl,h⟩
  ·cases h
 ·cases h
def afI(q:ah)(p:Path)(a:AV)(c:Nat→Nat→Tre R):Tre R:=match a with
 |.slc q' p' lo n=>if q'=q∧p'=p then c lo n else .fail
 |_=>.fail
theorem acn{q:ah}{p:Path}{a:AV}{c:Nat→Nat→Tre R}(h:(afI q p a c).run g=some r):∃lo n,a=.slc q p lo n∧(c lo n).run g=some r:=by
 unfold afI at h
 split at h
 ·split at h
  ·rename_i hk;obtain ⟨rfl,rfl⟩:=hk;exact ⟨_,_,rfl,h⟩
  ·cases h
 ·cases h
def nu(q:ah)(p:Path)(a:AV)(c:Tre R):Tre R:=match a with
 |.ptr q' p'=>if q'=q∧p'=p then c else .fail
 |_=>.fail
theorem Ue{q:ah}{p:Path}{a:AV}{c:Tre R}(h:(nu q p a c).run g=some r):a=.ptr q p∧c.run g=some r:=by
 unfold nu at h
 split at h
 ·split at h
  ·rename_i hk;obtain ⟨rfl,rfl⟩:=hk;exact ⟨rfl,h⟩
  ·cases h
 ·cases h
def Hr(f:Nat)(caps:List ah)(a:AV)(c:Tre R):Tre R:=match a with
 |.fn f' caps'=>if f'=f∧caps'=caps then c else .fail
 |_=>.fail
theorem Ar{f:Nat}{caps:List ah}{a:AV}{c:Tre R}(h:(Hr f caps a c).run g=some r):a=.fn f caps∧c.run g=some r:=by
 unfold Hr at h
 split at h
 ·split at h
  ·rename_i hk;obtain ⟨rfl,rfl⟩:=hk;exact ⟨rfl,h⟩
  ·cases h
 ·cases h
def adO(a:AV)(c:Tre R):Tre R:=match a with
 |.nil=>c
 |_=>.fail
theorem acj{a:AV}{c:Tre R}(h:(adO a c).run g=some r):a=.nil∧c.run g=some r:=by
 unfold adO at h
 split at h
 ·exact ⟨rfl,h⟩
 ·cases h
def aA{α:Type}(l:List α)(c:α→List α→Tre R):Tre R:=match l with
 |x::y=>c x y
 |_=>.fail
theorem Cv{α:Type}{l:List α}{c:α→List α→Tre R}(h:(aA l c).run g=some r):∃x y,l=x::y∧(c x y).run g=some r:=by
 unfold aA at h
 split at h
 ·exact ⟨_,_,rfl,h⟩
 ·cases h
def aK{α:Type}(l:List α)(c:Tre R):Tre R:=match l with
 |[]=>c
 |_=>.fail
theorem AB{α:Type}{l:List α}{c:Tre R}(h:(aK l c).run g=some r):l=[]∧c.run g=some r:=by
 unfold aK at h
 split at h
 ·exact ⟨rfl,h⟩
 ·cases h
def uH(mem:Bool)(k:K)(x:Root)(c:Mask→k.den→Tre R):Tre R:=
 if h:x.k=k then (bif Bool.beq x.mem mem then c x.m (h ▸ x.d) else .fail) else .fail
 where Bool.beq:Bool→Bool→Bool
 |true,b=>b
 |false,b=>!b
theorem P5{mem:Bool}{k:K}{x:Root}{c:Mask→k.den→Tre R}(h:(uH mem k x c).run g=some r):∃m d,x=⟨mem,k,m,d⟩∧(c m d).run g=some r:=by
 obtain ⟨mem',k',m',d'⟩:=x
 unfold uH at h
 split at h
 ·rename_i hk
  have hk:k'=k:=hk
  subst hk
  cases mem'<;>cases mem<;>first|exact ⟨_,_,rfl,h⟩|cases h
 ·cases h
def dY(mem:Bool)(k:K)(o:Option Root)(c:Mask→k.den→Tre R):Tre R:=match o with
 |some x=>uH mem k x c
 |none=>.fail
theorem gY{mem:Bool}{k:K}{o:Option Root}{c:Mask→k.den→Tre R}(h:(dY mem k o c).run g=some r):∃m d,o=some ⟨mem,k,m,d⟩∧(c m d).run g=some r:=by
 unfold dY at h
 split at h
 ·obtain ⟨m,d,hx,h2⟩:=P5 h;exact ⟨m,d,by rw [hx],h2⟩
 ·cases h
def asM(m0 m:Mask)(c:Tre R):Tre R:=if m=m0 then c else .fail
theorem nI{m0 m:Mask}{c:Tre R}(h:(asM m0 m c).run g=some r):m=m0∧c.run g=some r:=by
 unfold asM at h
 split at h
 ·exact ⟨‹_›,h⟩
 ·cases h
def ru(m:Mask)(c:Bool→Tre R):Tre R:=match m with
 |.imm z=>c z
 |_=>.fail
theorem Ir{m:Mask}{c:Bool→Tre R}(h:(ru m c).run g=some r):∃z,m=.imm z∧(c z).run g=some r:=by
 unfold ru at h
 split at h
 ·exact ⟨_,rfl,h⟩
 ·cases h
end
section
variable {σ β : Type}
def runN (step:σ→Tre (σ ⊕ β)):Nat→σ→Option β
 |0,_=>none
 |n+1,x=>(step x).run fun
  |.inl y=>runN step n y
  |.inr b=>some b
theorem E9(step:σ→Tre (σ ⊕ β))(n:Nat)(x:σ):runN step (n+1) x=((step x).run some).bind fun
  |.inl y=>runN step n y
  |.inr b=>some b:=Tre.run_bind _ _
theorem afa(step:σ→Tre (σ ⊕ β)):∀(n:Nat)(x:σ)(b:β),runN step n x=some b→runN step (n+1) x=some b:=by
 intro n
 induction n with
 |zero=>intro x b h;cases h
 |succ n ih=>
  intro x b h
  rw [E9] at h ⊢
  cases hs:(step x).run some with
  |none=>rw [hs] at h;cases h
  |some y=>
   rw [hs] at h
   cases y with
   |inl y=>exact ih y b h
   |inr y=>exact h
theorem TN(step:σ→Tre (σ ⊕ β)){n m:Nat}(hnm:n≤m){x:σ}{b:β}(h:runN step n x=some b):runN step m x=some b:=by
 induction hnm with
 |refl=>exact h
 |step _ ih=>exact afa step _ _ _ ih
open Classical in
def aZ (step:σ→Tre (σ ⊕ β)) (x:σ):Option β:=
 match runN step 1000000000000 x with
 |some b=>some b
 |none=>if h:∃b,∃n,runN step n x=some b then some (Classical.choose h) else none
theorem Kw{step:σ→Tre (σ ⊕ β)}{x:σ}{b:β}:aZ step x=some b ↔ ∃n,runN step n x=some b:=by
 unfold aZ
 generalize hN:(1000000000000:Nat)=N
 cases hr:runN step N x with
 |some b'=>
  constructor
  ·intro h;cases h;exact ⟨N,hr⟩
  ·rintro ⟨n,hn⟩
   have h1:=TN step (Nat.le_max_left n N) hn
   have h2:=TN step (Nat.le_max_right n N) hr
   rw [h1] at h2
   exact h2.symm
 |none=>
  constructor
  ·intro h
   dsimp only at h
   split at h
   ·rename_i hx
    simp only [Option.some.injEq] at h
    rw [←h]
    exact Classical.choose_spec hx
   ·cases h
  ·rintro ⟨n,hn⟩
   have hx:∃b,∃n,runN step n x=some b:=⟨b,n,hn⟩
   dsimp only
   rw [dif_pos hx]
   obtain ⟨m,hm⟩:=Classical.choose_spec hx
   have h1:=TN step (Nat.le_max_left n m) hn
   have h2:=TN step (Nat.le_max_right n m) hm
   rw [h1] at h2
   exact h2.symm
theorem abo(step:σ→Tre (σ ⊕ β))(x:σ):aZ step x=((step x).run some).bind fun
  |.inl y=>aZ step y
  |.inr b=>some b:=by
 apply Option.ext
 intro b
 rw [Kw]
 constructor
 ·rintro ⟨n,hn⟩
  cases n with
  |zero=>cases hn
  |succ n=>
   rw [E9] at hn
   cases hs:(step x).run some with
   |none=>rw [hs] at hn;cases hn
   |some y=>
    rw [hs] at hn
    cases y with
    |inl y=>exact Kw.2 ⟨n,hn⟩
    |inr y=>exact hn
 ·intro h
  cases hs:(step x).run some with
  |none=>rw [hs] at h;cases h
  |some y=>
   rw [hs] at h
   cases y with
   |inl y=>
    obtain ⟨n,hn⟩:=Kw.1 h
    exact ⟨n+1,by rw [E9,hs];exact hn⟩
   |inr y=>exact ⟨1,by rw [E9,hs];exact h⟩
variable {V : Env} {A : List (Nat × bS)}
def fE(kp kx:Keep)(c:St→Option (Ex×St))(e:Ex)(s:St):Option (Ex×St):=match e with
 |.normal=>c (restrict kp s)
 |e=>some (e,restrict kx s)
def fF(mk:σ→St)(out:β→Ex×St)(c:St→Option (Ex×St)):σ ⊕ β→Option (Ex×St)
 |.inl y=>c (mk y)
 |.inr b=>some (out b)
theorem aeU{L:bS}{body:Code}{mk:σ→St}{out:β→Ex×St}{step:σ→Tre (σ ⊕ β)}
  (hstep:∀(x:σ)(c:St→Option (Ex×St)),den V A body (mk x) (fE L.kp L.kx c)=(step x).run (fF mk out c)):∀(n:Nat)(x:σ)(b:β),runN step n x=some b→iter L (fun s (c:Ex→St→Option (Ex×St))=>den V A body s c) n (mk x) (fun e s'=>some (e,s'))=some (out b):=by
 intro n
 induction n with
 |zero=>intro x b h;cases h
 |succ n ih=>
  intro x b h
  rw [E9] at h
  have h1:=hstep x fun s=>iter L (fun s (c:Ex→St→Option (Ex×St))=>den V A body s c) n s (fun e s'=>some (e,s'))
  rw [Tre.run_bind] at h1
  refine Eq.trans (Eq.trans ?_ h1) ?_
  ·rfl
  cases hs:(step x).run some with
  |none=>rw [hs] at h;cases h
  |some y=>
   rw [hs] at h
   cases y with
   |inl y=>exact ih y b h
   |inr y=>cases h;rfl
def fA (T:List (Nat×AV)) (U:List (ah×Option Root)):St:=⟨PN T,O8 U,Eh (O8 U) (U.map (·.1))⟩
def allT(tm:TF):List (Nat×AV)→Prop
 |[]=>True
 | (t,v)::l=>tm t=v∧allT tm l
def afD(rs:RF):List (ah×Option Root)→Prop
 |[]=>True
 | (q,x)::l=>rs q=x∧afD rs l
theorem ahn{tm:TF}:∀(l:List Nat)(t:Nat),t∈l→PN (LH tm l) t=tm t:=by
 intro l
 induction l with
 |nil=>intro t h;cases h
 |cons x l ih=>
  intro t h
  simp only [LH,PN]
  by_cases he:t=x
  ·rw [beq_iff.2 he];subst he;rfl
  ·rw [iB he]
   exact ih t ((List.mem_cons.1 h).resolve_left he)
theorem abA{rs:RF}:∀(l:List ah)(q:ah),q∈l→O8 (keepR rs l) q=rs q:=by
 intro l
 induction l with
 |nil=>intro t h;cases h
 |cons x l ih=>
  intro t h
  simp only [keepR,O8]
  by_cases he:t=x
  ·rw [bH.2 he];subst he;rfl
  ·rw [iC he]
   exact ih t ((List.mem_cons.1 h).resolve_left he)
theorem aeW{tm:TF}:∀(T:List (Nat×AV)),allT tm T→LH tm (T.map (·.1))=T:=by
 intro T
 induction T with
 |nil=>intro _;rfl
 |cons x T ih=>intro h;obtain ⟨t,v⟩:=x;obtain ⟨h1,h2⟩:=h;simp only [List.map_cons,LH,ih h2,h1]
theorem X9{rs:RF}:∀(U:List (ah×Option Root)),afD rs U→keepR rs (U.map (·.1))=U:=by
 intro U
 induction U with
 |nil=>intro _;rfl
 |cons x U ih=>intro h;obtain ⟨t,v⟩:=x;obtain ⟨h1,h2⟩:=h;simp only [List.map_cons,keepR,ih h2,h1]
theorem Zq{rs rs':RF}:∀(l:List ah),(∀q∈l,rs' q=rs q)→Eh rs' l=Eh rs l:=by
 intro l
 induction l with
 |nil=>intro _;rfl
 |cons x l ih=>
  intro h
  funext n
  simp only [Eh]
  rw [h x (by simp),ih fun q hq=>h q (by simp [hq])]
theorem Wx{kp:Keep}{s:St}:∀(T:List (Nat×AV)),(∀t∈T.map (·.1),t∈kp.1)→allT (restrict kp s).tmps T→allT s.tmps T:=by
 intro T
 induction T with
 |nil=>intro _ _;trivial
 |cons x T ih=>
  intro hm h
  obtain ⟨t,v⟩:=x
  refine ⟨?_,ih (fun u hu=>hm u (by simp at hu ⊢;exact .inr hu)) h.2⟩
  rw [←h.1]
  exact (ahn _ t (hm t (by simp))).symm
theorem Wy{kp:Keep}{s:St}:∀(U:List (ah×Option Root)),(∀q∈U.map (·.1),q∈kp.2)→afD (restrict kp s).roots U→afD s.roots U:=by
 intro U
 induction U with
 |nil=>intro _ _;trivial
 |cons x U ih=>
  intro hm h
  obtain ⟨t,v⟩:=x
  refine ⟨?_,ih (fun u hu=>hm u (by simp at hu ⊢;exact .inr hu)) h.2⟩
  rw [←h.1]
  exact (abA _ t (hm t (by simp))).symm
theorem bn{kp:Keep}{s:St}{T:List (Nat×AV)}{U:List (ah×Option Root)}(h1:kp.1=T.map (·.1))(h2:kp.2=U.map (·.1))(hT:allT (restrict kp s).tmps T)(hU:afD (restrict kp s).roots U):restrict kp s=fA T U:=by
 have hT':=Wx T (by rw [h1];exact fun _ h=>h) hT
 have hU':=Wy U (by rw [h2];exact fun _ h=>h) hU
 unfold restrict fA
 rw [h1,h2,aeW T hT',X9 U hU']
 have:Eh s.roots (U.map (·.1))=Eh (O8 U) (U.map (·.1)):=by
  refine Zq _ fun q hq=>?_
  have h3:=X9 U hU'
  rw [←abA (rs:=s.roots) (U.map (·.1)) q hq,h3]
 rw [this]
def fM:Code→List Code
 |.seq a b=>fM a++fM b
 |.cond _ a b=>fM a++fM b
 |.block _ a=>fM a
 |.loop a=>a::fM a
 |_=>[]
theorem Vt:∀(c:Code),(∀a∈fM c,∀i L,eP a=some i→iA i A=some L→dZ V A a L)→qC V A c:=by
 intro c
 induction c with
 |seq a b iha ihb=>intro h;exact ⟨iha fun x hx=>h x (by simp [fM,hx]),ihb fun x hx=>h x (by simp [fM,hx])⟩
 |cond x a b iha ihb=>intro h;exact ⟨iha fun x hx=>h x (by simp [fM,hx]),ihb fun x hx=>h x (by simp [fM,hx])⟩
 |block id a ih=>intro h;exact ih h
 |loop a ih=>intro h;exact ⟨ih fun x hx=>h x (by simp [fM,hx]),h a (by simp [fM])⟩
 |_=>intro _;trivial
def bF(c:Code)(n:Nat):Code:=(fM c).getD n .skip
theorem abq{c:Code}(h:(fM c).length=0):qC V A c:=Vt c fun a ha=>by rw [List.eq_nil_of_length_eq_zero h] at ha;cases ha
theorem abp{c:Code}{n:Nat}(hn:(fM c).length=n)(h:∀k,k<n→∀i L,eP (bF c k)=some i→iA i A=some L→dZ V A (bF c k) L):qC V A c:=by
 refine Vt c fun a ha=>?_
 obtain ⟨k,hk,rfl⟩:=List.mem_iff_getElem.1 ha
 have:=h k (by omega)
 unfold bF at this
 rw [List.getD_eq_getElem?_getD,List.getElem?_eq_getElem hk] at this
 exact this
theorem aeZ{a:Code}{id:Nat}{L:bS}(h1:eP a=some id)(h2:iA id A=some L)(h:dZ V A a L):∀i L',eP a=some i→iA i A=some L'→dZ V A a L':=by
 intro i L' h3 h4
 rw [h1] at h3
 cases h3
 rw [h2] at h4
 cases h4
 exact h
theorem mh{a:Code}{L:bS} (h:∀(s:St)(e:Ex)(s':St),(L.sm (restrict L.kp s)).run some=some (e,s') →
  ∃(σ β:Type) (mk:σ→St) (out:β→Ex×St) (step:σ→Tre (σ ⊕ β)) (x:σ) (b:β),restrict L.kp s=mk x∧aZ step x=some b∧out b=(e,s') ∧
   ∀(x:σ)(c:St→Option (Ex×St)),den V A a (mk x) (fE L.kp L.kx c)=(step x).run (fF mk out c)):dZ V A a L:=by
 intro s e s' hs
 obtain ⟨σ,β,mk,out,step,x,b,h1,h2,h3,h4⟩:=h s e s' hs
 obtain ⟨n,hn⟩:=Kw.1 h2
 refine ⟨n,?_⟩
 rw [h1,←h3]
 exact aeU h4 n x b hn
theorem Xp{α:Type}{b:Bool}{t f:Tre α}{x y:α}(h1:t.run some=some x)(h2:f.run some=some y):(Tre.cond b t f).run some=some (cond b x y):=by cases b<;>assumption
theorem TL{ρ γ δ:Type}{o:Option ρ}{out:ρ→γ}{x:δ}{c:γ→Option δ}(h:(Tre.mat o fun y=>Tre.ret (out y)).run c=some x):∃y,o=some y∧c (out y)=some x:=by
 rw [Tre.oZ] at h
 cases o with
 |none=>cases h
 |some y=>exact ⟨y,rfl,h⟩
theorem nQ{β δ α:Type}{o:Option β}{k:β→Tre α}{x:δ}{c:α→Option δ}(h:(Tre.mat o k).run c=some x):∃y,o=some y∧(k y).run c=some x:=by
 rw [Tre.oZ] at h
 cases o with
 |none=>cases h
 |some y=>exact ⟨y,rfl,h⟩
theorem ahp{α δ:Type}{b:Bool}{A B:Tre α}{c:α→Option δ}{x:δ}(hb:b=true)(h:(cond b A B).run c=some x):A.run c=some x:=by subst hb;exact h
theorem afn{α δ:Type}{b:Bool}{A B:Tre α}{c:α→Option δ}{x:δ}(hb:b=false)(h:(cond b A B).run c=some x):B.run c=some x:=by subst hb;exact h
theorem bC{ρ:Type}{t:Tre ρ}{out:ρ→au}{d:Option au}{co:au}(hd:d=t.run fun y=>some (out y))(h:(Tre.mat (t.run some) fun y=>Tre.ret (out y)).run some=some co):(Tre.mat d Tre.ret).run some=some co:=by
 obtain ⟨y,h1,h2⟩:=TL h
 rw [hd,Tre.run_bind t,h1]
 exact h2
theorem NW{ρ:Type}{t:Tre ρ}{out:ρ→au}{d:Option au}{co:au}{y:ρ}(hd:d=t.run fun y=>some (out y))(hs:t.run some=some y)(h:(Tre.ret (out y):Tre au).run some=some co):(Tre.mat d Tre.ret).run some=some co:=by
 rw [hd,Tre.run_bind t,hs]
 exact h
theorem CF{ρ:Type}{t:Tre ρ}{out:ρ→au}{d:Option au}{co:au}{o:Option ρ}(hd:d=t.run fun y=>some (out y))(hs:∀y,o=some y→t.run some=some y)(h:(Tre.mat o fun y=>Tre.ret (out y)).run some=some co):(Tre.mat d Tre.ret).run some=some co:=by
 obtain ⟨y,h1,h2⟩:=TL h
 exact NW hd (hs y h1) h2
theorem Uw{ρ:Type}{t:Tre ρ}{out:ρ→au}{k:ρ→Tre au}{d:Option au}{co:au}(hd:d=t.run fun y=>some (out y))(h:(Tre.mat (t.run some) k).run some=some co)(hk:∀x,(k x).run some=some (out x)):(Tre.mat d Tre.ret).run some=some co:=by
 obtain ⟨y,h1,h2⟩:=nQ h
 rw [hk] at h2
 rw [hd,Tre.run_bind t,h1]
 exact h2
theorem YH{P:Program}{Γ:Glb}{f:FuncId}{q0 q1 q:Ctr}{e:K}(h0:Contract P Γ f q0)(h1:Contract P Γ f q1) (hq:∀ci co,(q.G ci).run some=some co→∃z d,ci=⟨[.imm z (.sl e) d],[]⟩ ∧
  (q1.G ⟨[.nn z e d],[]⟩).run some=some co∧(d=[]→(q0.G ⟨[.nil],[]⟩).run some=some co)) (hs:q.soft=false:=by rfl):Contract P Γ f q:=by
 intro w C ci co vals hM hptr hsz hvals hgl hG
 obtain ⟨z,d,rfl,g1,g0⟩:=hq ci co hG
 obtain ⟨v,rfl⟩:∃v,vals = #[v]:=by
  match vals,hsz with
  |⟨[v]⟩,_=>exact ⟨v,rfl⟩
 have hv:=hvals 0 v _ rfl rfl
 obtain ⟨hA,hc⟩:=hv.cell (by simp) rfl (by simp) (by simp)
 have key:(v=.slice none 0 0∧d=[])∨∃a n c,v=.slice (some a) n c:=by
  rcases hA.2 with ⟨h,_⟩|⟨_,rfl,a,h⟩|⟨_,b,off,cap,c,T,fz,h,_⟩
  ·cases h
  ·simp only [List.cons.injEq,and_true] at h
   cases a with
   |none=>exact .inl ⟨h,rfl⟩
   |some a=>exact .inr ⟨a,_,_,h⟩
  ·simp only [List.cons.injEq,and_true] at h
   exact .inr ⟨_,_,_,h⟩
 have one:∀{av:AV},aT w C (Nq []) v av→∀(i:Nat)(v':Value)(a:AV),(#[v]:Array Value)[i]?=some v'→[av][i]?=some a→aT w C (Nq []) v' a:=by
  intro av hav i v' a h1 h2
  cases i with
  |zero=>simp only [List.getElem?_cons_zero,Option.some.injEq] at h2;subst h2;simp at h1;subst h1;exact hav
  |succ i=>simp at h2
 have conv:∀{args:List AV}{sf:Bool}{e':Ending}{w':World},(match e' with
   |.returned v=>∃C',Er w C ⟨args,[]⟩ co v w' C'∧(sf=true→NK w C ⟨args,[]⟩ co w' C')
   |_=>False)→(match e' with
   |.returned v=>∃C',Er w C ⟨[.imm z (.sl e) d],[]⟩ co v w' C'∧(q.soft=true→NK w C ⟨[.imm z (.sl e) d],[]⟩ co w' C')
   |_=>False):=by
  intro args sf e' w' h
  cases e' with
  |returned v=>obtain ⟨C',hp,_⟩:=h;exact ⟨C',⟨hp.Z,hp.S,hp.θ,hp.mem,hp.val,hp.ρ,hp.kept,hp.foot,hp.zn⟩,fun h=>by rw [hs] at h;cases h⟩
  |_=>exact h
 rcases key with ⟨rfl,hd⟩|⟨a,n,c,rfl⟩
 ·refine Calls.mono ?_ (fun e' w' h=>conv (args:=[.nil]) (sf:=q0.soft) h)
  exact h0 w C ⟨[.nil],[]⟩ co #[.slice none 0 0] hM (by simp) rfl (one (.inl (.inr (.inr ⟨rfl,rfl,rfl⟩)))) hgl (g0 hd)
 ·refine Calls.mono ?_ (fun e' w' h=>conv (args:=[.nn z e d]) (sf:=q1.soft) h)
  exact h1 w C ⟨[.nn z e d],[]⟩ co #[.slice (some a) n c] hM (by simp) rfl (one (.inl (.inr (.inr ⟨rfl,⟨hA.1,hA.2,a,n,c,rfl⟩,rfl⟩)))) hgl g1
def _root_.Go.Abs.AV.isRef:AV→Bool
 |.ref _ _=>true
 |_=>false
end
end Go.Abs
namespace Go.Abs
theorem jK{n:Int}(h1:-9223372036854775808≤n)(h2:n≤9223372036854775807):aI .i64 n=n:=Go.IntWalk.i64_in n ⟨h1,h2⟩
theorem bQ{i:Nat}(h:i<4611686018427387904):aI .i64 ((i:Int)+1)=((i+1:Nat):Int):=by
 rw [jK (by omega) (by omega)];rfl
theorem Kr{n:Int}(h1:0≤n)(h2:n≤18446744073709551615):aI .u64 n=n:=by
 unfold aI IntKind.wrap
 simp only [IntKind.signed,IntKind.bits,Bool.false_and,Bool.false_eq_true,if_false]
 exact Int.emod_eq_of_lt h1 (by omega)
def inR(n a b:Int):Bool:=decide (a≤n)&&decide (n≤b)
theorem Ag{n a b:Int}:inR n a b=true↔a≤n∧n≤b:=by simp [inR]
theorem aeR{n a b:Int}:inR n a b=false↔n<a∨b<n:=by
 cases h:inR n a b with
 |true=>rw [Ag] at h;simp;omega
 |false=>
  simp only [true_iff]
  have:¬(a≤n∧n≤b):=fun h2=>by rw [Ag.2 h2] at h;cases h
  omega
def aeg{α:Type}(b:Bool)(x:α):Option α:=cond b (some x) none
theorem Ev{α:Type}{b:Bool}{x y:α}(h:aeg b x=some y):b=true∧x=y:=by
 cases b with
 |true=>exact ⟨rfl,Option.some.inj h⟩
 |false=>cases h
theorem Au{α:Type}{b:Bool}{x:α}(h:b=true):aeg b x=some x:=by rw [h];rfl
def lim{α:Type}(n:Nat)(x:α):Option α:=if n≤1048576 then some x else none
theorem OL{α:Type}{n:Nat}{x y:α}(h:lim n x=some y):n≤1048576∧x=y:=by
 unfold lim at h
 split at h
 ·exact ⟨‹_›,Option.some.inj h⟩
 ·cases h
theorem Zh{α:Type}{n:Nat}{x:α}(h:n≤1048576):lim n x=some x:=if_pos h
abbrev za{α:Type}(xs:List α):Option (List α):=lim xs.length xs
section
variable {σ β α γ ρ R : Type} {step : σ → Tre (σ ⊕ β)}
theorem kK{x y:σ}(h:(step x).run some=some (.inl y)):aZ step x=aZ step y:=by rw [abo,h];rfl
theorem gQ{x:σ}{b:β}(h:(step x).run some=some (.inr b)):aZ step x=some b:=by rw [abo,h];rfl
theorem oW{xs:List α}{i:Nat}{x:α}{k:α→Tre ρ}{e:Tre ρ}{c:ρ→Option R}(h:xs[i]?=some x) :
  (Tre.cond (decide ((i:Int)<(xs.length:Int))) (.ite (0≤(i:Int)∧(i:Int)<(xs.length:Int)) (.mat xs[(i:Int).toNat]? k)) e).run c=(k x).run c:=by
 have hi:i<xs.length:=(List.getElem?_eq_some_iff.1 h).1
 rw [Tre.aC,show decide ((i:Int)<(xs.length:Int))=true from by simp;omega,cond_true,Tre.run_ite,if_pos ⟨by omega,by omega⟩,Tre.oZ,Int.toNat_natCast,h]
 rfl
theorem lK{xs:List α}{i:Nat}{x:α}{k:α→Tre ρ}{c:ρ→Option R}(h:xs[i]?=some x) :
  (Tre.ite (0≤(i:Int)∧(i:Int)<(xs.length:Int)) (.mat xs[(i:Int).toNat]? k)).run c=(k x).run c:=by
 have hi:i<xs.length:=(List.getElem?_eq_some_iff.1 h).1
 rw [Tre.run_ite,if_pos ⟨by omega,by omega⟩,Tre.oZ,Int.toNat_natCast,h]
 rfl
theorem qN{n:Int}{t e:Tre ρ}{c:ρ→Option R}:(Tre.cond (decide (n<n)) t e).run c=e.run c:=by
 rw [Tre.aC,show decide (n<n)=false from by simp];rfl
theorem ak{o:Option α}{x:α}{k:α→Tre ρ}{c:ρ→Option R}(h:o=some x):(Tre.mat o k).run c=(k x).run c:=by rw [Tre.oZ,h];rfl
def Rq(f:Nat→γ→α→γ ⊕ β)(fin:γ→β):Nat→γ→List α→β
 |_,acc,[]=>fin acc
 |i,acc,x::l=>match f i acc x with
  |.inl a=>Rq f fin (i+1) a l
  |.inr b=>b
theorem aeI{xs:List α}(st:Nat→γ→σ)(f:Nat→γ→α→γ ⊕ β)(fin:γ→β)(I:Nat→γ→Prop)
  (hs:∀i acc x,xs[i]?=some x→I i acc→(step (st i acc)).run some=some (match f i acc x with
   |.inl a=>.inl (st (i+1) a)
   |.inr b=>.inr b)∧∀a,f i acc x=.inl a→I (i+1) a)
  (he:∀acc,I xs.length acc→(step (st xs.length acc)).run some=some (.inr (fin acc))):∀(l:List α)(i:Nat)(acc:γ),xs.drop i=l→i≤xs.length→I i acc→aZ step (st i acc)=some (Rq f fin i acc l):=by
 intro l
 induction l with
 |nil=>
  intro i acc hl hi hI
  have:i=xs.length:=by have:=List.drop_eq_nil_iff.1 hl;omega
  subst this
  exact gQ (he acc hI)
 |cons x l ih=>
  intro i acc hl hi hI
  have hx:xs[i]?=some x:=by
   have:=congrArg (·[0]?) hl
   simpa using this
  have hi':i<xs.length:=(List.getElem?_eq_some_iff.1 hx).1
  obtain ⟨h1,h2⟩:=hs i acc x hx hI
  simp only [Rq]
  cases hf:f i acc x with
  |inl a=>
   rw [hf] at h1
   rw [kK h1]
   exact ih (i+1) a (by rw [←List.drop_drop,hl];rfl) (by omega) (h2 a hf)
  |inr b=>
   rw [hf] at h1
   exact gQ h1
theorem acY{xs:List α}(st:Nat→γ→σ)(f:Nat→γ→α→γ ⊕ β)(fin:γ→β)
  (hs:∀i acc x,xs[i]?=some x→(step (st i acc)).run some=some (match f i acc x with
   |.inl a=>.inl (st (i+1) a)
   |.inr b=>.inr b))
  (he:∀acc,(step (st xs.length acc)).run some=some (.inr (fin acc))) (acc:γ):aZ step (st 0 acc)=some (Rq f fin 0 acc xs):=
 aeI (xs:=xs) st f fin (fun _ _=>True) (fun i a x h _=>⟨hs i a x h,fun _ _=>trivial⟩) (fun a _=>he a) xs 0 acc rfl (Nat.zero_le _) trivial
def IE(f:Nat→α→Option β)(fin:β):Nat→List α→β
 |_,[]=>fin
 |i,x::l=>match f i x with
  |some b=>b
  |none=>IE f fin (i+1) l
theorem EA{step:Int→Tre (Int ⊕ β)}{xs:List α}(f:Nat→α→Option β)(fin:β)
  (hs:∀(i:Nat) x,xs[i]?=some x→(step (i:Int)).run some=some (match f i x with
   |none=>.inl ((i+1:Nat):Int)
   |some b=>.inr b)) (he:(step (xs.length:Int)).run some=some (.inr fin)):aZ step 0=some (IE f fin 0 xs):=by
 have key:∀(l:List α)(i:Nat),xs.drop i=l→i≤xs.length→aZ step (i:Int)=some (IE f fin i l):=by
  intro l
  induction l with
  |nil=>
   intro i hl hi
   have:i=xs.length:=by have:=List.drop_eq_nil_iff.1 hl;omega
   subst this
   exact gQ he
  |cons x l ih=>
   intro i hl hi
   have hx:xs[i]?=some x:=by
    have:=congrArg (·[0]?) hl
    simpa using this
   have hi':i<xs.length:=(List.getElem?_eq_some_iff.1 hx).1
   have h1:=hs i x hx
   simp only [IE]
   cases hf:f i x with
   |none=>
    rw [hf] at h1
    rw [kK h1]
    exact ih (i+1) (by rw [←List.drop_drop,hl];rfl) (by omega)
   |some b=>
    rw [hf] at h1
    exact gQ h1
 exact key xs 0 rfl (Nat.zero_le _)
def Ee(p:α→Bool):Nat→List α→Int
 |_,[]=>-1
 |i,x::l=>cond (p x) (i:Int) (Ee p (i+1) l)
theorem Qg{p:α→Bool}:∀(l:List α)(i:Nat),(match IE (β:=Int ⊕ Unit) (fun i x=>cond (p x) (some (.inl (i:Int))) none) (.inr ()) i l with
  |.inl n=>n
  |.inr _=>-1)=Ee p i l:=by
 intro l
 induction l with
 |nil=>intro i;rfl
 |cons x l ih=>
  intro i
  simp only [IE,Ee]
  cases p x with
  |true=>rfl
  |false=>exact ih _
theorem aa3{p:α→Bool}:∀(l:List α)(i:Nat),decide (Ee p i l ≥ 0)=l.any p:=by
 intro l
 induction l with
 |nil=>intro i;rfl
 |cons x l ih=>
  intro i
  simp only [Ee,List.any_cons]
  rcases Bool.eq_false_or_eq_true (p x) with hp|hp
  ·simp [hp]
  ·have:=ih (i+1)
   simp only [hp,cond_false,Bool.false_or]
   exact this
end
def aj3(m:Int):Int:=aI .i64 (Ah .i64 1 m-1)
def inP(m x:Int):Bool:=inR x 0 (aj3 m)
end Go.Abs
namespace Go.Abs
theorem Kq{n:Nat}(h:n<9223372036854775808):aI .i64 (n:Int)=n:=jK (by omega) (by omega)
theorem Ky{n:Nat}(h:n<18446744073709551616):(BitVec.ofInt 64 (n:Int)).toNat=n:=by
 rw [BitVec.ofInt_natCast,BitVec.toNat_ofNat,Nat.mod_eq_of_lt h]
theorem yO{a b:Nat}(ha:a<2 ^ 63)(hb:b<2 ^ 63):yN .i64 (a:Int) (b:Int)=((a^^^b:Nat):Int):=by
 have hx:a^^^b<2 ^ 63:=Nat.xor_lt_two_pow ha hb
 have:(BitVec.ofInt 64 (a:Int)^^^BitVec.ofInt 64 (b:Int)).toNat=a^^^b:=by
  rw [BitVec.toNat_xor,Ky (by omega),Ky (by omega)]
 unfold yN
 show aI .i64 (((BitVec.ofInt 64 (a:Int)^^^BitVec.ofInt 64 (b:Int)).toNat:Nat):Int)=_
 rw [this,Kq (by omega)]
theorem agA{a b:Nat}(ha:a<2 ^ 63)(hb:b<2 ^ 63):KU .i64 (a:Int) (b:Int)=((a&&&b:Nat):Int):=by
 have hx:a&&&b<2 ^ 63:=Nat.and_lt_two_pow _ hb
 have:(BitVec.ofInt 64 (a:Int)&&&BitVec.ofInt 64 (b:Int)).toNat=a&&&b:=by
  rw [BitVec.toNat_and,Ky (by omega),Ky (by omega)]
 unfold KU
 show aI .i64 (((BitVec.ofInt 64 (a:Int)&&&BitVec.ofInt 64 (b:Int)).toNat:Nat):Int)=_
 rw [this,Kq (by omega)]
theorem agH{a j:Nat}(hj:j≤64):OH .i64 (a:Int) (j:Int)=((a >>> j:Nat):Int):=by
 unfold OH
 rw [Int.toNat_natCast,show min j (IntKind.bits .i64)=j from Nat.min_eq_left hj,Nat.shiftRight_eq_div_pow,Int.fdiv_eq_ediv_of_nonneg _ (by exact_mod_cast Nat.zero_le _)]
 push_cast
 rfl
def AJ(x j:Int):Bool:=decide (KU .i64 (OH .i64 x j) 1=1)
theorem Kg{a j:Nat}(ha:a<2 ^ 63)(hj:j≤64):AJ (a:Int) (j:Int)=a.testBit j:=by
 have h1:a >>> j<2 ^ 63:=by rw [Nat.shiftRight_eq_div_pow];exact Nat.lt_of_le_of_lt (Nat.div_le_self _ _) ha
 unfold AJ
 rw [agH hj,show (1:Int)=((1:Nat):Int) from rfl,agA h1 (by decide),Nat.and_one_is_mod,Nat.testBit_eq_decide_div_mod_eq,Nat.shiftRight_eq_div_pow]
 rw [Bool.eq_iff_iff]
 simp only [decide_eq_true_eq]
 omega
inductive Sp (l:List Nat):Nat→Prop
 |zero:Sp l 0
 |add {r v:Nat}:r∈l→Sp l v→Sp l (r^^^v)
theorem Sp.mem{l:List Nat}{r:Nat}(h:r∈l):Sp l r:=by
 have:=Sp.add h (Sp.zero)
 rwa [Nat.xor_zero] at this
theorem Sp.xor{l:List Nat}{a b:Nat}(ha:Sp l a)(hb:Sp l b):Sp l (a^^^b):=by
 induction ha with
 |zero=>rwa [Nat.zero_xor]
 |add h _ ih=>rw [Nat.xor_assoc];exact .add h ih
theorem Sp.trans{l l':List Nat}(h:∀r∈l,Sp l' r){v:Nat}(hv:Sp l v):Sp l' v:=by
 induction hv with
 |zero=>exact .zero
 |add hr _ ih=>exact (h _ hr).xor ih
def Lo(r p:Nat):Prop:=r.testBit p=true∧∀q,q<p→r.testBit q=false
theorem Lo.uniq{r p q:Nat}(h1:Lo r p)(h2:Lo r q):p=q:=by
 rcases Nat.lt_trichotomy p q with h|h|h
 ·have:=h2.2 p h;rw [h1.1] at this;cases this
 ·exact h
 ·have:=h1.2 q h;rw [h2.1] at this;cases this
def Red(c:Nat)(E:List (Nat×Nat)):Prop:=(∀a∈E,a.1<c∧Lo a.2 a.1)∧E.Pairwise fun a b=>a.1<b.1∧a.2.testBit b.1=false
def comb(f:Nat→Bool):List (Nat×Nat)→Nat
 |[]=>0
 |a::l=>cond (f a.1) (a.2^^^comb f l) (comb f l)
theorem afP(f g:Nat→Bool):∀l:List (Nat×Nat),comb (fun x=>f x ^^ g x) l=comb f l^^^comb g l:=by
 intro l
 induction l with
 |nil=>exact (Nat.xor_self 0).symm
 |cons a l ih=>
  simp only [comb,ih]
  cases f a.1<;>cases g a.1<;>simp only [Bool.false_xor,Bool.true_xor,Bool.not_true,Bool.not_false,cond_true,cond_false]
  ·rw [←Nat.xor_assoc,←Nat.xor_assoc,Nat.xor_comm a.2]
  ·rw [Nat.xor_assoc]
  ·rw [Nat.xor_assoc a.2,Nat.xor_comm (comb f l) (a.2^^^comb g l),←Nat.xor_assoc,←Nat.xor_assoc,Nat.xor_self,Nat.zero_xor,Nat.xor_comm]
theorem Qa(f:Nat→Bool):∀l:List (Nat×Nat),(∀a∈l,f a.1=false)→comb f l=0:=by
 intro l h
 induction l with
 |nil=>rfl
 |cons a l ih=>simp only [comb,h a (.head _),cond_false];exact ih fun x hx=>h x (.tail _ hx)
theorem Mq(f:Nat→Bool){p:Nat}:∀l:List (Nat×Nat),(∀a∈l,a.2.testBit p=false)→(comb f l).testBit p=false:=by
 intro l h
 induction l with
 |nil=>simp [comb]
 |cons a l ih=>
  have:=ih fun x hx=>h x (.tail _ hx)
  simp only [comb]
  cases f a.1
  ·exact this
  ·simp [Nat.testBit_xor,this,h a (.head _)]
theorem Red.tail{c:Nat}{a:Nat×Nat}{l:List (Nat×Nat)}(h:Red c (a::l)):Red c l:=⟨fun x hx=>h.1 x (.tail _ hx),(List.pairwise_cons.1 h.2).2⟩
theorem afO{c:Nat}:∀(E:List (Nat×Nat)),Red c E→∀a∈E,comb (fun p=>p == a.1) E=a.2:=by
 intro E
 induction E with
 |nil=>intro _ a ha;cases ha
 |cons b l ih=>
  intro h a ha
  have hp:=(List.pairwise_cons.1 h.2).1
  simp only [comb]
  cases ha with
  |head=>
   rw [Qa _ l fun x hx=>by have:=(hp x hx).1;simp;omega]
   simp
  |tail _ ha=>
   have:(b.1 == a.1)=false:=by have:=(hp a ha).1;simp;omega
   rw [this]
   exact ih h.tail a ha
theorem Sp.comb{c:Nat}{E:List (Nat×Nat)}(h:Red c E){v:Nat}(hv:Sp (E.map (·.2)) v):∃f,v=Abs.comb f E:=by
 induction hv with
 |zero=>exact ⟨fun _=>false,(Qa _ _ fun _ _=>rfl).symm⟩
 |add hr _ ih=>
  obtain ⟨f,rfl⟩:=ih
  obtain ⟨a,ha,rfl⟩:=List.mem_map.1 hr
  exact ⟨_,by rw [afP (fun p=>p == a.1) f,afO E h a ha]⟩
theorem afM{c:Nat}(f:Nat→Bool):∀(E:List (Nat×Nat)),Red c E→∀a∈E,(comb f E).testBit a.1=f a.1:=by
 intro E
 induction E with
 |nil=>intro _ a ha;cases ha
 |cons b l ih=>
  intro h a ha
  have hp:=(List.pairwise_cons.1 h.2).1
  simp only [comb]
  cases ha with
  |head=>
   have h0:(comb f l).testBit b.1=false:=Mq f l fun x hx=>(h.1 x (.tail _ hx)).2.2 _ (hp x hx).1
   cases hf:f b.1
   ·exact h0
   ·simp [Nat.testBit_xor,h0,(h.1 b (.head _)).2.1]
  |tail _ ha=>
   have hb:=(hp a ha).2
   have:=ih h.tail a ha
   cases f b.1
   ·exact this
   ·simp [Nat.testBit_xor,this,hb]
theorem afN{c:Nat}(f:Nat→Bool):∀(E:List (Nat×Nat)),Red c E→comb f E=0∨∃a∈E,Lo (comb f E) a.1:=by
 intro E
 induction E with
 |nil=>intro _;exact .inl rfl
 |cons b l ih=>
  intro h
  have hp:=(List.pairwise_cons.1 h.2).1
  have hb:=(h.1 b (.head _)).2
  simp only [comb]
  cases f b.1
  ·rcases ih h.tail with h0|⟨a,ha,hl⟩
   ·exact .inl h0
   ·exact .inr ⟨a,.tail _ ha,hl⟩
  ·refine .inr ⟨b,.head _,?_,fun q hq=>?_⟩
   ·have h0:(comb f l).testBit b.1=false:=Mq f l fun x hx=>(h.1 x (.tail _ hx)).2.2 _ (hp x hx).1
    simp [Nat.testBit_xor,h0,hb.1]
   ·have h0:(comb f l).testBit q=false:=Mq f l fun x hx=>(h.1 x (.tail _ hx)).2.2 _ (Nat.lt_trans hq (hp x hx).1)
    simp [Nat.testBit_xor,h0,hb.2 q hq]
theorem Red.apart{c:Nat}:∀{E:List (Nat×Nat)},Red c E→∀{a b:Nat×Nat},a∈E→b∈E→a.1≠b.1→a.2.testBit b.1=false:=by
 intro E
 induction E with
 |nil=>intro _ a b ha;cases ha
 |cons x l ih=>
  intro h a b ha hb hne
  have hp:=(List.pairwise_cons.1 h.2).1
  cases ha with
  |head=>
   cases hb with
   |head=>exact absurd rfl hne
   |tail _ hb=>exact (hp b hb).2
  |tail _ ha=>
   cases hb with
   |head=>exact (h.1 a (.tail _ ha)).2.2 _ (hp a ha).1
   |tail _ hb=>exact ih h.tail ha hb hne
theorem Red.find{c:Nat}{E:List (Nat×Nat)}(h:Red c E){v p:Nat}(hv:Sp (E.map (·.2)) v)(hl:Lo v p):∃a∈E,a.1=p:=by
 obtain ⟨f,rfl⟩:=hv.comb h
 rcases afN f E h with h0|⟨a,ha,hl'⟩
 ·rw [h0] at hl;have:=hl.1;simp at this
 ·exact ⟨a,ha,hl'.uniq hl⟩
theorem Red.sub{c c':Nat}{E E':List (Nat×Nat)}(h:Red c E)(h':Red c' E')(hs:∀v,Sp (E.map (·.2)) v↔Sp (E'.map (·.2)) v):∀a∈E,a∈E':=by
 intro a ha
 have ha1:=(h.1 a ha).2
 have hin:∀b∈E,∃b'∈E',b'.1=b.1:=fun b hb=>h'.find ((hs _).1 (.mem (List.mem_map.2 ⟨b,hb,rfl⟩))) (h.1 b hb).2
 obtain ⟨a',ha',he⟩:=hin a ha
 have ha1':=(h'.1 a' ha').2
 have hw:Sp (E.map (·.2)) (a.2^^^a'.2):=(Sp.mem (List.mem_map.2 ⟨a,ha,rfl⟩)).xor ((hs _).2 (.mem (List.mem_map.2 ⟨a',ha',rfl⟩)))
 obtain ⟨g,hg⟩:=hw.comb h
 have hz:∀b∈E,g b.1=false:=by
  intro b hb
  rw [←afM g E h b hb,←hg,Nat.testBit_xor]
  by_cases hab:a.1=b.1
  ·rw [←hab,ha1.1,←he,ha1'.1];rfl
  ·obtain ⟨b',hb',he'⟩:=hin b hb
   rw [h.apart ha hb hab,←he',h'.apart ha' hb' (by rw [he,he'];exact hab)];rfl
 rw [Qa g E hz] at hg
 have h2:a.2=a'.2:=by
  have h3:=congrArg (· ^^^ a'.2) hg
  simp only [Nat.xor_assoc,Nat.xor_self,Nat.xor_zero,Nat.zero_xor] at h3
  exact h3
 have:a=a':=Prod.ext he.symm h2
 rw [this]
 exact ha'
theorem afh:∀(E E':List (Nat×Nat)),(E.Pairwise fun a b=>a.1<b.1)→(E'.Pairwise fun a b=>a.1<b.1)→(∀a∈E,a∈E')→(∀a∈E',a∈E)→E=E':=by
 intro E
 induction E with
 |nil=>
  intro E' _ _ _ h
  cases E' with
  |nil=>rfl
  |cons b l=>have:=h b (.head _);cases this
 |cons a l ih=>
  intro E' hE hE' h1 h2
  cases E' with
  |nil=>have:=h1 a (.head _);cases this
  |cons b l'=>
   have hp:=List.pairwise_cons.1 hE
   have hp':=List.pairwise_cons.1 hE'
   have hab:a=b:=by
    have i1:=h1 a (.head _)
    have i2:=h2 b (.head _)
    cases i1 with
    |head=>rfl
    |tail _ i1=>
     cases i2 with
     |head=>rfl
     |tail _ i2=>have:=hp'.1 a i1;have:=hp.1 b i2;omega
   subst hab
   congr 1
   refine ih l' hp.2 hp'.2 (fun x hx=>?_) (fun x hx=>?_)
   ·have:=h1 x (.tail _ hx)
    cases this with
    |head=>have:=hp.1 _ hx;omega
    |tail _ h=>exact h
   ·have:=h2 x (.tail _ hx)
    cases this with
    |head=>have:=hp'.1 _ hx;omega
    |tail _ h=>exact h
theorem Red.uniq{c c':Nat}{E E':List (Nat×Nat)}(h:Red c E)(h':Red c' E')(hs:∀v,Sp (E.map (·.2)) v↔Sp (E'.map (·.2)) v):E=E':=
 afh E E' (h.2.imp fun h=>h.1) (h'.2.imp fun h=>h.1) (h.sub h' hs) (h'.sub h fun v=>(hs v).symm)
def jA(rows E:List Nat):Prop:=∃P c,Red c P∧P.map (·.2)=E∧∀v,Sp rows v↔Sp E v
def ech (rows:List Nat):List Nat:=by
 classical
 exact if h:∃E,jA rows E then Classical.choose h else []
theorem jA.eq{rows E E':List Nat}(h:jA rows E)(h':jA rows E'):E=E':=by
 obtain ⟨P,c,hr,rfl,hs⟩:=h
 obtain ⟨P',c',hr',rfl,hs'⟩:=h'
 rw [hr.uniq hr' fun v=>(hs v).symm.trans (hs' v)]
theorem acP{rows E:List Nat}(h:jA rows E):ech rows=E:=by
 have hx:∃E,jA rows E:=⟨E,h⟩
 unfold ech
 rw [dif_pos hx]
 exact (Classical.choose_spec hx).eq h
def lX(c r x:Nat):Nat:=cond (x.testBit c) (x^^^r) x
theorem XT{c r x:Nat}(hr:r.testBit c=true):(lX c r x).testBit c=false:=by
 unfold lX
 cases h:x.testBit c
 ·exact h
 ·simp [Nat.testBit_xor,h,hr]
theorem Ki{c r x q:Nat}(hr:r.testBit q=false):(lX c r x).testBit q=x.testBit q:=by
 unfold lX
 cases x.testBit c
 ·rfl
 ·simp [Nat.testBit_xor,hr]
theorem Ur{c r x b:Nat}(hr:r<2 ^ b)(hx:x<2 ^ b):lX c r x<2 ^ b:=by
 unfold lX
 cases x.testBit c
 ·exact hx
 ·exact Nat.xor_lt_two_pow hx hr
structure Inv(orig:List Nat)(c:Nat)(E:List (Nat×Nat))(R:List Nat):Prop where
 red:Red c E
 low:∀x∈R,∀q,q<c→x.testBit q=false
 span:∀v,Sp orig v↔Sp (E.map (·.2)++R) v
theorem Inv.skip{orig:List Nat}{c:Nat}{E:List (Nat×Nat)}{R:List Nat}(h:Inv orig c E R)(hc:∀x∈R,x.testBit c=false):Inv orig (c+1) E R:=
 ⟨⟨fun a ha=>⟨Nat.lt_succ_of_lt (h.red.1 a ha).1,(h.red.1 a ha).2⟩,h.red.2⟩,fun x hx q hq=>by
  rcases Nat.lt_succ_iff_lt_or_eq.1 hq with h1|rfl
  ·exact h.low x hx q h1
  ·exact hc x hx,h.span⟩
theorem Inv.step{orig:List Nat}{c:Nat}{E:List (Nat×Nat)}{R R':List Nat}{r:Nat}(h:Inv orig c E R)(hr:r∈R)(hb:r.testBit c=true)
  (h1:∀y∈R',y=0∨∃x∈R,y=lX c r x) (h2:∀x∈R,x=r∨lX c r x∈R'):Inv orig (c+1) (E.map (fun a=>(a.1,lX c r a.2))++[(c,r)]) R':=by
 have hlow:=h.low r hr
 refine ⟨⟨?_,?_⟩,?_,?_⟩
 ·intro a ha
  rcases List.mem_append.1 ha with ha|ha
  ·obtain ⟨b,hb',rfl⟩:=List.mem_map.1 ha
   obtain ⟨i1,i2⟩:=h.red.1 b hb'
   refine ⟨Nat.lt_succ_of_lt i1,?_,fun q hq=>?_⟩
   ·dsimp only;rw [Ki (hlow _ i1)];exact i2.1
   ·dsimp only at hq ⊢;rw [Ki (hlow _ (Nat.lt_trans hq i1))];exact i2.2 q hq
  ·simp only [List.mem_singleton] at ha
   subst ha
   exact ⟨Nat.lt_succ_self _,hb,hlow⟩
 ·refine List.pairwise_append.2 ⟨?_,List.pairwise_singleton _ _,?_⟩
  ·refine List.pairwise_map.2 ((List.pairwise_iff_forall_sublist.2 ?_))
   intro a b hs
   have hmem:a∈E∧b∈E:=⟨hs.subset (.head _),hs.subset (.tail _ (.head _))⟩
   have:=List.pairwise_iff_forall_sublist.1 h.red.2 hs
   exact ⟨this.1,by dsimp only;rw [Ki (hlow _ (h.red.1 b hmem.2).1)];exact this.2⟩
  ·intro a ha b hb'
   simp only [List.mem_singleton] at hb'
   subst hb'
   obtain ⟨x,hx,rfl⟩:=List.mem_map.1 ha
   exact ⟨(h.red.1 x hx).1,XT hb⟩
 ·intro y hy q hq
  rcases h1 y hy with rfl|⟨x,hx,rfl⟩
  ·simp
  ·rcases Nat.lt_succ_iff_lt_or_eq.1 hq with h3|rfl
   ·rw [Ki (hlow _ h3)];exact h.low x hx q h3
   ·exact XT hb
 ·have hr1:Sp (E.map (·.2)++R) r:=.mem (List.mem_append_right _ hr)
  have key:∀{L:List Nat}{x:Nat},Sp L r→Sp L x→Sp L (lX c r x):=by
   intro L x i1 i2
   unfold lX
   cases x.testBit c
   ·exact i2
   ·exact i2.xor i1
  have key2:∀{L:List Nat}{x:Nat},Sp L r→Sp L (lX c r x)→Sp L x:=by
   intro L x i1 i2
   unfold lX at i2
   cases hx:x.testBit c
   ·rw [hx] at i2;exact i2
   ·rw [hx] at i2
    have:=Sp.xor i2 i1
    simp only [cond_true] at this
    rwa [Nat.xor_assoc,Nat.xor_self,Nat.xor_zero] at this
  have hmap:(E.map (fun a=>(a.1,lX c r a.2))++[(c,r)]).map (·.2)=E.map (fun a=>lX c r a.2)++[r]:=by simp [List.map_map,Function.comp_def]
  rw [hmap]
  intro v
  rw [h.span v]
  have hr2:Sp (E.map (fun a=>lX c r a.2)++[r]++R') r:=.mem (by simp)
  constructor
  ·refine Sp.trans fun x hx=>?_
   rcases List.mem_append.1 hx with hx|hx
   ·obtain ⟨a,ha,rfl⟩:=List.mem_map.1 hx
    exact key2 hr2 (.mem (List.mem_append_left _ (List.mem_append_left _ (List.mem_map.2 ⟨a,ha,rfl⟩))))
   ·rcases h2 x hx with rfl|h3
    ·exact hr2
    ·exact key2 hr2 (.mem (List.mem_append_right _ h3))
  ·refine Sp.trans fun x hx=>?_
   rcases List.mem_append.1 hx with hx|hx
   ·rcases List.mem_append.1 hx with hx|hx
    ·obtain ⟨a,ha,rfl⟩:=List.mem_map.1 hx
     exact key hr1 (.mem (List.mem_append_left _ (List.mem_map.2 ⟨a,ha,rfl⟩)))
    ·simp only [List.mem_singleton] at hx
     subst hx
     exact hr1
   ·rcases h1 x hx with rfl|⟨y,hy,rfl⟩
    ·exact .zero
    ·exact key hr1 (.mem (List.mem_append_right _ hy))
theorem Inv.done{orig:List Nat}{c:Nat}{E:List (Nat×Nat)}{R:List Nat}(h:Inv orig c E R)(hz:∀x∈R,x=0):jA orig (E.map (·.2)):=by
 refine ⟨E,c,h.red,rfl,fun v=>(h.span v).trans ⟨?_,?_⟩⟩
 ·refine Sp.trans fun x hx=>?_
  rcases List.mem_append.1 hx with hx|hx
  ·exact .mem hx
  ·rw [hz x hx];exact .zero
 ·exact Sp.trans fun x hx=>.mem (List.mem_append_left _ hx)
theorem Inv.start(orig:List Nat):Inv orig 0 [] orig:=⟨⟨fun a ha=>by (cases ha),.nil⟩,fun _ _ q hq=>absurd hq (Nat.not_lt_zero q),fun _=>Iff.rfl⟩
theorem PU{x b:Nat}(h:x<2 ^ b)(hq:∀q,q<b→x.testBit q=false):x=0:=by
 refine Nat.eq_of_testBit_eq fun q=>?_
 rw [Nat.zero_testBit]
 by_cases h1:q<b
 ·exact hq q h1
 ·exact Nat.testBit_lt_two_pow (Nat.lt_of_lt_of_le h (Nat.pow_le_pow_right (by decide) (by omega)))
abbrev up(l:List Nat):List Int:=l.map fun n:Nat=>(n:Int)
theorem ad9{l:List Nat}{i x:Nat}(h:l[i]?=some x):(up l)[i]?=some (x:Int):=by simp [up,h]
theorem Wp(l:List Nat)(i x:Nat):(up l).set i (x:Int)=up (l.set i x):=by simp [up,List.map_set]
theorem rV(l:List Nat):(up l).length=l.length:=by simp [up]
def yT(g:Nat→Nat→Nat)(i:Nat)(l:List Nat):List Nat:=l.mapIdx fun j x=>if j<i then g j x else x
theorem agX(g:Nat→Nat→Nat)(i:Nat)(l:List Nat):(yT g i l).length=l.length:=by simp [yT]
theorem Zp{g:Nat→Nat→Nat}{i j x:Nat}{l:List Nat}(h:l[j]?=some x):(yT g i l)[j]?=some (if j<i then g j x else x):=by simp [yT,h]
theorem ae3(g:Nat→Nat→Nat)(l:List Nat):yT g 0 l=l:=by
 refine List.ext_getElem? fun j=>?_
 simp [yT]
theorem agY{g:Nat→Nat→Nat}{i x:Nat}{l:List Nat}(h:l[i]?=some x):(yT g i l).set i (g i x)=yT g (i+1) l:=by
 refine List.ext_getElem? fun j=>?_
 have hi:i<l.length:=(List.getElem?_eq_some_iff.1 h).1
 rw [List.getElem?_set]
 by_cases hj:i=j
 ·subst hj
  rw [if_pos rfl,agX,if_pos hi,Zp h,if_pos (Nat.lt_succ_self _)]
 ·rw [if_neg hj]
  unfold yT
  rw [List.getElem?_mapIdx,List.getElem?_mapIdx]
  congr 1
  funext y
  by_cases h1:j<i
  ·rw [if_pos h1,if_pos (by omega)]
  ·rw [if_neg h1,if_neg (by omega)]
theorem agW(g:Nat→Nat→Nat)(l:List Nat):yT g l.length l=l.mapIdx g:=by
 refine List.ext_getElem? fun j=>?_
 unfold yT
 rw [List.getElem?_mapIdx,List.getElem?_mapIdx]
 cases h:l[j]? with
 |none=>rfl
 |some x=>simp [(List.getElem?_eq_some_iff.1 h).1]
theorem ae2{β:Type}{step:(Int×List Int)→Tre ((Int×List Int) ⊕ β)}(g:Nat→Nat→Nat)(l:List Nat)(fin:List Int→β)
  (hs:∀(i:Nat) x,l[i]?=some x→(step ((i:Int),up (yT g i l))).run some=some (.inl (((i+1:Nat):Int),up (yT g (i+1) l))))
  (he:(step ((l.length:Int),up (yT g l.length l))).run some=some (.inr (fin (up (yT g l.length l))))):aZ step (0,up l)=some (fin (up (l.mapIdx g))):=by
 have key:∀(n i:Nat),i+n=l.length→aZ step ((i:Int),up (yT g i l))=some (fin (up (l.mapIdx g))):=by
  intro n
  induction n with
  |zero=>
   intro i hi
   have:i=l.length:=hi
   subst this
   rw [←agW]
   exact gQ he
  |succ n ih=>
   intro i hi
   have h1:i<l.length:=by omega
   rw [kK (hs i l[i] (List.getElem?_eq_getElem h1))]
   exact ih (i+1) (by omega)
 have:=key l.length 0 (by omega)
 rw [ae3] at this
 exact this
theorem Zk{A B:List Nat}{r k:Nat}{f:Nat→Nat}{g:Nat→Nat→Nat}(hk:A.length=k)(hg:∀i x,i≠k→g i x=f x)(hr:g k r=r):(A++r::B).mapIdx g=A.map f++r::B.map f:=by
 subst hk
 refine List.ext_getElem? fun i=>?_
 rw [List.getElem?_mapIdx]
 rcases Nat.lt_trichotomy i A.length with h|h|h
 ·rw [List.getElem?_append_left h,List.getElem?_append_left (by simpa using h),List.getElem?_map]
  congr 1
  funext x
  exact hg i x (by omega)
 ·subst h
  rw [List.getElem?_append_right (Nat.le_refl _),List.getElem?_append_right (by simp)]
  simp [hr]
 ·rw [List.getElem?_append_right (by omega),List.getElem?_append_right (by simp;omega),List.length_map]
  obtain ⟨n,hn⟩:∃n,i-A.length=n+1:=⟨i-A.length-1,by omega⟩
  rw [hn,List.getElem?_cons_succ,List.getElem?_cons_succ,List.getElem?_map]
  congr 1
  funext x
  exact hg i x (by omega)
theorem Ga{α:Type}(p:α→Bool):∀(l:List α)(i:Nat),(Ee p i l = -1∧∀x∈l,p x=false)∨∃k x,l[k]?=some x∧p x=true∧Ee p i l=((i+k:Nat):Int):=by
 intro l
 induction l with
 |nil=>intro i;exact .inl ⟨rfl,fun x hx=>by cases hx⟩
 |cons a l ih=>
  intro i
  simp only [Ee]
  cases ha:p a
  ·rcases ih (i+1) with ⟨h1,h2⟩|⟨k,x,h1,h2,h3⟩
   ·exact .inl ⟨h1,fun x hx=>by
     cases hx with
     |head=>exact ha
     |tail _ hx=>exact h2 x hx⟩
   ·exact .inr ⟨k+1,x,h1,h2,by rw [cond_false,h3];congr 1;omega⟩
  ·exact .inr ⟨0,a,rfl,ha,rfl⟩
theorem Zv{α ρ R:Type}{xs:List α}{i:Nat}{x:α}{k:α→Tre ρ}{c:ρ→Option R}(h:xs[i]?=some x) :
  (Tre.ite (0≤(i:Int)∧(i:Int)<(xs.length:Int)) (.mat xs[i]? k)).run c=(k x).run c:=by
 have hi:i<xs.length:=(List.getElem?_eq_some_iff.1 h).1
 rw [Tre.run_ite,if_pos ⟨by omega,by omega⟩,Tre.oZ,h]
 rfl
def Jz(b:Nat)(xs:List Int):Bool:=decide (xs.length≤1048576)&&xs.all fun x=>decide (0≤x)&&decide (x<((2 ^ b:Nat):Int))
theorem Yi{b:Nat}{xs:List Int}(h:Jz b xs=true):∃ns:List Nat,xs=up ns∧ns.length≤1048576∧(∀n∈ns,n<2 ^ b)∧xs.map Int.toNat=ns:=by
 unfold Jz at h
 simp only [Bool.and_eq_true,decide_eq_true_eq,List.all_eq_true] at h
 refine ⟨xs.map Int.toNat,?_,by simpa using h.1,?_,rfl⟩
 ·unfold up
  rw [List.map_map]
  exact ((List.map_congr_left (g:=id) fun x hx=>Int.toNat_of_nonneg (h.2 x hx).1).trans (List.map_id _)).symm
 ·intro n hn
  obtain ⟨x,hx,rfl⟩:=List.mem_map.1 hn
  have:=h.2 x hx
  omega
theorem QU{b:Nat}{ns:List Nat}(h1:ns.length≤1048576)(h2:∀n∈ns,n<2 ^ b):Jz b (up ns)=true:=by
 unfold Jz
 simp only [Bool.and_eq_true,decide_eq_true_eq,List.all_eq_true]
 refine ⟨by simpa using h1,fun x hx=>?_⟩
 obtain ⟨n,hn,rfl⟩:=List.mem_map.1 hx
 have:=h2 n hn
 omega
def YL (xs:List Int):List Int:=up (ech (xs.map Int.toNat))
theorem up_toNat(ns:List Nat):(up ns).map Int.toNat=ns:=by
 unfold up
 rw [List.map_map]
 exact (List.map_congr_left (g:=id) fun x _=>rfl).trans (List.map_id _)
theorem adt{b c:Nat}(h:b≤c):2 ^ b≤2 ^ c:=Nat.pow_le_pow_right (by decide) h
theorem ab6{m:Nat}(h:m≤62):aj3 (m:Int)=((2 ^ m-1:Nat):Int):=by
 have h1:=adt h
 have h2:0<2 ^ m:=Nat.two_pow_pos m
 unfold aj3 Ah
 rw [Int.toNat_natCast,show min m (IntKind.bits .i64)=m from Nat.min_eq_left (by show m≤64;omega),Int.one_mul]
 have h3:(2:Int) ^ m=((2 ^ m:Nat):Int):=by push_cast;rfl
 rw [h3]
 show aI .i64 (aI .i64 _-1)=_
 rw [Kq (by omega),show ((2 ^ m:Nat):Int)-1=((2 ^ m-1:Nat):Int) from by omega,Kq (by omega)]
theorem adX{m:Nat}{x:Int}(h:m≤62)(hx:inP (m:Int) x=true):∃n:Nat,x=(n:Int)∧n<2 ^ m:=by
 unfold inP at hx
 rw [Ag,ab6 h] at hx
 have h2:0<2 ^ m:=Nat.two_pow_pos m
 exact ⟨x.toNat,by omega,by omega⟩
def ahm(a:Int)(xs:List Int):Int:=Rq (β:=Int) (fun (i:Nat) acc x=>.inl (cond (AJ a (i:Int)) (yN .i64 acc x) acc)) id 0 0 xs
end Go.Abs
namespace Go.Abs
end Go.Abs
namespace Go.Abs
end Go.Abs
namespace Go.Abs
def ni:List Nat→List Nat
 |[]=>[0]
 |x::l=>ni l++(ni l).map (x ^^^ ·)
theorem xI:∀l:List Nat,(ni l).length=2 ^ l.length:=by
 intro l
 induction l with
 |nil=>rfl
 |cons x l ih=>simp only [ni,List.length_append,List.length_map,ih,List.length_cons,Nat.pow_succ];omega
theorem ab2:∀l:List Nat,0∈ni l:=by
 intro l
 induction l with
 |nil=>simp [ni]
 |cons x l ih=>exact List.mem_append.2 (.inl ih)
theorem NG(a b:Nat):a^^^(a^^^b)=b:=by rw [←Nat.xor_assoc,Nat.xor_self,Nat.zero_xor]
theorem adC:∀{l:List Nat}{r v:Nat},r∈l→v∈ni l→r^^^v∈ni l:=by
 intro l
 induction l with
 |nil=>intro r v hr;cases hr
 |cons x l ih=>
  intro r v hr hv
  simp only [ni,List.mem_append,List.mem_map] at hv ⊢
  cases hr with
  |head=>
   rcases hv with hv|⟨w,hw,rfl⟩
   ·exact .inr ⟨v,hv,rfl⟩
   ·exact .inl (by rw [NG];exact hw)
  |tail _ hr=>
   rcases hv with hv|⟨w,hw,rfl⟩
   ·exact .inl (ih hr hv)
   ·exact .inr ⟨r^^^w,ih hr hw,by rw [←Nat.xor_assoc,Nat.xor_comm x r,Nat.xor_assoc]⟩
theorem Sp.sums{l:List Nat}{v:Nat}(h:Sp l v):v∈ni l:=by
 induction h with
 |zero=>exact ab2 l
 |add hr _ ih=>exact adC hr ih
theorem TR:∀{l:List Nat}{v:Nat},v∈ni l→Sp l v:=by
 intro l
 induction l with
 |nil=>intro v hv;simp only [ni,List.mem_singleton] at hv;subst hv;exact .zero
 |cons x l ih=>
  intro v hv
  simp only [ni,List.mem_append,List.mem_map] at hv
  have hs:∀{w},Sp l w→Sp (x::l) w:=fun h=>h.trans fun r hr=>Sp.mem (.tail _ hr)
  rcases hv with hv|⟨w,hw,rfl⟩
  ·exact hs (ih hv)
  ·exact .add (.head _) (hs (ih hw))
theorem ab3{p:Nat}:∀{l:List Nat}{v:Nat},(∀r∈l,r.testBit p=false)→v∈ni l→v.testBit p=false:=by
 intro l
 induction l with
 |nil=>intro v _ hv;simp only [ni,List.mem_singleton] at hv;subst hv;simp
 |cons x l ih=>
  intro v h hv
  simp only [ni,List.mem_append,List.mem_map] at hv
  rcases hv with hv|⟨w,hw,rfl⟩
  ·exact ih (fun r hr=>h r (.tail _ hr)) hv
  ·rw [Nat.testBit_xor,h x (.head _),ih (fun r hr=>h r (.tail _ hr)) hw];rfl
theorem Red.nodup{c:Nat}:∀{E:List (Nat×Nat)},Red c E→(ni (E.map (·.2))).Nodup:=by
 intro E
 induction E with
 |nil=>intro _;simp [ni]
 |cons a l ih=>
  intro h
  have hp:=(List.pairwise_cons.1 h.2).1
  have hl:∀r∈l.map (·.2),r.testBit a.1=false:=by
   intro r hr
   obtain ⟨b,hb,rfl⟩:=List.mem_map.1 hr
   exact ((h.1 b (.tail _ hb)).2).2 a.1 (hp b hb).1
  have ha:a.2.testBit a.1=true:=(h.1 a (.head _)).2.1
  simp only [List.map_cons,ni]
  rw [List.nodup_append]
  refine ⟨ih h.tail,?_,?_⟩
  ·rw [List.nodup_iff_pairwise_ne]
   refine List.pairwise_map.2 ((List.nodup_iff_pairwise_ne.1 (ih h.tail)).imp ?_)
   intro x y hxy hne
   exact hxy (by rw [←NG a.2 x,hne,NG])
  ·intro x hx y hy hxy
   obtain ⟨w,hw,rfl⟩:=List.mem_map.1 hy
   have h1:=ab3 hl hx
   have h2:=ab3 hl hw
   rw [hxy,Nat.testBit_xor,ha,h2] at h1
   cases h1
theorem Vw{α:Type} [DecidableEq α]:∀{l l':List α},l.Nodup→(∀x∈l,x∈l')→l.length≤l'.length:=by
 intro l
 induction l with
 |nil=>intro l' _ _;exact Nat.zero_le _
 |cons x l ih=>
  intro l' hn hs
  rw [List.nodup_cons] at hn
  have hx:=hs x (.head _)
  have:=ih (l':=l'.erase x) hn.2 (fun y hy=>by
   have hne:y≠x:=by rintro rfl;exact hn.1 hy
   exact (List.mem_erase_of_ne hne).2 (hs y (.tail _ hy)))
  rw [List.length_erase_of_mem hx] at this
  have hpos:0<l'.length:=List.length_pos_of_mem hx
  simp only [List.length_cons]
  omega
theorem jA.le{rows E:List Nat}(h:jA rows E):E.length≤rows.length:=by
 obtain ⟨P,c,hr,rfl,hs⟩:=h
 have:=Vw hr.nodup (fun x hx=>((hs x).2 (TR hx)).sums)
 rw [xI,xI] at this
 exact (Nat.pow_le_pow_iff_right (by decide)).1 this
theorem Sp.map{rows:List Nat}{f:Nat→Nat}(h0:f 0=0)(hf:∀a b,f (a^^^b)=f a^^^f b){v:Nat}(h:Sp rows v):Sp (rows.map f) (f v):=by
 induction h with
 |zero=>rw [h0];exact .zero
 |add hr _ ih=>rw [hf];exact .add (List.mem_map.2 ⟨_,hr,rfl⟩) ih
end Go.Abs
namespace Go.Abs
def wD(h:Nat):Nat→List Nat→Nat
 |_,[]=>0
 |i,x::l=>cond (h.testBit i) x 0^^^wD h (i+1) l
theorem Yn{h:Nat}:∀(l:List Nat)(i:Nat),(∀q,i≤q→h.testBit q=false)→wD h i l=0:=by
 intro l
 induction l with
 |nil=>intro i _;rfl
 |cons x l ih=>
  intro i hq
  simp only [wD]
  rw [hq i (Nat.le_refl i),ih (i+1) fun q h=>hq q (by omega),cond_false,Nat.xor_self]
theorem Q8(l:List Nat)(i:Nat):wD 0 i l=0:=Yn l i fun q _=>Nat.zero_testBit q
theorem ahx(x a b:Nat):a^^^b=(x^^^a)^^^(x^^^b):=by
 rw [Nat.xor_comm x a,Nat.xor_assoc,←Nat.xor_assoc x x b,Nat.xor_self,Nat.zero_xor]
theorem abV(a b:Nat):∀(l:List Nat)(i:Nat),wD (a^^^b) i l=wD a i l^^^wD b i l:=by
 intro l
 induction l with
 |nil=>intro i;exact (Nat.xor_self 0).symm
 |cons x l ih=>
  intro i
  simp only [wD]
  rw [ih,Nat.testBit_xor]
  cases a.testBit i<;>cases b.testBit i
  ·simp only [Bool.xor_false,cond_false,Nat.zero_xor]
  ·simp only [Bool.false_xor,cond_true,cond_false,Nat.zero_xor]
   rw [Nat.xor_comm,Nat.xor_assoc,Nat.xor_comm (wD b (i+1) l)]
  ·simp only [Bool.xor_false,cond_true,cond_false,Nat.zero_xor]
   rw [Nat.xor_assoc]
  ·simp only [Bool.xor_self,cond_true,cond_false,Nat.zero_xor]
   exact ahx x _ _
theorem V6:∀(l:List Nat)(i j:Nat){x:Nat},l[j]?=some x→wD (2 ^ (i+j)) i l=x:=by
 intro l
 induction l with
 |nil=>intro i j x h;simp at h
 |cons y l ih=>
  intro i j x h
  simp only [wD]
  cases j with
  |zero=>
   simp only [List.getElem?_cons_zero,Option.some.injEq] at h
   subst h
   rw [Nat.add_zero,Nat.testBit_two_pow_self,cond_true,Yn l (i+1) fun q hq=>by rw [Nat.testBit_two_pow];exact decide_eq_false (by omega),Nat.xor_zero]
  |succ j=>
   simp only [List.getElem?_cons_succ] at h
   rw [Nat.testBit_two_pow,decide_eq_false (by omega),cond_false,Nat.zero_xor,show i+(j+1)=i+1+j by omega]
   exact ih (i+1) j h
theorem aiG(h:Nat)(l':List Nat):∀(l:List Nat)(i:Nat),(∀x∈l,x∈l')→Sp l' (wD h i l):=by
 intro l
 induction l with
 |nil=>intro i _;exact .zero
 |cons x l ih=>
  intro i hs
  simp only [wD]
  have h1:=ih (i+1) fun y hy=>hs y (.tail _ hy)
  cases h.testBit i
  ·rw [cond_false,Nat.zero_xor];exact h1
  ·exact .add (hs x (.head _)) h1
theorem adF{a b:Nat}(ha:a<2 ^ 63)(hb:b≤62):∀(ns:List Nat)(i acc:Nat),i+ns.length≤64→acc<2 ^ b→(∀n∈ns,n<2 ^ b) →
  Rq (β:=Int) (fun (i:Nat) acc x=>.inl (cond (AJ (a:Int) (i:Int)) (yN .i64 acc x) acc)) id i (acc:Int) (up ns)=((acc^^^wD a i ns:Nat):Int):=by
 intro ns
 have hp:=adt hb
 induction ns with
 |nil=>intro i acc _ _ _;simp [wD,Rq,up]
 |cons n ns ih=>
  intro i acc hi hacc hn
  simp only [List.length_cons] at hi
  have h1:=hn n (.head _)
  show Rq _ id (i+1) (cond (AJ (a:Int) (i:Int)) (yN .i64 (acc:Int) (n:Int)) (acc:Int)) (up ns)=_
  rw [Kg ha (by omega)]
  simp only [wD]
  cases a.testBit i
  ·rw [cond_false,cond_false,Nat.zero_xor]
   exact ih (i+1) acc (by omega) hacc fun x hx=>hn x (.tail _ hx)
  ·rw [cond_true,cond_true,yO (by omega) (by omega),ih (i+1) (acc^^^n) (by omega) (Nat.xor_lt_two_pow hacc h1) fun x hx=>hn x (.tail _ hx),Nat.xor_assoc]
theorem afk{a b:Nat}{ns:List Nat}(ha:a<2 ^ 63)(hb:b≤62)(hl:ns.length≤64)(hn:∀n∈ns,n<2 ^ b):ahm (a:Int) (up ns)=((wD a 0 ns:Nat):Int):=by
 have:=adF ha hb ns 0 0 (by omega) (Nat.two_pow_pos b) hn
 rw [Nat.zero_xor] at this
 exact this
structure NJ(N:Nat)(S:List Nat):Prop where
 len:S.length=N
 head:∀i x,S[i]?=some x→x&&&(2 ^ N-1)=2 ^ i
theorem NJ.bit{N:Nat}{S:List Nat}(h:NJ N S){i x q:Nat}(hx:S[i]?=some x)(hq:q<N):x.testBit q=decide (i=q):=by
 have:=congrArg (·.testBit q) (h.head i x hx)
 simpa [Nat.testBit_and,Nat.testBit_two_pow_sub_one,Nat.testBit_two_pow,hq] using this
theorem NJ.back{N:Nat}{S:List Nat}(h:NJ N S){v:Nat}(hv:Sp S v):wD (v&&&(2 ^ N-1)) 0 S=v:=by
 induction hv with
 |zero=>rw [Nat.zero_and,Q8]
 |add hr _ ih=>
  obtain ⟨i,hi⟩:=List.getElem?_of_mem hr
  rw [Nat.and_xor_distrib_right,abV,ih,h.head i _ hi]
  have:=V6 S 0 i hi
  rw [Nat.zero_add] at this
  rw [this]
theorem Wd:∀(l:List (Nat×Nat))(lo b:Nat),(l.Pairwise fun a b=>a.1<b.1)→(∀a∈l,lo≤a.1∧a.1<b)→l.length≤b-lo:=by
 intro l
 induction l with
 |nil=>intro lo b _ _;exact Nat.zero_le _
 |cons a l ih=>
  intro lo b h hb
  obtain ⟨h1,h2⟩:=List.pairwise_cons.1 h
  have:=ih (a.1+1) b h2 fun x hx=>⟨h1 x hx,(hb x (.tail _ hx)).2⟩
  have h0:=hb a (.head _)
  simp only [List.length_cons]
  omega
theorem PG:∀(l:List (Nat×Nat))(lo:Nat),(l.Pairwise fun a b=>a.1<b.1)→(∀a∈l,lo≤a.1∧a.1<lo+l.length)→∀(i:Nat)(a:Nat×Nat),l[i]?=some a→a.1=lo+i:=by
 intro l
 induction l with
 |nil=>intro lo _ _ i a h;simp at h
 |cons b l ih=>
  intro lo h hb i a ha
  obtain ⟨h1,h2⟩:=List.pairwise_cons.1 h
  simp only [List.length_cons] at hb
  have h0:=hb b (.head _)
  have hl:=Wd l (b.1+1) (lo+(l.length+1)) h2 fun x hx=>⟨h1 x hx,(hb x (.tail _ hx)).2⟩
  have hb0:b.1=lo:=by omega
  cases i with
  |zero=>simp only [List.getElem?_cons_zero,Option.some.injEq] at ha;subst ha;exact hb0
  |succ i=>
   simp only [List.getElem?_cons_succ] at ha
   rw [ih (lo+1) h2 (fun x hx=>⟨by have:=h1 x hx;omega,by have:=(hb x (.tail _ hx)).2;omega⟩) i a ha]
   omega
theorem NJ.full{N:Nat}{S rows E:List Nat}(h:NJ N S)(hs:∀r∈rows,Sp S r)(he:jA rows E)(hl:E.length=N):E=S:=by
 obtain ⟨P,c,hr,rfl,hsp⟩:=he
 rw [List.length_map] at hl
 have hin:∀a∈P,Sp S a.2:=fun a ha=>Sp.trans hs ((hsp a.2).2 (Sp.mem (List.mem_map.2 ⟨a,ha,rfl⟩)))
 have hpos:∀a∈P,a.1<N:=fun a ha=>by
  refine Nat.lt_of_not_le fun hge=>?_
  have h0:a.2&&&(2 ^ N-1)=0:=by
   refine Nat.eq_of_testBit_eq fun q=>?_
   rw [Nat.testBit_and,Nat.testBit_two_pow_sub_one,Nat.zero_testBit]
   by_cases hq:q<N
   ·rw [(hr.1 a ha).2.2 q (by omega)];rfl
   ·rw [decide_eq_false hq,Bool.and_false]
  have h1:=h.back (hin a ha)
  rw [h0,Q8] at h1
  have h2:=(hr.1 a ha).2.1
  rw [←h1,Nat.zero_testBit] at h2
  cases h2
 have hidx:=PG P 0 (hr.2.imp fun h=>h.1) fun a ha=>⟨Nat.zero_le _,by have:=hpos a ha;omega⟩
 refine List.ext_getElem? fun i=>?_
 rw [List.getElem?_map]
 cases ha:P[i]? with
 |none=>
  have hi:=List.getElem?_eq_none_iff.1 ha
  rw [List.getElem?_eq_none_iff.2 (show S.length≤i by have:=h.len;omega)]
  rfl
 |some a=>
  have hi:i<P.length:=(List.getElem?_eq_some_iff.1 ha).1
  have ham:=List.mem_of_getElem? ha
  have ha1:a.1=i:=by rw [hidx i a ha];omega
  have hiS:i<S.length:=by have:=h.len;omega
  have hx:S[i]?=some S[i]:=List.getElem?_eq_getElem hiS
  have hhead:a.2&&&(2 ^ N-1)=2 ^ i:=by
   refine Nat.eq_of_testBit_eq fun q=>?_
   rw [Nat.testBit_and,Nat.testBit_two_pow_sub_one,Nat.testBit_two_pow]
   by_cases hq:q<N
   ·rw [decide_eq_true hq,Bool.and_true]
    by_cases hqi:i=q
    ·subst hqi;rw [decide_eq_true rfl,←ha1];exact (hr.1 a ham).2.1
    ·have hb:P[q]?=some P[q]:=List.getElem?_eq_getElem (by omega)
     have hb1:P[q].1=q:=by rw [hidx q _ hb];omega
     have:=hr.apart ham (List.mem_of_getElem? hb) (by omega)
     rw [hb1] at this
     rw [this,decide_eq_false hqi]
   ·rw [decide_eq_false hq,Bool.and_false,decide_eq_false (by omega)]
  have h1:=h.back (hin a ham)
  have h2:=V6 S 0 i hx
  rw [Nat.zero_add] at h2
  rw [hhead,h2] at h1
  rw [hx,Option.map_some,h1]
theorem NJ.ech{N:Nat}{S:List Nat}(h:NJ N S):jA S S:=by
 refine ⟨(List.range N).zip S,N,⟨fun a ha=>?_,?_⟩,?_,fun v=>Iff.rfl⟩
 ·obtain ⟨i,hi⟩:=List.getElem?_of_mem ha
  rw [List.getElem?_zip_eq_some] at hi
  obtain ⟨h1,h2⟩:=hi
  have hiN:i<N:=by have:=(List.getElem?_eq_some_iff.1 h1).1;simpa using this
  rw [List.getElem?_range hiN,Option.some.injEq] at h1
  refine ⟨by omega,by rw [h.bit h2 (by omega)];exact decide_eq_true h1,fun q hq=>by rw [h.bit h2 (by omega)];exact decide_eq_false (by omega)⟩
 ·rw [List.pairwise_iff_getElem]
  intro i j hi hj hij
  simp only [List.length_zip,List.length_range,h.len,Nat.min_self] at hi hj
  simp only [List.getElem_zip,List.getElem_range]
  refine ⟨hij,?_⟩
  rw [h.bit (List.getElem?_eq_getElem (by have:=h.len;omega)) hj]
  exact decide_eq_false (by omega)
 ·exact List.map_snd_zip (by simp [h.len])
theorem jA.heads{N:Nat}{rows E A:List Nat}(h:jA rows E)(hA:jA (rows.map (· &&& (2 ^ N-1))) A)(hE:E.length=N)(hAl:A.length=N):NJ N E:=by
 obtain ⟨P,c,hr,rfl,hs⟩:=h
 rw [List.length_map] at hE
 have hlow:∀a∈P,a.1<N:=by
  intro a ha
  refine Decidable.byContradiction fun hn=>?_
  have hz:∀q,q<N→a.2.testBit q=false:=fun q hq=>(hr.1 a ha).2.2 q (by omega)
  have hza:a.2&&&(2 ^ N-1)=0:=by
   refine Nat.eq_of_testBit_eq fun q=>?_
   rw [Nat.testBit_and,Nat.testBit_two_pow_sub_one,Nat.zero_testBit]
   by_cases hq:q<N
   ·rw [hz q hq];rfl
   ·simp [hq]
  have hA2:jA (((P.erase a).map (·.2)).map (· &&& (2 ^ N-1))) A:=by
   obtain ⟨Q,d,h1,h2,h3⟩:=hA
   refine ⟨Q,d,h1,h2,fun v=>Iff.trans ⟨fun hv=>?_,fun hv=>?_⟩ (h3 v)⟩
   ·refine Sp.trans (fun x hx=>?_) hv
    obtain ⟨y,hy,rfl⟩:=List.mem_map.1 hx
    obtain ⟨b,hb,rfl⟩:=List.mem_map.1 hy
    have:=((hs b.2).2 (Sp.mem (List.mem_map.2 ⟨b,List.mem_of_mem_erase hb,rfl⟩))).map (f:=(· &&& (2 ^ N-1))) (Nat.zero_and _) (fun a b=>Nat.and_xor_distrib_right)
    exact this
   ·have key:∀w,Sp (P.map (·.2)) w→Sp (((P.erase a).map (·.2)).map (· &&& (2 ^ N-1))) (w&&&(2 ^ N-1)):=by
     intro w hw
     induction hw with
     |zero=>rw [Nat.zero_and];exact .zero
     |add hx _ ih=>
      obtain ⟨b,hb,rfl⟩:=List.mem_map.1 hx
      rw [Nat.and_xor_distrib_right]
      by_cases hba:b=a
      ·rw [hba,hza,Nat.zero_xor];exact ih
      ·exact .add (List.mem_map.2 ⟨b.2,List.mem_map.2 ⟨b,(List.mem_erase_of_ne hba).2 hb,rfl⟩,rfl⟩) ih
    refine Sp.trans (fun x hx=>?_) hv
    obtain ⟨r,hr2,rfl⟩:=List.mem_map.1 hx
    exact key r ((hs r).1 (Sp.mem hr2))
  have:=hA2.le
  rw [List.length_map,List.length_map,List.length_erase_of_mem ha] at this
  have:=List.length_pos_of_mem ha
  omega
 have hsort:=hr.2.imp (S:=fun a b:Nat×Nat=>a.1<b.1) fun h=>h.1
 have hat:=PG P 0 hsort fun a ha=>⟨Nat.zero_le _,by have:=hlow a ha;omega⟩
 refine ⟨by rw [List.length_map];exact hE,fun i x hx=>?_⟩
 rw [List.getElem?_map] at hx
 obtain ⟨a,ha,rfl⟩:=Option.map_eq_some_iff.1 hx
 have hai:=hat i a ha
 have ham:=List.mem_of_getElem? ha
 have hiN:=hlow a ham
 refine Nat.eq_of_testBit_eq fun q=>?_
 rw [Nat.testBit_and,Nat.testBit_two_pow_sub_one,Nat.testBit_two_pow]
 by_cases hq:q<N
 ·obtain ⟨b,hb⟩:∃b,P[q]?=some b:=⟨_,List.getElem?_eq_getElem (by omega)⟩
  have hbq:=hat q b hb
  by_cases hiq:i=q
  ·subst hiq
   have:=(hr.1 a ham).2.1
   rw [show a.1=i by omega] at this
   simp [this,hq]
  ·have:=hr.apart ham (List.mem_of_getElem? hb) (by omega)
   rw [show b.1=q by omega] at this
   simp [this,hiq]
 ·have:i≠q:=by omega
  simp [hq,this]
end Go.Abs
namespace Go.Abs
end Go.Abs
namespace Go.Abs
abbrev K.n:K:=.int .i64
abbrev K.il:K:=.sl (.int .i64)
abbrev AV.i(x:Int):AV:=.imm true (.int .i64) x
section
variable {R R' : Type} {r : R'} {g : R → Option R'}
theorem iq{k:K}{a:AV}{c:Bool→k.den→Tre R}{W:Prop}(h:∀z d,(c z d).run g=some r→a=.imm z k d→W)(e:(bX k a c).run g=some r):W:=
 let ⟨z,d,e1,e2⟩:=lF e
 h z d e2 e1
theorem aU{z0:Bool}{k:K}{a:AV}{c:k.den→Tre R}{W:Prop}(h:∀d,(c d).run g=some r→a=.imm z0 k d→W)(e:(aD z0 k a c).run g=some r):W:=
 let ⟨d,e1,e2⟩:=dA e
 h d e2 e1
theorem tNn{e:K}{a:AV}{c:Bool→List e.den→Tre R}{W:Prop}(h:∀z d,(c z d).run g=some r→a=.nn z e d→W)(e:(ahJ e a c).run g=some r):W:=
 let ⟨z,d,e1,e2⟩:=aef e
 h z d e2 e1
theorem J9{q:ah}{p:Path}{a:AV}{c:Tre R}{W:Prop}(h:(c).run g=some r→a=.ref q p→W)(e:(nJ q p a c).run g=some r):W:=
 let ⟨e1,e2⟩:=uG e
 h e2 e1
theorem Ap{q:ah}{p:Path}{a:AV}{c:Tre R}{W:Prop}(h:(c).run g=some r→a=.ptr q p→W)(e:(nu q p a c).run g=some r):W:=
 let ⟨e1,e2⟩:=Ue e
 h e2 e1
theorem tFn{f:Nat}{caps:List ah}{a:AV}{c:Tre R}{W:Prop}(h:(c).run g=some r→a=.fn f caps→W)(e:(Hr f caps a c).run g=some r):W:=
 let ⟨e1,e2⟩:=Ar e
 h e2 e1
theorem akL{a:AV}{c:Tre R}{W:Prop}(h:(c).run g=some r→a=.nil→W)(e:(adO a c).run g=some r):W:=
 let ⟨e1,e2⟩:=acj e
 h e2 e1
theorem aJ{α:Type}{l:List α}{c:α→List α→Tre R}{W:Prop}(h:∀x y,(c x y).run g=some r→l=x::y→W)(e:(aA l c).run g=some r):W:=
 let ⟨x,y,e1,e2⟩:=Cv e
 h x y e2 e1
theorem bD{α:Type}{l:List α}{c:Tre R}{W:Prop}(h:(c).run g=some r→l=[]→W)(e:(aK l c).run g=some r):W:=
 let ⟨e1,e2⟩:=AB e
 h e2 e1
theorem tRt{mem:Bool}{k:K}{x:Root}{c:Mask→k.den→Tre R}{W:Prop}(h:∀m d,(c m d).run g=some r→x=⟨mem,k,m,d⟩→W)(e:(uH mem k x c).run g=some r):W:=
 let ⟨m,d,e1,e2⟩:=P5 e
 h m d e2 e1
theorem mP{mem:Bool}{k:K}{o:Option Root}{c:Mask→k.den→Tre R}{W:Prop}(h:∀m d,(c m d).run g=some r→o=some ⟨mem,k,m,d⟩→W)(e:(dY mem k o c).run g=some r):W:=
 let ⟨m,d,e1,e2⟩:=gY e
 h m d e2 e1
theorem tM{m0 m:Mask}{c:Tre R}{W:Prop}(h:(c).run g=some r→m=m0→W)(e:(asM m0 m c).run g=some r):W:=
 let ⟨e1,e2⟩:=nI e
 h e2 e1
theorem Hq{m:Mask}{c:Bool→Tre R}{W:Prop}(h:∀z,(c z).run g=some r→m=.imm z→W)(e:(ru m c).run g=some r):W:=
 let ⟨z,e1,e2⟩:=Ir e
 h z e2 e1
end
theorem jf{V:Env}{A:List (Nat×bS)}{a:Code}{kp kx:Keep}{D:St→Tre (Ex×St)} (h:∀(s:St)(e:Ex)(s':St),(D (restrict kp s)).run some=some (e,s') →
  ∃(σ β:Type) (mk:σ→St) (out:β→Ex×St) (step:σ→Tre (σ ⊕ β)) (x:σ) (b:β),restrict kp s=mk x∧aZ step x=some b∧out b=(e,s') ∧
   ∀(x:σ)(c:St→Option (Ex×St)),den V A a (mk x) (fE kp kx c)=(step x).run (fF mk out c)):dZ V A a ⟨kp,kx,D⟩:=mh h
theorem gB{V:Env}{A:List (Nat×bS)}{a:Code}{kp kx:Keep}{σ β:Type}{mk:σ→St}{out:β→Ex×St}{step:σ→Tre (σ ⊕ β)}{s:St}{e:Ex×St}{x:σ}
  (h4:∀(x:σ)(c:St→Option (Ex×St)),den V A a (mk x) (fE kp kx c)=(step x).run (fF mk out c)) (h:(Tre.mat (aZ step x) fun y=>Tre.ret (out y)).run some=some e) (h1:restrict kp s=mk x) :
  ∃(σ β:Type) (mk:σ→St) (out:β→Ex×St) (step:σ→Tre (σ ⊕ β)) (x:σ) (b:β),restrict kp s=mk x∧aZ step x=some b∧out b=e ∧
   ∀(x:σ)(c:St→Option (Ex×St)),den V A a (mk x) (fE kp kx c)=(step x).run (fF mk out c):=by
 obtain ⟨y,hy,hz⟩:=TL h
 exact ⟨σ,β,mk,out,step,x,y,h1,hy,Option.some.inj hz,h4⟩
def fnI(fn:Func)(A:List (Nat×bS)):FnI:=⟨fn.body.getD .skip,fn.results.toList,fn.resultTypes.toList,A⟩
def fJ(rw:List Nat)(G:List AV→List Root→Tre au):Ctr:=⟨rw,fun ci=>G ci.args ci.roots,false⟩
theorem aB{P:Program}{V:Env}{Γ:Glb}{fn:Func}{A:List (Nat×bS)}{G:List AV→List Root→Tre au}{f:FuncId}{rw:List Nat}(hT:gW P V)(hE:XG P Γ V)(hf:P.funcs[f]?=some fn)(hL:qC V A (fn.body.getD .skip))
  (h:∀av rs co,(G av rs).run some=some co→(Tre.mat (bU V (fnI fn A) ⟨av,rs⟩) Tre.ret).run some=some co) (hb:fn.body=some (fn.body.getD .skip):=by kernel_rfl)
  (hd:yt fn.ntmps (fn.body.getD .skip)=true:=by kernel_rfl):Contract P Γ f (fJ rw G):=
 (aat (F:=fnI fn A) hT hE hf hb rfl hd hL rw).weaken fun ci co h'=>h ci.args ci.roots co h'
theorem bN{V:Env}{A:List (Nat×bS)}{c:Code}(h:(fM c).length=0:=by kernel_rfl):qC V A c:=abq h
theorem eH{V:Env}{A:List (Nat×bS)}{a:Code}{id:Nat}{L:bS}(h:dZ V A a L)(h1:eP a=some id:=by kernel_rfl)(h2:iA id A=some L:=by kernel_rfl):∀i L',eP a=some i→iA i A=some L'→dZ V A a L':=aeZ h1 h2 h
theorem dw{V:Env}{A:List (Nat×bS)}{c:Code}{n:Nat}(h:∀k,k<n→∀i L,eP (bF c k)=some i→iA i A=some L→dZ V A (bF c k) L)(hn:(fM c).length=n:=by kernel_rfl):qC V A c:=abp hn h
end Go.Abs
namespace Go.Abs
open Go.Sort
def aha(zs:List Int):List Int:=zs.mergeSort fun x y=>decide (x≤y)
def adf(x:Int):List Int→List Int
 |[]=>[x]
 |y::l=>cond (decide (x≤y)) (x::y::l) (y::adf x l)
def J8:List Int→List Int
 |[]=>[]
 |x::l=>adf x (J8 l)
theorem X5(x:Int):∀l:List Int,(adf x l).Perm (x::l):=by
 intro l
 induction l with
 |nil=>exact .refl _
 |cons y l ih=>
  simp only [adf]
  cases decide (x≤y) with
  |true=>exact .refl _
  |false=>exact (List.Perm.cons y ih).trans (.swap x y l)
theorem NC:∀l:List Int,(J8 l).Perm l:=by
 intro l
 induction l with
 |nil=>exact .refl _
 |cons x l ih=>exact (X5 x _).trans (.cons x ih)
theorem aa7(x:Int):∀l:List Int,l.Pairwise (·≤·)→(adf x l).Pairwise (·≤·):=by
 intro l
 induction l with
 |nil=>intro _;simp [adf]
 |cons y l ih=>
  intro h
  obtain ⟨h1,h2⟩:=List.pairwise_cons.1 h
  simp only [adf]
  by_cases hx:x≤y
  ·rw [decide_eq_true hx,cond_true]
   refine List.pairwise_cons.2 ⟨fun z hz=>?_,h⟩
   rcases List.mem_cons.1 hz with rfl|hz
   ·exact hx
   ·exact Int.le_trans hx (h1 z hz)
  ·rw [decide_eq_false hx,cond_false]
   refine List.pairwise_cons.2 ⟨fun z hz=>?_,ih h2⟩
   rcases List.mem_cons.1 ((X5 x l).mem_iff.1 hz) with rfl|hz
   ·omega
   ·exact h1 z hz
theorem PE:∀l:List Int,(J8 l).Pairwise (·≤·):=by
 intro l
 induction l with
 |nil=>exact .nil
 |cons x l ih=>exact aa7 x _ ih
theorem ahb(zs:List Int):aha zs=J8 zs:=by
 have h1:(aha zs).Pairwise (·≤·):=by
  have:=List.pairwise_mergeSort (le:=fun x y:Int=>decide (x≤y)) (by intro a b c;simp;omega) (by intro a b;simp;omega) zs
  exact this.imp fun h=>of_decide_eq_true h
 exact List.Perm.eq_of_pairwise (fun a b _ _ h k=>Int.le_antisymm h k) h1 (PE zs) ((List.mergeSort_perm zs _).trans (NC zs).symm)
theorem aff(zs:List Int):(J8 zs).length=zs.length:=(NC zs).length_eq
structure Eu where
 g:List Int→List Int
 len:∀d,(g d).length=d.length
 cut:Option (List Int→Nat)
 le:∀n,cut=some n→∀d,n d≤d.length
def Eu.res(o:Eu)(d:List Int):AV:=match o.cut with
 |none=>.tnil
 |some n=>.slc (0,0) [] 0 (n d)
def Eu.val(o:Eu)(d:List Int)(a:Option Addr)(cap:Nat):Value:=match o.cut with
 |none=>.tuple #[]
 |some n=>.slice a (n d) cap
def ag4 (o:Eu) (mb:Bool):Ctr:=⟨[0],fun ci=>aA ci.args fun a l=>aK l<|nJ (0,0) [] a<|aA ci.roots fun r l=>aK l<|uH mb (.sl (.int .i64)) r fun m d=>asM .own m<|
 .ite (List.length d<4611686018427387904)<|.ret ⟨o.res d,[⟨mb,.sl (.int .i64),.own,o.g d⟩],[]⟩,false⟩
def ahE(P:Program)(f:FuncId)(o:Eu):Prop:=
 ∀(blk off cap:Nat)(zs:List Int)(w:World),Holds (Value.int .i64) w blk off zs.toArray→blk<w.heap.size→zs.length<4611686018427387904→zs.length≤cap →
  Calls P f #[.slice (some ⟨blk,off,none⟩) zs.length cap] w fun e w'=>e=.returned (o.val zs (some ⟨blk,off,none⟩) cap)∧∃n os,w'=grow (putRow (Value.int .i64) (Sort.ahead w n) blk off (o.g zs).toArray) os
def ahD(P:Program)(f:FuncId)(o:Eu):Prop:=
 ∀(a:Option Addr)(w:World),Calls P f #[.slice a 0 0] w fun e w'=>e=.returned (o.val [] a 0)∧w'=w
theorem ajW{o:Eu}{mb:Bool}{P:Program}{Γ:Glb}{f:FuncId}(h:ahE P f o)(h0:ahD P f o):Contract P Γ f (ag4 o mb):=by
 intro w C ci co vals hM hptr hsz hvals _ hG
 obtain ⟨av,rs⟩:=ci
 simp only at hM hptr hsz hvals
 have g0:(aA av fun a l=>aK l<|nJ (0,0) [] a<|aA rs fun r l=>aK l<|uH mb (.sl (.int .i64)) r fun m d=>asM .own m<|
  .ite (List.length d<4611686018427387904)<|(.ret ⟨o.res d,[⟨mb,.sl (.int .i64),.own,o.g d⟩],[]⟩:Tre au)).run some=some co:=hG
 clear hG
 obtain ⟨a,l,e1,g1⟩:=Cv g0
 obtain ⟨e2,g2⟩:=AB g1
 obtain ⟨e3,g3⟩:=uG g2
 obtain ⟨x,l',e4,g4⟩:=Cv g3
 obtain ⟨e5,g5⟩:=AB g4
 obtain ⟨m,d,e6,g6⟩:=P5 g5
 obtain ⟨e7,hG⟩:=nI g6
 clear g0 g1 g2 g3 g4 g5 g6
 subst e2 e3 e1 e5 e7 e6 e4
 rw [Tre.run_ite] at hG
 split at hG
 case isFalse=>cases hG
 case isTrue hlen=>
 cases hG
 have hx:Nq [⟨mb,.sl (.int .i64),.own,d⟩] (par 0)=some ⟨mb,.sl (.int .i64),.own,d⟩:=rfl
 have hone:∀{y:Root}{q:ah}{z:Root},zR ⟨o.res d,[y],[]⟩ q=some z→q=par 0∧z=y:=by
  rintro y ⟨a,b⟩ z hz
  match a,b,hz with
  |0,0,hz=>exact ⟨rfl,(Option.some.inj hz).symm⟩
  |0,b+1,hz=>cases hz
  |1,b,hz=>cases hz
  |a+2,_,hz=>cases hz
 have hone':∀{ra:AV}{q:ah}{z y:Root},zR ⟨ra,[y],[]⟩ q=some z→q=par 0∧z=y:=by
  rintro ra ⟨a,b⟩ z y hz
  match a,b,hz with
  |0,0,hz=>exact ⟨rfl,(Option.some.inj hz).symm⟩
  |0,b+1,hz=>cases hz
  |1,b,hz=>cases hz
  |a+2,_,hz=>cases hz
 obtain ⟨G0,he,hG0,hmem⟩:=hM.ok _ _ hx
 have he:Enc w C.θ C.Z C.S (.sl (.int .i64)) .own d (C.ρ (par 0)) G0:=he
 obtain ⟨v0,hv0⟩:∃v,vals[0]?=some v:=⟨_,Array.getElem?_eq_getElem (by rw [hsz];simp)⟩
 have ha0:=hvals 0 v0 _ hv0 rfl
 obtain ⟨hA,hcl⟩:=ha0.cell (by simp) rfl (by simp) (by simp)
 have hvv:C.ρ (par 0)=[v0]:=by
  obtain ⟨v',h1,h2⟩:=hA
  simp only [List.cons.injEq,and_true] at h1
  subst h1
  obtain ⟨_,_,_,_,h3⟩:=h2 _ hx
  rw [bM] at h3
  simp only [Option.some.injEq,Prod.mk.injEq] at h3
  exact h3.1
 have hvals1:vals = #[v0]:=by
  apply Array.ext
  ·exact hsz
  ·intro k hk1 hk2
   have hk:k=0:=by have:k<1:=hk2;omega
   subst hk
   rw [Array.getElem?_eq_getElem (by omega)] at hv0
   exact Option.some.inj hv0
 have hlt:∀b,C.F (par 0) b→b<w.heap.size∧¬C.Z b∧¬C.S b:=fun b hb=>by have:=hM.apart _ _ b hx hb;exact ⟨this.2.2,this.1,this.2.1⟩
 have hval:∀(w':World)(v:Value),(∃a cap,v0=.slice a (List.length d) cap∧List.length d≤cap∧v=o.val d a cap)→aT w' C (zR ⟨o.res d,[⟨mb,.sl (.int .i64),.own,o.g d⟩],[]⟩) v (o.res d):=by
  rintro w' v ⟨a,cap,hv0,hcap,rfl⟩
  cases hcut:o.cut with
  |none=>
   unfold Eu.res Eu.val
   rw [hcut]
   exact .inr ⟨[],rfl,rfl⟩
  |some n=>
   have hn:=o.le n hcut d
   have he:o.res d=.slc (0,0) [] 0 (n d):=by unfold Eu.res;rw [hcut]
   have hv:o.val d a cap=.slice a (n d) cap:=by unfold Eu.val;rw [hcut]
   rw [hv,he]
   refine aT.mk ⟨_,v0,rfl,fun y hy=>?_⟩ rfl rfl
   obtain ⟨_,rfl⟩:=hone' hy
   refine ⟨.int .i64,_,rfl,trivial,by rw [bM];show some (C.ρ (par 0),_)=_;rw [hvv],a,List.length d,cap,a,hv0,by omega,hcap,rfl,fun _=>?_⟩
   cases a with
   |none=>rfl
   |some a=>simp [Addr.add]
-- memory behind the call
 have post:∀(w':World)(v:Value),(∃a cap,v0=.slice a (List.length d) cap∧List.length d≤cap∧v=o.val d a cap)→w'.os=w.os→w'.tape=w.tape→w'.output=w.output→w.heap.size≤w'.heap.size→(∀b,b<w.heap.size→¬G0 b→w'.heap[b]?=w.heap[b]?) →
   Enc w' C.θ C.Z C.S (.sl (.int .i64)) .own (o.g d) [v0] G0→∃C',Er w C ⟨[.ref (0,0) []],[⟨mb,.sl (.int .i64),.own,d⟩]⟩ ⟨o.res d,[⟨mb,.sl (.int .i64),.own,o.g d⟩],[]⟩ v w' C'∧(false=true→NK w C ⟨[.ref (0,0) []],[⟨mb,.sl (.int .i64),.own,d⟩]⟩ ⟨o.res d,[⟨mb,.sl (.int .i64),.own,o.g d⟩],[]⟩ w' C'):=by
  intro w' v hv0 q1 q2 q3 q4 q5 hE
  refine ⟨C,⟨.refl _,rfl,fun _=>rfl,⟨fun q z hz=>?_,fun q q' z z' hz hz' hne=>?_,fun q z b hz hb=>?_,fun b hb=>Nat.lt_of_lt_of_le (hM.ro b hb) q4,fun q z hz p hp=>?_⟩,hval w' v hv0,fun _ _ _ _=>rfl,⟨q1,q2,q3,q4,fun b hb hn=>q5 b hb fun hg=>hn ⟨0,_,rfl,hG0 b hg⟩⟩,fun q z b hz hb=>?_,fun b hb=>.inl hb⟩,fun h=>nomatch h⟩
  ·obtain ⟨rfl,rfl⟩:=hone hz
   refine ⟨G0,by rw [hvv];exact hE,hG0,fun h=>?_⟩
   obtain ⟨m1,m2,T,m3⟩:=hmem h
   have hθ:C.θ (par 0)<w.heap.size:=by
    rcases Nat.lt_or_ge (C.θ (par 0)) w.heap.size with h|h
    ·exact h
    ·rw [Array.getElem?_eq_none h] at m3;cases m3
   exact ⟨m1,m2,T,by rw [q5 _ hθ m1];exact m3⟩
  ·obtain ⟨rfl,_⟩:=hone hz
   obtain ⟨rfl,_⟩:=hone hz'
   exact absurd rfl hne
  ·obtain ⟨rfl,_⟩:=hone hz
   obtain ⟨h1,h2,h3⟩:=hlt b hb
   exact ⟨h2,h3,Nat.lt_of_lt_of_le h1 q4⟩
  ·obtain ⟨rfl,rfl⟩:=hone hz
   have hp':p∈aF (.sl (.int .i64)) (o.g d):=hp
   rw [bB (k:=.sl (.int .i64)) (o.g d) rfl] at hp'
   cases hp'
  ·obtain ⟨rfl,_⟩:=hone hz
   exact .inr ⟨0,_,rfl,hb⟩
 rw [hvv] at he
 rw [hvals1]
 rcases he with ⟨hg,_⟩|⟨_,hd,a,hv⟩|⟨_,b,off,cap,c,T,fz,hv,hc,hle,hs,hok,Gs,hGs,hdj,hel⟩
 ·cases hg
 ·simp only [List.cons.injEq,and_true] at hv
  subst hv
  refine (h0 a w).mono fun e' w' he=>?_
  obtain ⟨rfl,rfl⟩:=he
  refine post w' _ ⟨a,0,by rw [hd];rfl,by rw [hd];exact Nat.le_refl _,by rw [hd]⟩ rfl rfl rfl (Nat.le_refl _) (fun _ _ _=>rfl) (.inr (.inl ⟨by simp,?_,a,rfl⟩))
  exact List.eq_nil_of_length_eq_zero (by rw [o.len,hd];rfl)
 ·simp only [List.cons.injEq,and_true] at hv
  subst hv
  have hGb:G0 b∧fz=(0,0):=hok
  obtain ⟨hGb,rfl⟩:=hGb
  have hbl:=(hlt b (hG0 b hGb)).1
  have hs1:off+cap≤c.size:=by simpa [K.size] using hs
  have hH:Holds (Value.int .i64) w b off (List.toArray d):=by
   intro j hj
   have hj':j<List.length d:=by simpa using hj
   have hx:=hel j _ (List.getElem?_eq_getElem hj')
   have hx:sub c (off+j*1) 1=[.int .i64 d[j]]:=hx
   rw [Nat.mul_one] at hx
   have hcj:c[off+j]?=some (.int .i64 d[j]):=by
    have:=congrArg (·[0]?) hx
    simp only [sub,List.getElem?_take_of_lt (show 0<1 by omega),List.getElem?_drop,Nat.add_zero,List.getElem?_cons_zero,Array.getElem?_toList] at this
    exact this
   refine ⟨?_,by simp [World.frozen?,hc]⟩
   simp only [World.cell?,hc]
   simp only [Option.isSome_none,Bool.false_eq_true,if_false]
   rw [hcj]
   simp [hj']
  refine (h b off cap d w hH hbl hlen hle).mono fun e' w' he=>?_
  obtain ⟨rfl,n,os,rfl⟩:=he
  have hb':(grow (putRow (Value.int .i64) (Sort.ahead w n) b off (o.g d).toArray) os).heap[b]?=some (.cells (putCells (Value.int .i64) off (o.g d).toArray c) T (0,0)):=by
   rw [heap_grow_old _ _ (by simpa [putRow,mapBlock,Sort.ahead] using hbl)]
   simp [putRow,mapBlock,Sort.ahead,Array.getElem?_modify,hc,onCells]
  refine post _ _ ⟨_,cap,rfl,hle,rfl⟩ rfl rfl rfl (by simp [grow,putRow,mapBlock,Sort.ahead]) (fun b2 hb2 hn=>?_) (.inr (.inr ⟨by simp,b,off,cap,_,T,(0,0),by rw [o.len],hb',by rw [o.len];exact hle,?_,⟨hGb,rfl⟩,fun _=>noB,fun _=>⟨fun _ h=>h.elim,fun h=>h⟩,fun _ _ _ _ h=>h.elim,fun i x hx=>?_⟩))
  ·rw [heap_grow_old _ _ (by simpa [putRow,mapBlock,Sort.ahead] using hb2)]
   have:b≠b2:=fun e=>hn (by rw [←e];exact hGb)
   simp [putRow,mapBlock,Sort.ahead,Array.getElem?_modify,this]
  ·simpa [putCells] using hs
  ·have hi:i<List.length d:=by
    have:=(List.getElem?_eq_some_iff.1 hx).1
    rwa [o.len] at this
   show sub _ (off+i*1) 1=[.int .i64 x]
   rw [Nat.mul_one]
   have hlt2:off+i<c.size:=by omega
   have hat:(putCells (Value.int .i64) off (o.g d).toArray c)[off+i]?=some (.int .i64 x):=by
    simp [putCells,hlt2,hi,o.len]
    exact (List.getElem?_eq_some_iff.1 hx).2
   unfold sub
   rw [List.drop_eq_getElem_cons (by simpa [putCells] using hlt2),List.take_succ_cons,List.take_zero]
   congr 1
   rw [←Array.getElem?_toList,List.getElem?_eq_getElem (by simpa [putCells] using hlt2)] at hat
   exact Option.some.inj hat
def ahc:Eu:=⟨J8,aff,none,fun _ h=>by cases h⟩
abbrev ad6 (mb:Bool):Ctr:=ag4 ahc mb
def Z7(P:Program)(f:FuncId):Prop:=
 ∀(blk off cap:Nat)(zs:List Int)(w:World),Holds (Value.int .i64) w blk off zs.toArray→blk<w.heap.size→zs.length<4611686018427387904 →
  Calls P f #[.slice (some ⟨blk,off,none⟩) zs.length cap] w fun e w'=>e=.returned (.tuple #[])∧∃n os,w'=grow (putRow (Value.int .i64) (Sort.ahead w n) blk off (aha zs).toArray) os
def SortNone(P:Program)(f:FuncId):Prop:=
 ∀(a:Option Addr)(w:World),Calls P f #[.slice a 0 0] w fun e w'=>e=.returned (.tuple #[])∧w'=w
theorem aiI{mb:Bool}{P:Program}{Γ:Glb}{f:FuncId}(h:Z7 P f)(h0:SortNone P f):Contract P Γ f (ad6 mb):=
 ajW (o:=ahc) (fun blk off cap zs w h1 h2 h3 _=>by have:=h blk off cap zs w h1 h2 h3;rw [ahb] at this;exact this) h0
def afR(zs:List Int):Nat:=(Lib.compact zs).length
def lG(zs:List Int):List Int:=Lib.compact zs++List.replicate (zs.length-(Lib.compact zs).length) 0
theorem afS(zs:List Int):afR zs≤zs.length:=by
 unfold afR Lib.compact Lib.compactUpTo
 rw [List.length_map]
 refine Nat.le_trans (List.length_filter_le _ _) ?_
 simp
theorem Ew(zs:List Int):(lG zs).length=zs.length:=by
 have:=afS zs
 unfold afR at this
 unfold lG
 rw [List.length_append,List.length_replicate];omega
end Go.Abs
namespace Go.Proofs
open Go.Shelf
def Try.afg:Go.Shelf.Ren:=⟨fun|53=>59|64=>127|63=>126|78=>186|79=>187|70=>177|71=>178|72=>179|73=>180|74=>181|75=>182|59=>183|76=>184|77=>185|88=>215|89=>216|90=>217|91=>218|92=>219|68=>220|96=>225|n=>n,fun|22=>42|23=>2|3=>3|51=>58|0=>0|67=>186|69=>163|4=>4|61=>178|60=>177|44=>183|5=>5|9=>9|75=>193|79=>197|83=>199|84=>200|n=>n,fun|n=>n⟩
theorem Try.ai8:Go.Proofs.SlLaysN.n53 Try.prog Try.afg:={
 mixed:=by kernel_rfl
 f53:=⟨Try.f59.name,by decide,Try.func59.trans (congrArg some (by kernel_rfl))⟩
 f59:=⟨Try.f183.name,by decide,Try.func183.trans (congrArg some (by kernel_rfl))⟩
 f63:=⟨Try.f126.name,by decide,Try.func126.trans (congrArg some (by kernel_rfl))⟩
 f64:=Try.func127.trans (congrArg some (by kernel_rfl))
 f68:=⟨Try.f220.name,by decide,Try.func220.trans (congrArg some (by kernel_rfl))⟩
 f70:=⟨Try.f177.name,by decide,Try.func177.trans (congrArg some (by kernel_rfl))⟩
 f71:=⟨Try.f178.name,by decide,Try.func178.trans (congrArg some (by kernel_rfl))⟩
 f72:=⟨Try.f179.name,by decide,Try.func179.trans (congrArg some (by kernel_rfl))⟩
 f73:=⟨Try.f180.name,by decide,Try.func180.trans (congrArg some (by kernel_rfl))⟩
 f74:=⟨Try.f181.name,by decide,Try.func181.trans (congrArg some (by kernel_rfl))⟩
 f75:=⟨Try.f182.name,by decide,Try.func182.trans (congrArg some (by kernel_rfl))⟩
 f76:=⟨Try.f184.name,by decide,Try.func184.trans (congrArg some (by kernel_rfl))⟩
 f77:=⟨Try.f185.name,by decide,Try.func185.trans (congrArg some (by kernel_rfl))⟩
 f78:=Try.func186.trans (congrArg some (by kernel_rfl))
 f79:=Try.func187.trans (congrArg some (by kernel_rfl))
 f88:=⟨Try.f215.name,by decide,Try.func215.trans (congrArg some (by kernel_rfl))⟩
 f89:=Try.func216.trans (congrArg some (by kernel_rfl))
 f90:=Try.func217.trans (congrArg some (by kernel_rfl))
 f91:=⟨Try.f218.name,by decide,Try.func218.trans (congrArg some (by kernel_rfl))⟩
 f92:=⟨Try.f219.name,by decide,Try.func219.trans (congrArg some (by kernel_rfl))⟩
 f96:=⟨Try.f225.name,by decide,Try.func225.trans (congrArg some (by kernel_rfl))⟩
 t0:=Try.underlying0
 a0:=Try.isAgg0
 z0:=Try.sizeOf0
 v0:=Try.zeroValue0
 t3:=Try.underlying3
 a3:=Try.isAgg3
 z3:=Try.sizeOf3
 v3:=Try.zeroValue3
 t4:=Try.underlying4
 a4:=Try.isAgg4
 z4:=Try.sizeOf4
 v4:=Try.zeroValue4
 t5:=Try.underlying5
 a5:=Try.isAgg5
 z5:=Try.sizeOf5
 v5:=Try.zeroValue5
 t9:=Try.underlying9
 a9:=Try.isAgg9
 z9:=Try.sizeOf9
 v9:=Try.zeroValue9
 t22:=Try.underlying42
 a22:=Try.isAgg42
 z22:=Try.sizeOf42
 v22:=Try.zeroValue42
 t23:=Try.underlying2
 a23:=Try.isAgg2
 z23:=Try.sizeOf2
 v23:=Try.zeroValue2
 t44:=Try.underlying183
 a44:=Try.isAgg183
 z44:=Try.sizeOf183
 v44:=Try.zeroValue183
 t51:=Try.underlying58
 a51:=Try.isAgg58
 z51:=Try.sizeOf58
 v51:=Try.zeroValue58
 t60:=Try.underlying177
 a60:=Try.isAgg177
 z60:=Try.sizeOf177
 v60:=Try.zeroValue177
 t61:=Try.underlying178
 a61:=Try.isAgg178
 z61:=Try.sizeOf178
 v61:=Try.zeroValue178
 t67:=Try.underlying186
 a67:=Try.isAgg186
 z67:=Try.sizeOf186
 v67:=Try.zeroValue186
 t69:=Try.underlying163
 a69:=Try.isAgg163
 z69:=Try.sizeOf163
 v69:=Try.zeroValue163
 t75:=Try.underlying193
 a75:=Try.isAgg193
 z75:=Try.sizeOf193
 v75:=Try.zeroValue193
 t79:=Try.underlying197
 a79:=Try.isAgg197
 z79:=Try.sizeOf197
 v79:=Try.zeroValue197
 t83:=Try.underlying199
 a83:=Try.isAgg199
 z83:=Try.sizeOf199
 v83:=Try.zeroValue199
 t84:=Try.underlying200
 a84:=Try.isAgg200
 z84:=Try.sizeOf200
 v84:=Try.zeroValue200 }
def Try.ael:Go.Shelf.Ren:=⟨fun|43=>60|n=>n,fun|22=>42|23=>2|3=>3|4=>4|0=>0|n=>n,fun|n=>n⟩
theorem Try.lG:Go.Proofs.SlLaysN.n43 Try.prog Try.ael:={
 mixed:=by kernel_rfl
 f43:=⟨Try.f60.name,by decide,Try.func60.trans (congrArg some (by kernel_rfl))⟩
 t0:=Try.underlying0
 a0:=Try.isAgg0
 z0:=Try.sizeOf0
 v0:=Try.zeroValue0
 t3:=Try.underlying3
 a3:=Try.isAgg3
 z3:=Try.sizeOf3
 v3:=Try.zeroValue3
 t4:=Try.underlying4
 a4:=Try.isAgg4
 z4:=Try.sizeOf4
 v4:=Try.zeroValue4
 t22:=Try.underlying42
 a22:=Try.isAgg42
 z22:=Try.sizeOf42
 v22:=Try.zeroValue42
 t23:=Try.underlying2
 a23:=Try.isAgg2
 z23:=Try.sizeOf2
 v23:=Try.zeroValue2
 i23:=by kernel_rfl }
end Go.Proofs
namespace Go.Proofs.Ytldafhnnnabipaa
open Go Go.Abs Go.Proofs
abbrev aH:K:=(.pair .n (.pair .n .unit))
abbrev eG:K:=(.pair .n (.pair .il .unit))
abbrev jR:K:=(.pair (.sl (.int .u8)) (.pair .n (.pair (.int .u64) .unit)))
abbrev Vl:K:=(.pair aH (.pair .il (.pair .n .unit)))
abbrev Kt:K:=(.pair aH (.pair .n (.pair (.sl .il) .unit)))
abbrev ait:K:=(.pair aH (.pair .n (.pair .n (.pair (.sl .il) (.pair (.sl .il) .unit)))))
def tau:List (Nat×TI):=[(31,⟨aH,16,0⟩),(42,⟨.il,24,2⟩),(2,⟨.n,8,0⟩),(63,⟨eG,32,0⟩),(3,⟨.n,8,0⟩),(165,⟨jR,40,0⟩),(55,⟨(.sl (.int .u8)),24,5⟩),(5,⟨(.int .u8),1,0⟩),(24,⟨(.sl .il),24,42⟩),(163,⟨(.int .u64),8,0⟩),(160,⟨(.sl aH),24,31⟩),(1,⟨.fn,8,0⟩),(4,⟨.bool,1,0⟩),(9,⟨.str,16,0⟩),(12,⟨(.int .u64),8,0⟩),(13,⟨(.pair .str (.pair (.int .u64) .unit)),24,0⟩),(21,⟨(.int .i32),4,0⟩),(22,⟨aH,16,0⟩),(23,⟨aH,16,0⟩),(25,⟨ait,80,0⟩),(26,⟨ait,80,0⟩),(27,⟨.fn,8,0⟩),(28,⟨.fn,8,0⟩),(30,⟨.fn,8,0⟩),(32,⟨ait,80,0⟩),(33,⟨ait,80,0⟩),(34,⟨.fn,8,0⟩),(35,⟨.fn,8,0⟩),(36,⟨.fn,8,0⟩),(37,⟨.fn,8,0⟩),(38,⟨.fn,8,0⟩),(39,⟨Kt,48,0⟩),(40,⟨Kt,48,0⟩),(41,⟨.fn,8,0⟩),(43,⟨Vl,48,0⟩),(44,⟨Vl,48,0⟩),(46,⟨.fn,8,0⟩),(47,⟨Kt,48,0⟩),(48,⟨Kt,48,0⟩),(49,⟨.fn,8,0⟩),(50,⟨.fn,8,0⟩),(51,⟨.fn,8,0⟩),(52,⟨.fn,8,0⟩),(53,⟨.fn,8,0⟩),(54,⟨.fn,8,0⟩),(56,⟨.fn,8,0⟩),(57,⟨.fn,8,0⟩),(58,⟨(.int .u64),8,0⟩),(59,⟨.fn,8,0⟩),(61,⟨.fn,8,0⟩),(62,⟨eG,32,0⟩),(65,⟨.fn,8,0⟩),(66,⟨.fn,8,0⟩),(67,⟨.fn,8,0⟩),(69,⟨.fn,8,0⟩),(71,⟨.fn,8,0⟩),(72,⟨.fn,8,0⟩),(73,⟨.fn,8,0⟩),(74,⟨.fn,8,0⟩),(76,⟨.fn,8,0⟩),(77,⟨.fn,8,0⟩),(78,⟨.fn,8,0⟩),(79,⟨.fn,8,0⟩),(80,⟨.fn,8,0⟩),(81,⟨.fn,8,0⟩),(82,⟨.ptr,8,0⟩),(83,⟨.fn,8,0⟩),(84,⟨(.sl .bool),24,4⟩),(85,⟨.fn,8,0⟩),(86,⟨.fn,8,0⟩),(87,⟨.fn,8,0⟩),(88,⟨.fn,8,0⟩),(89,⟨.fn,8,0⟩),(90,⟨.fn,8,0⟩),(91,⟨.fn,8,0⟩),(92,⟨.fn,8,0⟩),(93,⟨.fn,8,0⟩),(94,⟨.fn,8,0⟩),(95,⟨.fn,8,0⟩),(96,⟨.fn,8,0⟩),(97,⟨.ptr,8,0⟩),(98,⟨.fn,8,0⟩),(99,⟨.fn,8,0⟩),(100,⟨.fn,8,0⟩),(101,⟨.fn,8,0⟩),(102,⟨.fn,8,0⟩),(103,⟨.fn,8,0⟩),(104,⟨.ptr,8,0⟩),(105,⟨.fn,8,0⟩),(106,⟨.fn,8,0⟩),(107,⟨.fn,8,0⟩),(108,⟨.fn,8,0⟩),(109,⟨.fn,8,0⟩),(110,⟨.fn,8,0⟩),(111,⟨.fn,8,0⟩),(112,⟨.fn,8,0⟩),(113,⟨.fn,8,0⟩),(114,⟨.ptr,8,0⟩),(115,⟨.fn,8,0⟩),(116,⟨.fn,8,0⟩),(117,⟨.fn,8,0⟩),(118,⟨.fn,8,0⟩),(119,⟨.fn,8,0⟩),(120,⟨.fn,8,0⟩),(121,⟨.fn,8,0⟩),(122,⟨.fn,8,0⟩),(123,⟨.fn,8,0⟩),(124,⟨.fn,8,0⟩),(125,⟨.fn,8,0⟩),(126,⟨.fn,8,0⟩),(127,⟨.fn,8,0⟩),(128,⟨.fn,8,0⟩),(129,⟨.fn,8,0⟩),(130,⟨.fn,8,0⟩),(131,⟨.fn,8,0⟩),(133,⟨.fn,8,0⟩),(134,⟨.fn,8,0⟩),(135,⟨.il,24,3⟩),(136,⟨.fn,8,0⟩),(137,⟨.fn,8,0⟩),(138,⟨.fn,8,0⟩),(140,⟨.fn,8,0⟩),(141,⟨.fn,8,0⟩),(142,⟨.fn,8,0⟩),(143,⟨.fn,8,0⟩),(144,⟨.fn,8,0⟩),(145,⟨.fn,8,0⟩),(146,⟨.fn,8,0⟩),(147,⟨.fn,8,0⟩),(149,⟨.fn,8,0⟩),(150,⟨.fn,8,0⟩),(151,⟨.fn,8,0⟩),(152,⟨.fn,8,0⟩),(153,⟨.fn,8,0⟩),(154,⟨.fn,8,0⟩),(155,⟨.fn,8,0⟩),(156,⟨.fn,8,0⟩),(157,⟨.fn,8,0⟩),(158,⟨.fn,8,0⟩),(159,⟨.fn,8,0⟩),(161,⟨.fn,8,0⟩),(162,⟨.fn,8,0⟩),(164,⟨jR,40,0⟩),(166,⟨.fn,8,0⟩),(167,⟨.fn,8,0⟩),(169,⟨.fn,8,0⟩),(170,⟨.fn,8,0⟩),(171,⟨.fn,8,0⟩),(172,⟨.fn,8,0⟩),(173,⟨.fn,8,0⟩),(174,⟨.fn,8,0⟩),(175,⟨.fn,8,0⟩),(176,⟨.fn,8,0⟩),(177,⟨.n,8,0⟩),(179,⟨.fn,8,0⟩),(180,⟨.fn,8,0⟩),(181,⟨.fn,8,0⟩),(182,⟨.fn,8,0⟩),(184,⟨.fn,8,0⟩),(185,⟨.fn,8,0⟩),(186,⟨(.int .u32),4,0⟩),(187,⟨.fn,8,0⟩),(188,⟨.fn,8,0⟩),(189,⟨.fn,8,0⟩),(190,⟨.fn,8,0⟩),(191,⟨.fn,8,0⟩),(192,⟨.fn,8,0⟩),(193,⟨(.int .u64),8,0⟩),(194,⟨.fn,8,0⟩),(195,⟨.fn,8,0⟩),(196,⟨.fn,8,0⟩),(197,⟨.ptr,8,0⟩),(198,⟨.fn,8,0⟩),(199,⟨.ptr,8,0⟩),(201,⟨.fn,8,0⟩),(202,⟨.fn,8,0⟩),(208,⟨.fn,8,0⟩),(211,⟨.fn,8,0⟩),(212,⟨.ptr,8,0⟩)]
theorem aS{E:List (Nat×Ctr)}{Z:List (Nat×List Frz)}:gW Try.prog ⟨tau,E,Z⟩:=aht (ahs (by kernel_rfl)) (by kernel_rfl)
theorem akc:Go.Abs.Enters Try.prog 24:=⟨Try.f24,Try.func24,by kernel_rfl,by kernel_rfl⟩
theorem akd:Go.Abs.Enters Try.prog 25:=⟨Try.f25,Try.func25,by kernel_rfl,by kernel_rfl⟩
theorem ake:Go.Abs.Enters Try.prog 26:=⟨Try.f26,Try.func26,by kernel_rfl,by kernel_rfl⟩
theorem akf:Go.Abs.Enters Try.prog 27:=⟨Try.f27,Try.func27,by kernel_rfl,by kernel_rfl⟩
theorem akg:Go.Abs.Enters Try.prog 28:=⟨Try.f28,Try.func28,by kernel_rfl,by kernel_rfl⟩
theorem akh:Go.Abs.Enters Try.prog 29:=⟨Try.f29,Try.func29,by kernel_rfl,by kernel_rfl⟩
theorem aki:Go.Abs.Enters Try.prog 30:=⟨Try.f30,Try.func30,by kernel_rfl,by kernel_rfl⟩
theorem akj:Go.Abs.Enters Try.prog 31:=⟨Try.f31,Try.func31,by kernel_rfl,by kernel_rfl⟩
theorem akk:Go.Abs.Enters Try.prog 32:=⟨Try.f32,Try.func32,by kernel_rfl,by kernel_rfl⟩
theorem akl:Go.Abs.Enters Try.prog 33:=⟨Try.f33,Try.func33,by kernel_rfl,by kernel_rfl⟩
theorem akm:Go.Abs.Enters Try.prog 34:=⟨Try.f34,Try.func34,by kernel_rfl,by kernel_rfl⟩
theorem ai0:Go.Abs.Enters Try.prog 55:=⟨Try.f55,Try.func55,by kernel_rfl,by kernel_rfl⟩
theorem adS:Go.Abs.Enters Try.prog 57:=⟨Try.f57,Try.func57,by kernel_rfl,by kernel_rfl⟩
theorem akn:Go.Abs.Enters Try.prog 59:=⟨Try.f59,Try.func59,by kernel_rfl,by kernel_rfl⟩
theorem ai1:Go.Abs.Enters Try.prog 61:=⟨Try.f61,Try.func61,by kernel_rfl,by kernel_rfl⟩
theorem ako:Go.Abs.Enters Try.prog 78:=⟨Try.f78,Try.func78,by kernel_rfl,by kernel_rfl⟩
theorem akp:Go.Abs.Enters Try.prog 85:=⟨Try.f85,Try.func85,by kernel_rfl,by kernel_rfl⟩
theorem ai2:Go.Abs.Enters Try.prog 86:=⟨Try.f86,Try.func86,by kernel_rfl,by kernel_rfl⟩
theorem akq:Go.Abs.Enters Try.prog 87:=⟨Try.f87,Try.func87,by kernel_rfl,by kernel_rfl⟩
theorem akr:Go.Abs.Enters Try.prog 88:=⟨Try.f88,Try.func88,by kernel_rfl,by kernel_rfl⟩
theorem agk:Go.Abs.Enters Try.prog 89:=⟨Try.f89,Try.func89,by kernel_rfl,by kernel_rfl⟩
theorem aks:Go.Abs.Enters Try.prog 90:=⟨Try.f90,Try.func90,by kernel_rfl,by kernel_rfl⟩
theorem akt:Go.Abs.Enters Try.prog 91:=⟨Try.f91,Try.func91,by kernel_rfl,by kernel_rfl⟩
theorem ai3:Go.Abs.Enters Try.prog 92:=⟨Try.f92,Try.func92,by kernel_rfl,by kernel_rfl⟩
theorem agl:Go.Abs.Enters Try.prog 93:=⟨Try.f93,Try.func93,by kernel_rfl,by kernel_rfl⟩
theorem aku:Go.Abs.Enters Try.prog 94:=⟨Try.f94,Try.func94,by kernel_rfl,by kernel_rfl⟩
theorem akv:Go.Abs.Enters Try.prog 95:=⟨Try.f95,Try.func95,by kernel_rfl,by kernel_rfl⟩
theorem akw:Go.Abs.Enters Try.prog 96:=⟨Try.f96,Try.func96,by kernel_rfl,by kernel_rfl⟩
theorem akx:Go.Abs.Enters Try.prog 97:=⟨Try.f97,Try.func97,by kernel_rfl,by kernel_rfl⟩
theorem agm:Go.Abs.Enters Try.prog 98:=⟨Try.f98,Try.func98,by kernel_rfl,by kernel_rfl⟩
theorem aky:Go.Abs.Enters Try.prog 99:=⟨Try.f99,Try.func99,by kernel_rfl,by kernel_rfl⟩
theorem aji:Go.Abs.Enters Try.prog 100:=⟨Try.f100,Try.func100,by kernel_rfl,by kernel_rfl⟩
theorem ajj:Go.Abs.Enters Try.prog 114:=⟨Try.f114,Try.func114,by kernel_rfl,by kernel_rfl⟩
theorem YO:Go.Abs.Enters Try.prog 125:=⟨Try.f125,Try.func125,by kernel_rfl,by kernel_rfl⟩
theorem acS:Go.Abs.Enters Try.prog 142:=⟨Try.f142,Try.func142,by kernel_rfl,by kernel_rfl⟩
theorem YP:Go.Abs.Enters Try.prog 143:=⟨Try.f143,Try.func143,by kernel_rfl,by kernel_rfl⟩
theorem ajk:Go.Abs.Enters Try.prog 144:=⟨Try.f144,Try.func144,by kernel_rfl,by kernel_rfl⟩
theorem Us:Go.Abs.Enters Try.prog 145:=⟨Try.f145,Try.func145,by kernel_rfl,by kernel_rfl⟩
theorem agb:Go.Abs.Enters Try.prog 146:=⟨Try.f146,Try.func146,by kernel_rfl,by kernel_rfl⟩
theorem ajl:Go.Abs.Enters Try.prog 147:=⟨Try.f147,Try.func147,by kernel_rfl,by kernel_rfl⟩
theorem ajm:Go.Abs.Enters Try.prog 148:=⟨Try.f148,Try.func148,by kernel_rfl,by kernel_rfl⟩
theorem acT:Go.Abs.Enters Try.prog 149:=⟨Try.f149,Try.func149,by kernel_rfl,by kernel_rfl⟩
theorem agc:Go.Abs.Enters Try.prog 150:=⟨Try.f150,Try.func150,by kernel_rfl,by kernel_rfl⟩
theorem agd:Go.Abs.Enters Try.prog 151:=⟨Try.f151,Try.func151,by kernel_rfl,by kernel_rfl⟩
theorem ajn:Go.Abs.Enters Try.prog 152:=⟨Try.f152,Try.func152,by kernel_rfl,by kernel_rfl⟩
theorem ajo:Go.Abs.Enters Try.prog 153:=⟨Try.f153,Try.func153,by kernel_rfl,by kernel_rfl⟩
theorem agf:Go.Abs.Enters Try.prog 154:=⟨Try.f154,Try.func154,by kernel_rfl,by kernel_rfl⟩
theorem ajp:Go.Abs.Enters Try.prog 155:=⟨Try.f155,Try.func155,by kernel_rfl,by kernel_rfl⟩
theorem ajq:Go.Abs.Enters Try.prog 156:=⟨Try.f156,Try.func156,by kernel_rfl,by kernel_rfl⟩
theorem ajr:Go.Abs.Enters Try.prog 157:=⟨Try.f157,Try.func157,by kernel_rfl,by kernel_rfl⟩
theorem ajs:Go.Abs.Enters Try.prog 158:=⟨Try.f158,Try.func158,by kernel_rfl,by kernel_rfl⟩
theorem ajt:Go.Abs.Enters Try.prog 159:=⟨Try.f159,Try.func159,by kernel_rfl,by kernel_rfl⟩
theorem aju:Go.Abs.Enters Try.prog 160:=⟨Try.f160,Try.func160,by kernel_rfl,by kernel_rfl⟩
theorem ajv:Go.Abs.Enters Try.prog 188:=⟨Try.f188,Try.func188,by kernel_rfl,by kernel_rfl⟩
theorem agh:Go.Abs.Enters Try.prog 193:=⟨Try.f193,Try.func193,by kernel_rfl,by kernel_rfl⟩
theorem ajw:Go.Abs.Enters Try.prog 198:=⟨Try.f198,Try.func198,by kernel_rfl,by kernel_rfl⟩
theorem agi:Go.Abs.Enters Try.prog 200:=⟨Try.f200,Try.func200,by kernel_rfl,by kernel_rfl⟩
theorem ajx:Go.Abs.Enters Try.prog 201:=⟨Try.f201,Try.func201,by kernel_rfl,by kernel_rfl⟩
theorem ajy:Go.Abs.Enters Try.prog 202:=⟨Try.f202,Try.func202,by kernel_rfl,by kernel_rfl⟩
theorem ajz:Go.Abs.Enters Try.prog 203:=⟨Try.f203,Try.func203,by kernel_rfl,by kernel_rfl⟩
theorem ajA:Go.Abs.Enters Try.prog 204:=⟨Try.f204,Try.func204,by kernel_rfl,by kernel_rfl⟩
theorem ajB:Go.Abs.Enters Try.prog 205:=⟨Try.f205,Try.func205,by kernel_rfl,by kernel_rfl⟩
theorem acU:Go.Abs.Enters Try.prog 206:=⟨Try.f206,Try.func206,by kernel_rfl,by kernel_rfl⟩
theorem agj:Go.Abs.Enters Try.prog 207:=⟨Try.f207,Try.func207,by kernel_rfl,by kernel_rfl⟩
theorem ajC:Go.Abs.Enters Try.prog 208:=⟨Try.f208,Try.func208,by kernel_rfl,by kernel_rfl⟩
theorem ajD:Go.Abs.Enters Try.prog 209:=⟨Try.f209,Try.func209,by kernel_rfl,by kernel_rfl⟩
theorem ajE:Go.Abs.Enters Try.prog 210:=⟨Try.f210,Try.func210,by kernel_rfl,by kernel_rfl⟩
theorem ajF:Go.Abs.Enters Try.prog 211:=⟨Try.f211,Try.func211,by kernel_rfl,by kernel_rfl⟩
theorem ajG:Go.Abs.Enters Try.prog 221:=⟨Try.f221,Try.func221,by kernel_rfl,by kernel_rfl⟩
theorem ajH:Go.Abs.Enters Try.prog 223:=⟨Try.f223,Try.func223,by kernel_rfl,by kernel_rfl⟩
abbrev bP:=(Int×((List Int)×Unit))
abbrev dn:=((List Int)×(Int×(Int×Unit)))
def abg (p0:List Int) (p1:List Int):Tre Bool:=
 .cond (decide ((p0.length:Int)>3000))
  (.ret true)
  (.ret (decide ((p1.length:Int)>3000)))
def adj (p0:List Int) (p1:List Int):Option Bool:=(abg p0 p1).run some
def Bz(p0 p1:List Int):Bool:=
 cond (decide ((p0.length:Int)>3000))
  (true)
  (decide ((p1.length:Int)>3000))
theorem Xh(p0 p1:List Int):adj p0 p1=some (Bz p0 p1):=(Xp rfl rfl)
def Vo:Env:=⟨tau,[],[]⟩
def adl:FnI:=fnI Try.f24 []
def OI (_:Bool) (_:Bool) (_:List Int) (_:List Int):Bool→au:=fun r=>⟨(.imm true .bool r),[],[]⟩
theorem abh:∀(zp0 zp1:Bool)(p0 p1:List Int),bU Vo adl ⟨[(.imm zp0 (.sl (.int .u8)) p0),(.imm zp1 (.sl (.int .u8)) p1)],[]⟩=(abg p0 p1).run fun r=>some (OI zp0 zp1 p0 p1 r):=fun _ _ _ _=>by kernel_rfl
def adk (av:List AV) (rs:List Root):Tre au:=
 aA av fun a0_ av0=>
 aA av0 fun a1_ av1=>
 aK av1<|
 aK rs<|
 bX (.sl (.int .u8)) a0_ fun z2 d1=>
 bX (.sl (.int .u8)) a1_ fun z4 d3=>
 .ret (OI z2 z4 d1 d3 (Bz d1 d3))
def Vp:Ctr:=fJ [] adk
theorem abj:Contract Try.prog .none 24 Vp:=aB (V:=Vo) aS aG Try.func24 bN fun _ _ _=>aJ fun _ _=>aJ fun _ _=>bD<|bD<|iq fun _ _=>iq fun _ _=>fun h=>by intros;subst_vars;exact NW (abh _ _ _ _) (Xh _ _) h
def Yl (p0:List Int):Tre dn:=
 .ret (p0,(0,(0,())))
def abH (p0:List Int):Option dn:=(Yl p0).run some
theorem VO(p0:List Int):abH p0=some (p0,(0,(0,()))):=rfl
def RZ:Env:=⟨tau,[],[]⟩
def abJ:FnI:=fnI Try.f86 []
def LV (zp0:Bool) (_:List Int):dn→au:=fun r=>⟨(.ptr (1,0) []),[],[⟨true,jR,(.imm zp0),r⟩]⟩
theorem ZF:∀(zp0:Bool)(p0:List Int),bU RZ abJ ⟨[(.imm zp0 (.sl (.int .u8)) p0)],[]⟩=(Yl p0).run fun r=>some (LV zp0 p0 r):=fun _ _=>by kernel_rfl
def abI (av:List AV) (rs:List Root):Tre au:=
 aA av fun a0_ av0=>
 aK av0<|
 aK rs<|
 bX (.sl (.int .u8)) a0_ fun z2 d1=>
 .ret (LV z2 d1 (d1,(0,(0,()))))
def JR:Ctr:=fJ [] abI
theorem Pj:Contract Try.prog .none 86 JR:=aB (V:=RZ) aS aG Try.func86 bN fun _ _ _=>aJ fun _ _=>bD<|bD<|iq fun _ _=>fun h=>by intros;subst_vars;exact NW (ZF _ _) (VO _) h
def uO (p0:dn):Tre (Int×dn):=
 .cond (decide (p0.2.1<(p0.1.length:Int)))
  (.ite (0≤p0.2.1∧p0.2.1<(p0.1.length:Int))<|
  .mat (p0.1[p0.2.1.toNat]?) fun x1=>
  let v2:=aI .u64 (p0.2.2.1*6364136223846793005)
  let v3:=aI .u64 (aI .i64 x1)
  let v4:=aI .u64 ((aI .u64 (v2+v3))+1442695040888963407)
  .cond (decide (aI .i64 (p0.2.1+1)≤(p0.1.length:Int)))
   (.ret (aI .i64 x1,(p0.1,(aI .i64 (p0.2.1+1),(v4,p0.2.2.2)))))
   (let v5:=KU .u64 (OH .u64 v4 40) 255
   .ret (aI .i64 v5,(p0.1,(aI .i64 (p0.2.1+1),(v4,p0.2.2.2))))))
  (let v6:=aI .u64 (p0.2.2.1*6364136223846793005)
  let v7:=aI .u64 ((aI .u64 (v6+0))+1442695040888963407)
  .cond (decide (aI .i64 (p0.2.1+1)≤(p0.1.length:Int)))
   (.ret (0,(p0.1,(aI .i64 (p0.2.1+1),(v7,p0.2.2.2)))))
   (let v8:=KU .u64 (OH .u64 v7 40) 255
   .ret (aI .i64 v8,(p0.1,(aI .i64 (p0.2.1+1),(v7,p0.2.2.2))))))
def j4 (p0:dn):Option (Int×dn):=(uO p0).run some
def yV:Env:=⟨tau,[],[]⟩
def JX:FnI:=fnI Try.f204 []
def vY (zp0:Bool) (_:dn):(Int×dn)→au:=fun r=>⟨(.i r.1),[⟨true,jR,(.imm zp0),r.2⟩],[]⟩
theorem Ig:∀(zp0:Bool)(p0:dn),bU yV JX ⟨[(.ptr (0,0) [])],[⟨true,jR,(.imm zp0),p0⟩]⟩=(uO p0).run fun r=>some (vY zp0 p0 r):=fun _ _=>by kernel_rfl
def JW (av:List AV) (rs:List Root):Tre au:=
 aA av fun a0_ av0=>
 aK av0<|
 aA rs fun r0_ rs0=>
 aK rs0<|
 nu (0,0) [] a0_<|
 uH true jR r0_ fun m1 d2=>
 ru m1 fun z3=>
 .mat (j4 d2) fun r=>.ret (vY z3 d2 r)
def yX:Ctr:=fJ [] JW
theorem Ih:Contract Try.prog .none 204 yX:=aB (V:=yV) aS aG Try.func204 bN fun _ _ _=>aJ fun _ _=>bD<|aJ fun _ _=>bD<|Ap<|tRt fun _ _=>Hq fun _=>fun h=>by intros;subst_vars;exact bC (Ig _ _) h
def uP (p0:Int) (p1:dn):Tre (Int×dn):=
 .cond (decide (p0≤1))
  (.ret (0,p1))
  (.mat (j4 p1) fun r1=>
  .cond (decide (p0>200))
   (.mat (j4 r1.2) fun r2=>
   let v3:=aI .i64 ((aI .i64 (r1.1*256))+r2.1)
   .ifn (p0=0)<|
   .ret (Int.tmod v3 p0,r2.2))
   (.ifn (p0=0)<|
   .ret (Int.tmod r1.1 p0,r1.2)))
def gD (p0:Int) (p1:dn):Option (Int×dn):=(uP p0 p1).run some
def yY:Env:=⟨tau,[(204,yX)],[]⟩
def JZ:FnI:=fnI Try.f149 []
def vZ (zp0:Bool) (_:Int) (_:dn):(Int×dn)→au:=fun r=>⟨(.i r.1),[⟨true,jR,(.imm zp0),r.2⟩],[]⟩
theorem Ii:∀(zp0:Bool)(p0:Int)(p1:dn),bU yY JZ ⟨[(.ptr (0,0) []),(.i p0)],[⟨true,jR,(.imm zp0),p1⟩]⟩=(uP p0 p1).run fun r=>some (vZ zp0 p0 p1 r):=fun _ _ _=>by kernel_rfl
def JY (av:List AV) (rs:List Root):Tre au:=
 aA av fun a0_ av0=>
 aA av0 fun a1_ av1=>
 aK av1<|
 aA rs fun r0_ rs0=>
 aK rs0<|
 nu (0,0) [] a0_<|
 aD true .n a1_ fun d1=>
 uH true jR r0_ fun m2 d3=>
 ru m2 fun z4=>
 .mat (gD d1 d3) fun r=>.ret (vZ z4 d1 d3 r)
def mK:Ctr:=fJ [] JY
theorem qw:Contract Try.prog .none 149 mK:=aB (V:=yY) aS (ay Ih ajA aG) Try.func149 bN fun _ _ _=>aJ fun _ _=>aJ fun _ _=>bD<|aJ fun _ _=>bD<|Ap<|aU fun _=>tRt fun _ _=>Hq fun _=>fun h=>by intros;subst_vars;exact bC (Ii _ _ _) h
def tK (p0:dn) (p1:List Int):Tre (Int×dn):=
 .mat (gD (p1.length:Int) p0) fun r1=>
 .ite (0≤r1.1∧r1.1<(p1.length:Int))<|
 .mat (p1[r1.1.toNat]?) fun x2=>
 .ret (x2,r1.2)
def lT (p0:dn) (p1:List Int):Option (Int×dn):=(tK p0 p1).run some
def wL:Env:=⟨tau,[(149,mK)],[]⟩
def Ie:FnI:=fnI Try.f148 []
def u7 (zp0:Bool) (_:dn) (p1:List Int):(Int×dn)→au:=fun r=>⟨(.i r.1),[⟨true,jR,(.imm zp0),r.2⟩,⟨false,.il,.own,p1⟩],[]⟩
theorem Gl:∀(zp0:Bool)(p0:dn)(p1:List Int),bU wL Ie ⟨[(.ptr (0,0) []),(.ref (0,1) [])],[⟨true,jR,(.imm zp0),p0⟩,⟨false,.il,.own,p1⟩]⟩=(tK p0 p1).run fun r=>some (u7 zp0 p0 p1 r):=fun _ _ _=>by kernel_rfl
def Ic (av:List AV) (rs:List Root):Tre au:=
 aA av fun a0_ av0=>
 aA av0 fun a1_ av1=>
 aK av1<|
 aA rs fun r0_ rs0=>
 aA rs0 fun r1_ rs1=>
 aK rs1<|
 nu (0,0) [] a0_<|
 nJ (0,1) [] a1_<|
 uH true jR r0_ fun m1 d2=>
 ru m1 fun z3=>
 uH false .il r1_ fun m4 d5=>
 asM .own m4<|
 .mat (lT d2 d5) fun r=>.ret (u7 z3 d2 d5 r)
def wM:Ctr:=fJ [1] Ic
theorem Gm:Contract Try.prog .none 148 wM:=aB (V:=wL) aS (ay qw acT aG) Try.func148 bN fun _ _ _=>aJ fun _ _=>aJ fun _ _=>bD<|aJ fun _ _=>aJ fun _ _=>bD<|Ap<|J9<|tRt fun _ _=>Hq fun _=>tRt fun _ _=>tM<|fun h=>by intros;subst_vars;exact bC (Gl _ _ _) h
def BH:(Int×Int)→Tre ((Int×Int) ⊕ Int):=fun s2=>
 .cond (decide (s2.1>0))
  (let v1:=aI .i64 (Int.tdiv s2.1 2)
  .ret (.inl (v1,aI .i64 (s2.2+1))))
  (.ret (.inr s2.2))
def R6 (p0:Int):Tre Int:=
 .mat (aZ BH (p0,-1)) fun l2=>
 .ret l2
def qg (p0:Int):Option Int:=(R6 p0).run some
def xW:Env:=⟨tau,[],[]⟩
def LX:Code:=(Try.f193.body).getD .skip
def Dx:(Int×Int)→St:=fun x=>fA [(0,(.i x.1)),(3,(.i x.2))] []
def BI:Int→Ex×St:=fun x=>(.exit 0,fA [(3,(.i x))] [])
def Q0 (s:St):Tre (Ex×St):=
 aD true .n (s.tmps 0) fun d2=>
 aD true .n (s.tmps 3) fun d4=>
 .mat (aZ BH (d2,d4)) fun x=>.ret (BI x)
def sK:bS:=⟨([0,3],[]),([3],[]),Q0⟩
def El:List (Nat×bS):=[(2,sK)]
theorem K3:∀(x:(Int×Int))(c:St→Option (Ex×St)),den xW El (bF LX 0) (Dx x) (fE sK.kp sK.kx c)=(BH x).run (fF (Dx) (BI) c):=fun _ _=>by
 kernel_rfl
theorem Pn:dZ xW El (bF LX 0) sK:=jf fun _ _ _=>aU fun _=>aU fun _=>fun h e3 e1=>gB K3 h (by subst_vars;exact bn rfl rfl ⟨e1,e3,trivial⟩ trivial)
def Xy:FnI:=fnI Try.f193 El
def Hf (_:Int):Int→au:=fun r=>⟨(.i r),[],[]⟩
theorem VW:∀(p0:Int),bU xW Xy ⟨[(.i p0)],[]⟩=(R6 p0).run fun r=>some (Hf p0 r):=fun _=>by kernel_rfl
def Xx (av:List AV) (rs:List Root):Tre au:=
 aA av fun a0_ av0=>
 aK av0<|
 aK rs<|
 aD true .n a0_ fun d1=>
 .mat (qg d1) fun r=>.ret (Hf d1 r)
def Em:Ctr:=fJ [] Xx
theorem J2:Contract Try.prog .none 193 Em:=aB (V:=xW) aS aG Try.func193 (dw (n:=1) fun k hk=>by
 match k,hk with
 |0,_=>exact eH (id:=2) Pn) fun _ _ _=>aJ fun _ _=>bD<|bD<|aU fun _=>fun h=>by intros;subst_vars;exact bC (VW _) h
def Gp (bg:Int) (gq:Int):Int→Tre (Int ⊕ Int):=fun s2=>
 .mat (qg s2) fun r2=>
 .cond (decide (r2 ≥ gq))
  (.mat (qg s2) fun r3=>
  let v4:=aI .u64 (aI .i64 (r3-gq))
  .ite (0≤v4)<|
  let v5:=yN .i64 s2 (Ah .i64 bg v4)
  .ret (.inl v5))
  (.ret (.inr s2))
def Ym (p0:Int) (p1:Int):Tre Int:=
 .mat (qg p1) fun r1=>
 .mat (aZ (Gp p1 r1) p0) fun l6=>
 .ret l6
def R8 (p0:Int) (p1:Int):Option Int:=(Ym p0 p1).run some
def DF:Env:=⟨tau,[(193,Em)],[]⟩
def R9:Code:=(Try.f221.body).getD .skip
def Hl (bg:Int) (gq:Int):Int→St:=fun x=>fA [(0,(.i x)),(1,(.i bg)),(5,(.i gq))] []
def Fj (_:Int) (_:Int):Int→Ex×St:=fun x=>(.exit 0,fA [(0,(.i x))] [])
def VZ (s:St):Tre (Ex×St):=
 aD true .n (s.tmps 0) fun d2=>
 aD true .n (s.tmps 1) fun d4=>
 aD true .n (s.tmps 5) fun d6=>
 .mat (aZ (Gp d4 d6) d2) fun x=>.ret (Fj d4 d6 x)
def wh:bS:=⟨([0,1,5],[]),([0],[]),VZ⟩
def J3:List (Nat×bS):=[(2,wh)]
theorem Pv:∀(bg gq x:Int)(c:St→Option (Ex×St)),den DF J3 (bF R9 0) (Hl bg gq x) (fE wh.kp wh.kx c)=(Gp bg gq x).run (fF (Hl bg gq) (Fj bg gq) c):=fun _ _ _ _=>by
 kernel_rfl
theorem Tv:dZ DF J3 (bF R9 0) wh:=jf fun _ _ _=>aU fun _=>aU fun _=>aU fun _=>fun h e5 e3 e1=>gB (Pv _ _) h (by subst_vars;exact bn rfl rfl ⟨e1,e3,e5,trivial⟩ trivial)
def abP:FnI:=fnI Try.f221 J3
def L6 (_:Int) (_:Int):Int→au:=fun r=>⟨(.i r),[],[]⟩
theorem ZI:∀(p0 p1:Int),bU DF abP ⟨[(.i p0),(.i p1)],[]⟩=(Ym p0 p1).run fun r=>some (L6 p0 p1 r):=fun _ _=>by kernel_rfl
def abO (av:List AV) (rs:List Root):Tre au:=
 aA av fun a0_ av0=>
 aA av0 fun a1_ av1=>
 aK av1<|
 aK rs<|
 aD true .n a0_ fun d1=>
 aD true .n a1_ fun d2=>
 .mat (R8 d1 d2) fun r=>.ret (L6 d1 d2 r)
def Sb:Ctr:=fJ [] abO
theorem ZJ:Contract Try.prog .none 221 Sb:=aB (V:=DF) aS (ay J2 agh aG) Try.func221 (dw (n:=1) fun k hk=>by
 match k,hk with
 |0,_=>exact eH (id:=2) Tv) fun _ _ _=>aJ fun _ _=>aJ fun _ _=>bD<|bD<|aU fun _=>aU fun _=>fun h=>by intros;subst_vars;exact bC (ZI _ _) h
def nH (qj:Int) (ql:Int):Int→Tre (Int ⊕ (Bool ⊕ Unit)):=fun s5=>
 .mat (qg s5) fun r2=>
 .cond (decide (r2<ql))
  (.mat (R8 qj s5) fun r3=>
  .cond (decide (r3=0))
   (.ret (.inr (.inl false)))
   (.ret (.inl (aI .i64 (s5+1)))))
  (.ret (.inr (.inr ())))
def Fh (p0:Int):Tre Bool:=
 .mat (qg p0) fun r1=>
 .cond (decide (r1<1))
  (.ret false)
  (.cond (decide (r1>5))
   (.ret false)
   (.mat (aZ (nH p0 r1) 2) fun l4=>
   .alt l4
    (fun a5=>
     .ret a5)
    (fun _=>
     .ret true)))
def BL (p0:Int):Option Bool:=(Fh p0).run some
def o7:Env:=⟨tau,[(193,Em),(221,Sb)],[]⟩
def BM:Code:=(Try.f203.body).getD .skip
def o8 (qj:Int) (ql:Int):Int→St:=fun x=>fA [(0,(.i qj)),(3,(.i ql)),(4,(.i x))] []
def kF (_:Int) (_:Int):(Bool ⊕ Unit)→Ex×St
 |.inl x=>(.ret,fA [(2,(.imm true .bool x))] [])
 |.inr _=>(.exit 0,fA [(2,.dead)] [])
def wN (s:St):Tre (Ex×St):=
 aD true .n (s.tmps 0) fun d2=>
 aD true .n (s.tmps 3) fun d4=>
 aD true .n (s.tmps 4) fun d6=>
 .mat (aZ (nH d2 d4) d6) fun x=>.alt x (fun a0=>.ret (kF d2 d4 (.inl a0))) (fun b0=>.ret (kF d2 d4 (.inr b0)))
def jB:bS:=⟨([0,3,4],[]),([2],[]),wN⟩
def uQ:List (Nat×bS):=[(5,jB)]
theorem Eo:∀(qj ql x:Int)(c:St→Option (Ex×St)),den o7 uQ (bF BM 0) (o8 qj ql x) (fE jB.kp jB.kx c)=(nH qj ql x).run (fF (o8 qj ql) (kF qj ql) c):=fun _ _ _ _=>by
 kernel_rfl
theorem Gn:dZ o7 uQ (bF BM 0) jB:=mh fun s e s' h=>by
 generalize hs:restrict jB.kp s=s1 at h
 have h:(wN s1).run some=some (e,s'):=h
 obtain ⟨d2,e1,h_0⟩:=dA h
 obtain ⟨d4,e3,h_1⟩:=dA h_0
 obtain ⟨d6,e5,h_2⟩:=dA h_1
 obtain ⟨y,hy,hz⟩:=nQ h_2
 refine ⟨_,_,o8 d2 d4,kF d2 d4,nH d2 d4,d6,y,?_,hy,?_,Eo d2 d4⟩
 ·subst hs;exact bn (T:=[(0,(.i d2)),(3,(.i d4)),(4,(.i d6))]) (U:=[]) rfl rfl ⟨e1,e3,e5,trivial⟩ trivial
 ·rcases y with x|x<;>exact Option.some.inj hz
def Nw:FnI:=fnI Try.f203 uQ
def yZ (_:Int):Bool→au:=fun r=>⟨(.imm true .bool r),[],[]⟩
theorem K5:∀(p0:Int),bU o7 Nw ⟨[(.i p0)],[]⟩=(Fh p0).run fun r=>some (yZ p0 r):=fun _=>by kernel_rfl
def Nv (av:List AV) (rs:List Root):Tre au:=
 aA av fun a0_ av0=>
 aK av0<|
 aK rs<|
 aD true .n a0_ fun d1=>
 .mat (BL d1) fun r=>.ret (yZ d1 r)
def BN:Ctr:=fJ [] Nv
theorem K6:Contract Try.prog .none 203 BN:=aB (V:=o7) aS (ay J2 agh (ay ZJ ajG aG)) Try.func203 (dw (n:=1) fun k hk=>by
 match k,hk with
 |0,_=>exact eH (id:=5) Gn) fun _ _ _=>aJ fun _ _=>bD<|bD<|aU fun _=>fun h=>by intros;subst_vars;exact bC (K5 _) h
-- shared
theorem agC{α:Type}{p:α→Bool}(l:List α):(!decide (Ee (fun x=>!p x) 0 l ≥ 0))=l.all p:=by
 rw [aa3]
 induction l with
 |nil=>rfl
 |cons x l ih=>simp only [List.any_cons,List.all_cons,←ih,Bool.not_or,Bool.not_not]
def ag0{α β:Type}(f:Nat→α→Option β):Nat→List α→List β
 |_,[]=>[]
 |i,x::l=>match f i x with
  |some y=>y::ag0 f (i+1) l
  |none=>ag0 f (i+1) l
theorem mU{i:Nat}(h0:0<i)(h:i<4611686018427387904):aI .i64 ((i:Int)-1)=((i-1:Nat):Int):=by
 rw [jK (by omega) (by omega)];omega
theorem len2{e:List Int}(h:e.length=2):∃a b,e=[a,b]:=by
 match e,h with
 |[a,b],_=>exact ⟨a,b,rfl⟩
-- shared
abbrev TF3:=Int×Int×Unit
def Uv:List (Int×Int):=[(1,2),(1,3),(2,7),(3,11),(3,13),(4,19),(4,25),(4,31),(5,37),(5,41),(5,47),(5,55),(5,59),(5,61)]
def aO(f:TF3):Bool:=Uv.contains (f.1,f.2.1)
theorem IC{f:TF3}(h:aO f=true):(f.1,f.2.1)∈Uv:=by simpa [aO] using h
theorem jX{f:TF3}(h:aO f=true):1≤f.1∧f.1≤5:=by
 have h:=IC h
 have:∀x∈Uv,1≤x.1∧x.1≤5:=by decide
 exact this _ h
theorem YQ{f:TF3}(h:aO f=true):2≤f.2.1∧f.2.1≤61:=by
 have h:=IC h
 have:∀x∈Uv,2≤x.2∧x.2≤61:=by decide
 exact this _ h
theorem agp{F:TF3→Option Bool}(hd:∀f:TF3,inR f.1 1 5=false→F f=some false)
  (hb:∀f:TF3,(f.2.1<0∨64≤f.2.1)→F f=some false)
  (hk:((List.range' 1 5).all fun d=>(List.range 64).all fun p=>F ((d:Int),(p:Int),()) == some (aO ((d:Int),(p:Int),())))=true) (f:TF3):F f=some (aO f):=by
 have hno:∀g:TF3,(¬(1≤g.1∧g.1≤5)∨¬(0≤g.2.1∧g.2.1<64))→aO g=false:=by
  intro g hg
  cases h:aO g with
  |false=>rfl
  |true=>
   have h1:=jX h
   have h2:=YQ h
   omega
 obtain ⟨d,p,⟨⟩⟩:=f
 by_cases h1:1≤d∧d≤5
 ·by_cases h2:0≤p∧p<64
  ·obtain ⟨n,rfl⟩:=Int.eq_ofNat_of_zero_le (show 0≤d by omega)
   obtain ⟨m,rfl⟩:=Int.eq_ofNat_of_zero_le h2.1
   have h3:=List.all_eq_true.1 (List.all_eq_true.1 hk n (List.mem_range'_1.2 (by omega))) m (List.mem_range.2 (by omega))
   exact eq_of_beq h3
  ·rw [hb _ (by show p<0∨64≤p;omega),hno _ (.inr h2)]
 ·rw [hd _ (aeR.2 (by show d<1∨5<d;omega)),hno _ (.inl h1)]
-- shared
def aj9:Nat→Nat→Nat→Nat
 |0,_,_=>0
 |n+1,a,b=>Nat.xor (bif Nat.beq (b%2) 1 then a else 0) (aj9 n (2*a) (b/2))
def ai6:Nat→Nat→Nat→Nat
 |0,c,_=>c
 |n+1,c,p=>bif Nat.ble (Nat.log2 p) (Nat.log2 c) then ai6 n (Nat.xor c (Nat.shiftLeft p (Nat.log2 c-Nat.log2 p))) p else c
def mulN(p a b:Nat):Nat:=ai6 6 (aj9 6 a b) p
def xE(f:TF3)(a b:Int):Int:=((mulN f.2.1.toNat a.toNat b.toNat:Nat):Int)
def inF(f:TF3)(a:Int):Prop:=0≤a∧a<((2 ^ f.1.toNat:Nat):Int)
def jW:List (Nat×Nat):=[(1,2),(1,3),(2,7),(3,11),(3,13),(4,19),(4,25),(4,31),(5,37),(5,41),(5,47),(5,55),(5,59),(5,61)]
def Ml(F:TF3→Int→Int→Option Int)(G:Nat→Nat→Nat→Nat)(d p:Nat):Bool:=(List.range (2 ^ d)).all fun a=>(List.range (2 ^ d)).all fun b=>F ((d:Int),(p:Int),()) (a:Int) (b:Int) == some ((G p a b:Nat):Int)
theorem wU{f:TF3}(h:aO f=true):∃d p:Nat,(d,p)∈jW∧f=((d:Int),(p:Int),()):=by
 have h1:=IC h
 obtain ⟨a,b,⟨⟩⟩:=f
 have key:∀x∈Uv,∃q∈jW,x=((q.1:Int),(q.2:Int)):=by decide
 obtain ⟨q,h2,h3⟩:=key _ h1
 simp only [Prod.mk.injEq] at h3
 exact ⟨q.1,q.2,h2,by rw [h3.1,h3.2]⟩
theorem aj4{F:TF3→Int→Int→Option Int}{G:Nat→Nat→Nat→Nat}(h:∀q∈jW,Ml F G q.1 q.2=true){f:TF3}(hf:aO f=true){a b:Int}(ha:inF f a)(hb:inF f b):F f a b=some ((G f.2.1.toNat a.toNat b.toNat:Nat):Int):=by
 obtain ⟨d,p,hq,rfl⟩:=wU hf
 obtain ⟨ha0,ha1⟩:=ha
 obtain ⟨hb0,hb1⟩:=hb
 simp only [Int.toNat_natCast] at ha1 hb1
 obtain ⟨m,rfl⟩:=Int.eq_ofNat_of_zero_le ha0
 obtain ⟨n,rfl⟩:=Int.eq_ofNat_of_zero_le hb0
 have h1:=List.all_eq_true.1 (List.all_eq_true.1 (h _ hq) m (List.mem_range.2 (by exact_mod_cast ha1))) n (List.mem_range.2 (by exact_mod_cast hb1))
 exact eq_of_beq h1
def BJ (cZ:Int):(Int×(List (Int×(Int×Unit))))→Tre ((Int×(List (Int×(Int×Unit)))) ⊕ (List (Int×(Int×Unit)))):=fun s3=>
 .ite (0≤aI .u64 cZ)<|
 let v2:=Ah .i64 2 (aI .u64 cZ)
 .cond (decide (s3.1<v2))
  (.mat (BL s3.1) fun r3=>
  .cond r3
   (.ite ((s3.2.length+1)*16≤fD∧1≤16)<|
   let v4:=s3.2++([(cZ,(s3.1,()))])
   .ret (.inl (aI .i64 (s3.1+1),v4)))
   (.ret (.inl (aI .i64 (s3.1+1),s3.2))))
  (.ret (.inr s3.2))
def R7 (p0:Int):Tre (List (Int×(Int×Unit))):=
 .ite (0≤aI .u64 p0)<|
 let v1:=Ah .i64 1 (aI .u64 p0)
 .mat (aZ (BJ p0) (v1,[])) fun l5=>
 .ret l5
def xX (p0:Int):Option (List (Int×(Int×Unit))):=(R7 p0).run some
-- more
def CB(d:Nat):List TF3:=(jW.filter fun q=>q.1 == d).map fun q=>((q.1:Int),(q.2:Int),())
theorem acW:((List.range' 1 5).all fun d=>xX (d:Int) == some (CB d))=true:=by kernel_rfl
theorem aeE{d:Nat}(h1:1≤d)(h2:d≤5):xX (d:Int)=some (CB d):=by
 have:=List.all_eq_true.1 acW d (List.mem_range'_1.2 (by omega))
 exact eq_of_beq this
theorem acV{d:Nat}(h1:1≤d)(h2:d≤5):1≤(CB d).length∧(CB d).length≤6∧∀f∈CB d,aO f=true∧f.1=(d:Int):=by
 have:∀d∈List.range' 1 5,1≤(CB d).length∧(CB d).length≤6∧∀f∈CB d,aO f=true∧f.1=(d:Int):=by decide
 exact this d (List.mem_range'_1.2 (by omega))
def xY:Env:=⟨tau,[(203,BN)],[]⟩
def LY:Code:=(Try.f147.body).getD .skip
def DC (cZ:Int):(Int×(List (Int×(Int×Unit))))→St:=fun x=>fA [(0,(.i cZ)),(3,(.ref (5,0) [])),(4,(.i x.1))] [((5,0),some ⟨false,(.sl aH),.own,x.2⟩)]
def BK (_:Int):(List (Int×(Int×Unit)))→Ex×St:=fun x=>(.exit 0,fA [(3,(.ref (5,0) []))] [((5,0),some ⟨false,(.sl aH),.own,x⟩)])
def Q5 (s:St):Tre (Ex×St):=
 aD true .n (s.tmps 0) fun d2=>
 nJ (5,0) [] (s.tmps 3)<|
 aD true .n (s.tmps 4) fun d5=>
 dY false (.sl aH) (s.roots (5,0)) fun m7 d8=>
 asM .own m7<|
 .mat (aZ (BJ d2) (d5,d8)) fun x=>.ret (BK d2 x)
def sM:bS:=⟨([0,3,4],[(5,0)]),([3],[(5,0)]),Q5⟩
def En:List (Nat×bS):=[(3,sM)]
theorem K4:∀(cZ:Int)(x:(Int×(List (Int×(Int×Unit)))))(c:St→Option (Ex×St)),den xY En (bF LY 0) (DC cZ x) (fE sM.kp sM.kx c)=(BJ cZ x).run (fF (DC cZ) (BK cZ) c):=fun _ _ _=>by
 kernel_rfl
theorem Pt:dZ xY En (bF LY 0) sM:=jf fun _ _ _=>aU fun _=>J9<|aU fun _=>mP fun _ _=>tM<|fun h _ e6 e4 e3 e1=>gB (K4 _) h (by subst_vars;exact bn rfl rfl ⟨e1,e3,e4,trivial⟩ ⟨e6,trivial⟩)
def XA:FnI:=fnI Try.f147 En
def Hg (_:Int):(List (Int×(Int×Unit)))→au:=fun r=>⟨(.ref (1,0) []),[],[⟨false,(.sl aH),.own,r⟩]⟩
theorem VX:∀(p0:Int),bU xY XA ⟨[(.i p0)],[]⟩=(R7 p0).run fun r=>some (Hg p0 r):=fun _=>by kernel_rfl
def Xz (av:List AV) (rs:List Root):Tre au:=
 aA av fun a0_ av0=>
 aK av0<|
 aK rs<|
 aD true .n a0_ fun d1=>
 .mat (xX d1) fun r=>.ret (Hg d1 r)
def LZ:Ctr:=fJ [] Xz
theorem VY:Contract Try.prog .none 147 LZ:=aB (V:=xY) aS (ay K6 ajz aG) Try.func147 (dw (n:=1) fun k hk=>by
 match k,hk with
 |0,_=>exact eH (id:=3) Pt) fun _ _ _=>aJ fun _ _=>bD<|bD<|aU fun _=>fun h=>by intros;subst_vars;exact bC (VX _) h
-- shared
def iy{α:Type}(t:Tre α)(Q:α→Prop):Prop:=∃a,t.run some=some a∧Q a
theorem iy.ret{α:Type}{a:α}{Q:α→Prop}(h:Q a):iy (.ret a) Q:=⟨a,rfl,h⟩
theorem iy.cond{α:Type}{b:Bool}{t f:Tre α}{Q:α→Prop}(ht:b=true→iy t Q)(hf:b=false→iy f Q):iy (.cond b t f) Q:=by
 cases b
 ·exact hf rfl
 ·exact ht rfl
theorem iy.Uk{α:Type}{p:Prop} [Decidable p] {t f:Tre α} {Q:α→Prop} (ht:p→iy t Q) (hf:¬p→iy f Q):iy (.cond (decide p) t f) Q:=
 iy.cond (fun h=>ht (of_decide_eq_true h)) (fun h=>hf (of_decide_eq_false h))
theorem iy.ite{α:Type}{p:Prop} [h:Decidable p] {t:Tre α} {Q:α→Prop} (hp:p) (ht:p→iy t Q):iy (.ite p t) Q:=by
 obtain ⟨a,h1,h2⟩:=ht hp
 exact ⟨a,by rw [Tre.run_ite,if_pos hp];exact h1,h2⟩
theorem iy.ifn{α:Type}{p:Prop} [h:Decidable p] {t:Tre α} {Q:α→Prop} (hp:¬p) (ht:iy t Q):iy (.ifn p t) Q:=by
 obtain ⟨a,h1,h2⟩:=ht
 exact ⟨a,by rw [Tre.TP,if_neg hp];exact h1,h2⟩
theorem iy.mat{α β:Type}{o:Option β}{k:β→Tre α}{P:β→Prop}{Q:α→Prop}(h:∃x,o=some x∧P x)(hk:∀x,P x→iy (k x) Q):iy (.mat o k) Q:=by
 obtain ⟨x,rfl,hx⟩:=h
 exact hk x hx
theorem iy.get{α β:Type}{o:Option β}{x:β}{k:β→Tre α}{Q:α→Prop}(h:o=some x)(hk:iy (k x) Q):iy (.mat o k) Q:=by
 subst h;exact hk
theorem iy.at{α β:Type}{xs:List β}{i:Int}{k:β→Tre α}{Q:α→Prop}(hi:0≤i∧i<(xs.length:Int))(hk:∀x,x∈xs→iy (k x) Q):iy (.mat xs[i.toNat]? k) Q:=by
 have hl:i.toNat<xs.length:=by omega
 exact .get (List.getElem?_eq_getElem hl) (hk _ (List.getElem_mem hl))
theorem iy.run{α:Type}{t:Tre α}{Q:α→Prop}(h:iy t Q):∃a,t.run some=some a∧Q a:=h
abbrev Src:=List Int×Int×Int×Unit
def DR(c:Nat)(s:Src):Prop:=s.1.length≤5000∧(∀x∈s.1,0≤x∧x≤255)∧0≤s.2.1∧s.2.1≤(c:Int)
theorem DR.mono{c c':Nat}{s:Src}(h:DR c s)(hc:c≤c'):DR c' s:=⟨h.1,h.2.1,h.2.2.1,by have:=h.2.2.2;omega⟩
theorem aje(a:Int):0≤KU .u64 a 255∧KU .u64 a 255≤255:=by
 have h:(BitVec.ofInt 64 a&&&BitVec.ofInt 64 255).toNat≤255:=by
  rw [BitVec.toNat_and]
  exact Nat.le_trans Nat.and_le_right (by decide)
 unfold KU
 show 0≤aI .u64 (((BitVec.ofInt 64 a&&&BitVec.ofInt 64 255).toNat:Nat):Int)∧aI .u64 (((BitVec.ofInt 64 a&&&BitVec.ofInt 64 255).toNat:Nat):Int)≤255
 rw [Kr (by omega) (by omega)]
 omega
theorem ad1{c:Nat}{s:Src}(h:DR c s)(hc:c≤100000):∃r,j4 s=some r∧((0≤r.1∧r.1≤255)∧DR (c+1) r.2):=by
 obtain ⟨h1,h2,h3,h4⟩:=h
 have hw:aI .i64 (s.2.1+1)=s.2.1+1:=jK (by omega) (by omega)
 have hsrc:∀v:Int,DR (c+1) (s.1,aI .i64 (s.2.1+1),v,s.2.2.2):=fun v=>⟨h1,h2,by show 0≤aI .i64 (s.2.1+1);omega,by show aI .i64 (s.2.1+1)≤((c+1:Nat):Int);omega⟩
 have hand:∀a:Int,0≤aI .i64 (KU .u64 a 255)∧aI .i64 (KU .u64 a 255)≤255:=fun a=>by
  have:=aje a
  rw [jK (by omega) (by omega)];exact this
 unfold j4 uO
 refine iy.run (iy.Uk (fun hlt=>iy.ite ⟨h3,hlt⟩ fun hi=>iy.at hi fun x hx=>?_) (fun _=>?_))
 ·have hb:=h2 x hx
  have hx1:aI .i64 x=x:=jK (by omega) (by omega)
  exact iy.Uk (fun _=>.ret ⟨by rw [hx1];exact hb,hsrc _⟩) (fun _=>.ret ⟨hand _,hsrc _⟩)
 ·exact iy.Uk (fun _=>.ret ⟨⟨Int.le_refl 0,by show (0:Int)≤255;omega⟩,hsrc _⟩) (fun _=>.ret ⟨hand _,hsrc _⟩)
theorem Wj{x n:Int}(hx:0≤x)(hn:0<n):0≤Int.tmod x n∧Int.tmod x n<n:=⟨Int.tmod_nonneg n hx,Int.tmod_lt_of_pos x hn⟩
theorem TM{n:Int}{c:Nat}{s:Src}(h:DR c s)(hc:c≤90000):∃r,gD n s=some r∧((0≤r.1∧(r.1=0∨r.1<n))∧DR (c+2) r.2):=by
 unfold gD uP
 refine iy.run (iy.Uk (fun _=>.ret ⟨⟨Int.le_refl _,.inl rfl⟩,h.mono (by omega)⟩) (fun hn=>iy.mat (ad1 h (by omega)) fun x hx=>iy.Uk (fun _=>iy.mat (ad1 hx.2 (by omega)) fun y hy=>?_) (fun _=>?_)))
 ·refine iy.ifn (by omega) (.ret ⟨?_,hy.2⟩)
  have h1:aI .i64 (x.1*256)=x.1*256:=jK (by omega) (by omega)
  have h2:aI .i64 (aI .i64 (x.1*256)+y.1)=x.1*256+y.1:=by rw [h1];exact jK (by omega) (by omega)
  show 0≤Int.tmod (aI .i64 (aI .i64 (x.1*256)+y.1)) n∧(Int.tmod (aI .i64 (aI .i64 (x.1*256)+y.1)) n=0∨Int.tmod (aI .i64 (aI .i64 (x.1*256)+y.1)) n<n)
  rw [h2]
  have:=Wj (x:=x.1*256+y.1) (n:=n) (by omega) (by omega)
  exact ⟨this.1,.inr this.2⟩
 ·refine iy.ifn (by omega) (.ret ⟨?_,hx.2.mono (by omega)⟩)
  have:=Wj (x:=x.1) (n:=n) (by omega) (by omega)
  exact ⟨this.1,.inr this.2⟩
-- shared
abbrev TN6:=TF3×Int×Int×List (List Int)×List (List Int)×Unit
def e0(e:List Int):Int:=e.getD 0 0
def e1(e:List Int):Int:=e.getD 1 0
def edgeOk(N:Int)(es:List (List Int))(i:Nat)(e:List Int):Bool:=
 decide (e.length=2)&&((inR (e0 e) 0 (N-1)&&(inR (e1 e) 0 (N-1)&&decide (e0 e<e1 e)))&&(decide (i=0)||decide (e0 (es.getD (i-1) [])≤e0 e)))
theorem acQ{N:Int}{es:List (List Int)}{i:Nat}{e:List Int}(h:edgeOk N es i e=true):e.length=2:=by
 unfold edgeOk at h
 rw [Bool.and_eq_true] at h
 exact of_decide_eq_true h.1
def akA(es:List (List Int))(node:Int):List Int:=ag0 (fun i e=>if e1 e=node then some (i:Int) else none) 0 es
def akI(n:TN6)(node:Int):Int:=if node=0 then n.2.2.1 else ((akA n.2.2.2.1 node).length:Int)
def Tx(f:TF3):Int:=2 ^ f.1.toNat-1
theorem aiS{f:TF3}(h:aO f=true):aI .i64 (Ah .i64 1 (aI .u64 f.1)-1)=Tx f:=by
 obtain ⟨h1,h2⟩:=jX h
 obtain ⟨n,hn⟩:=Int.eq_ofNat_of_zero_le (show 0≤f.1 by omega)
 unfold Tx
 rw [hn]
 have:∀n:Nat,n<6→aI .i64 (Ah .i64 1 (aI .u64 (n:Int))-1)=2 ^ (n:Int).toNat-1:=by decide
 exact this n (by omega)
theorem aho{f:TF3}(h:aO f=true):aI .i64 (Ah .i64 1 f.1-1)=Tx f:=by
 obtain ⟨h1,h2⟩:=jX h
 have:=aiS h
 rw [Kr (by omega) (by omega)] at this
 exact this
def aaF(f:TF3)(c:List Int):Bool:=c.all fun x=>inR x 0 (Tx f)
def ajg(n:TN6)(i:Nat)(c:List Int):Bool:=decide ((c.length:Int)=akI n (e0 (n.2.2.2.1.getD i [])))&&aaF n.1 c
structure aj7(n:TN6):Prop where
 field:aO n.1=true
 nodes:2≤n.2.1∧n.2.1≤8
 mess:1≤n.2.2.1∧n.2.2.1≤3
 len:n.2.2.2.1.length≤14
 clen:n.2.2.2.2.1.length=n.2.2.2.1.length
 edges:∀i e,n.2.2.2.1[i]?=some e→edgeOk n.2.1 n.2.2.2.1 i e=true
 coefs:∀i c,n.2.2.2.2.1[i]?=some c→ajg n i c=true
theorem aj7.two{n:TN6}(h:aj7 n){i:Nat}{e:List Int}(he:n.2.2.2.1[i]?=some e):∃a b,e=[a,b]∧0≤a∧a<b∧b≤n.2.1-1:=by
 have:=h.edges i e he
 obtain ⟨a,b,rfl⟩:=len2 (acQ this)
 simp only [edgeOk,Bool.and_eq_true,Ag,decide_eq_true_eq,e0,e1,List.getD_cons_zero,List.getD_cons_succ] at this
 exact ⟨a,b,rfl,by omega,by omega,by omega⟩
theorem TD{α:Type}{l:List α}{i:Nat}{x d:α}(h:l[i]?=some x):l.getD i d=x:=by
 rw [List.getD_eq_getElem?_getD,h];rfl
def zC (p0:dn):Tre ((Int×(Int×Unit))×dn):=
 .mat (lT p0 ([1,2,3,3,4,4,5])) fun r1=>
 .mat (xX r1.1) fun r2=>
 .mat (gD (r2.length:Int) r1.2) fun r3=>
 .ite (0≤r3.1∧r3.1<(r2.length:Int))<|
 .mat (r2[r3.1.toNat]?) fun x4=>
 .ret (x4,r3.2)
def qO (p0:dn):Option ((Int×(Int×Unit))×dn):=(zC p0).run some
-- more
theorem afE{l:List Int}{c:Nat}{s:Src}(h:DR c s)(hc:c≤80000)(hl:0<l.length):∃r,lT s l=some r∧(r.1∈l∧DR (c+2) r.2):=by
 unfold lT tK
 exact iy.run (iy.mat (TM h (by omega)) fun a ha=>iy.ite ⟨ha.1.1,by omega⟩ fun hi=>iy.at hi fun x hx=>.ret ⟨hx,ha.2⟩)
theorem af6{c:Nat}{s:Src}(h:DR c s)(hc:c≤70000):∃r,qO s=some r∧aO r.1=true:=by
 unfold qO zC
 refine iy.run (iy.mat (afE h (by omega) (by decide)) fun a ha=>?_)
 obtain ⟨hm,hs⟩:=ha
 obtain ⟨d,hd⟩:∃d:Nat,a.1=(d:Int)∧1≤d∧d≤5:=by
  simp only [List.mem_cons,List.not_mem_nil,or_false] at hm
  refine ⟨a.1.toNat,?_,?_,?_⟩<;>omega
 obtain ⟨hd,hd1,hd2⟩:=hd
 rw [hd]
 have hf:=acV (d:=d) hd1 hd2
 exact iy.get (aeE hd1 hd2) (iy.mat (TM hs (by omega)) fun b hb=>iy.ite ⟨hb.1.1,by omega⟩ fun hi=>iy.at hi fun x hx=>.ret (hf.2.2 x hx).1)
def Dy:Env:=⟨tau,[(148,wM),(147,LZ),(149,mK)],[]⟩
def Pq:FnI:=fnI Try.f85 []
def zS (zp0:Bool) (_:dn):((Int×(Int×Unit))×dn)→au:=fun r=>⟨(.imm true aH r.1),[⟨true,jR,(.imm zp0),r.2⟩],[]⟩
theorem Nt:∀(zp0:Bool)(p0:dn),bU Dy Pq ⟨[(.ptr (0,0) [])],[⟨true,jR,(.imm zp0),p0⟩]⟩=(zC p0).run fun r=>some (zS zp0 p0 r):=fun _ _=>by kernel_rfl
def Pp (av:List AV) (rs:List Root):Tre au:=
 aA av fun a0_ av0=>
 aK av0<|
 aA rs fun r0_ rs0=>
 aK rs0<|
 nu (0,0) [] a0_<|
 uH true jR r0_ fun m1 d2=>
 ru m1 fun z3=>
 .mat (qO d2) fun r=>.ret (zS z3 d2 r)
def Dz:Ctr:=fJ [] Pp
theorem Nu:Contract Try.prog .none 85 Dz:=aB (V:=Dy) aS (ay Gm ajm (ay VY ajl (ay qw acT aG))) Try.func85 bN fun _ _ _=>aJ fun _ _=>bD<|aJ fun _ _=>bD<|Ap<|tRt fun _ _=>Hq fun _=>fun h=>by intros;subst_vars;exact bC (Nt _ _) h
def QY (p0:List Int):Tre (Int×(Int×Unit)):=
 .mat (qO (p0,(0,(0,())))) fun r1=>
 .ret r1.1
def Dv (p0:List Int):Option (Int×(Int×Unit)):=(QY p0).run some
-- more
theorem acd{code:List Int}(hl:code.length≤5000)(hc:∀x∈code,0≤x∧x≤255):∃r,Dv code=some r∧aO r=true:=by
 have h0:DR 0 (code,0,0,()):=⟨hl,hc,Int.le_refl _,Int.le_refl _⟩
 unfold Dv QY
 exact iy.run (iy.mat (af6 h0 (by omega)) fun a ha=>.ret ha)
def RX:Env:=⟨tau,[(86,JR),(85,Dz)],[]⟩
def abG:FnI:=fnI Try.f25 []
def LU (_:Bool) (_:List Int):(Int×(Int×Unit))→au:=fun r=>⟨(.imm true aH r),[],[]⟩
theorem Zy:∀(zp0:Bool)(p0:List Int),bU RX abG ⟨[(.imm zp0 (.sl (.int .u8)) p0)],[]⟩=(QY p0).run fun r=>some (LU zp0 p0 r):=fun _ _=>by kernel_rfl
def abF (av:List AV) (rs:List Root):Tre au:=
 aA av fun a0_ av0=>
 aK av0<|
 aK rs<|
 bX (.sl (.int .u8)) a0_ fun z2 d1=>
 .mat (Dv d1) fun r=>.ret (LU z2 d1 r)
def RY:Ctr:=fJ [] abF
theorem Zz:Contract Try.prog .none 25 RY:=aB (V:=RX) aS (ay Pj ai2 (ay Nu akp aG)) Try.func25 bN fun _ _ _=>aJ fun _ _=>bD<|bD<|iq fun _ _=>fun h=>by intros;subst_vars;exact bC (Zy _ _) h
def adi (p0:List Int) (p1:Int) (p2:Int):Tre Int:=
 .cond (decide (p1 ≥ (p0.length:Int)))
  (.ret 0)
  (.cond (decide (p2<1))
   (.ret 0)
   (.ite (0≤p1∧p1<(p0.length:Int))<|
   .mat (p0[p1.toNat]?) fun x1=>
   .ifn (p2=0)<|
   let v2:=Int.tmod (aI .i64 x1) p2
   .ret v2))
def E5 (p0:List Int) (p1:Int) (p2:Int):Option Int:=(adi p0 p1 p2).run some
-- more
theorem adM{code:List Int}(hc:∀x∈code,0≤x∧x≤255){i n:Int}(hi:0≤i):∃r,E5 code i n=some r∧(0≤r∧(r=0∨r<n)):=by
 unfold E5 adi
 refine iy.run (iy.Uk (fun _=>.ret ⟨Int.le_refl _,.inl rfl⟩) fun h1=>iy.Uk (fun _=>.ret ⟨Int.le_refl _,.inl rfl⟩) fun h2=>iy.ite ⟨hi,by omega⟩ fun h3=>iy.at h3 fun x hx=>iy.ifn (by omega) (.ret ?_))
 have hb:=hc x hx
 rw [jK (n:=x) (by omega) (by omega)]
 have:=Wj (x:=x) (n:=n) (by omega) (by omega)
 exact ⟨this.1,.inr this.2⟩
def abe:Env:=⟨tau,[],[]⟩
def agK:FnI:=fnI Try.f26 []
def Vn (_:Bool) (_:List Int) (_:Int) (_:Int):Int→au:=fun r=>⟨(.i r),[],[]⟩
theorem aeX:∀(zp0:Bool)(p0:List Int)(p1 p2:Int),bU abe agK ⟨[(.imm zp0 (.sl (.int .u8)) p0),(.i p1),(.i p2)],[]⟩=(adi p0 p1 p2).run fun r=>some (Vn zp0 p0 p1 p2 r):=fun _ _ _ _=>by kernel_rfl
def agJ (av:List AV) (rs:List Root):Tre au:=
 aA av fun a0_ av0=>
 aA av0 fun a1_ av1=>
 aA av1 fun a2_ av2=>
 aK av2<|
 aK rs<|
 bX (.sl (.int .u8)) a0_ fun z2 d1=>
 aD true .n a1_ fun d3=>
 aD true .n a2_ fun d4=>
 .mat (E5 d1 d3 d4) fun r=>.ret (Vn z2 d1 d3 d4 r)
def abf:Ctr:=fJ [] agJ
theorem aeY:Contract Try.prog .none 26 abf:=aB (V:=abe) aS aG Try.func26 bN fun _ _ _=>aJ fun _ _=>aJ fun _ _=>aJ fun _ _=>bD<|bD<|iq fun _ _=>aU fun _=>aU fun _=>fun h=>by intros;subst_vars;exact bC (aeX _ _ _ _) h
def Vd (p0:Int) (p1:Int) (p2:Int):Tre Bool:=
 .cond (decide (p0 ≥ p1))
  (.ret (decide (p0≤p2)))
  (.ret false)
def Ve (p0:Int) (p1:Int) (p2:Int):Option Bool:=(Vd p0 p1 p2).run some
theorem Xd(n a b:Int):Ve n a b=some (inR n a b):=by
 unfold Ve Vd inR
 by_cases h:a≤n
 ·simp [Tre.aC,Tre.aM,h]
 ·simp [Tre.aC,Tre.aM,h]
def Vf:Env:=⟨tau,[],[]⟩
def ac9:FnI:=fnI Try.f57 []
def OB (_:Int) (_:Int) (_:Int):Bool→au:=fun r=>⟨(.imm true .bool r),[],[]⟩
theorem aa2:∀(p0 p1 p2:Int),bU Vf ac9 ⟨[(.i p0),(.i p1),(.i p2)],[]⟩=(Vd p0 p1 p2).run fun r=>some (OB p0 p1 p2 r):=fun _ _ _=>by kernel_rfl
def ac8 (av:List AV) (rs:List Root):Tre au:=
 aA av fun a0_ av0=>
 aA av0 fun a1_ av1=>
 aA av1 fun a2_ av2=>
 aK av2<|
 aK rs<|
 aD true .n a0_ fun d1=>
 aD true .n a1_ fun d2=>
 aD true .n a2_ fun d3=>
 .ret (OB d1 d2 d3 (inR d1 d2 d3))
def Bu:Ctr:=fJ [] ac8
theorem Dq:Contract Try.prog .none 57 Bu:=aB (V:=Vf) aS aG Try.func57 bN fun _ _ _=>aJ fun _ _=>aJ fun _ _=>aJ fun _ _=>bD<|bD<|aU fun _=>aU fun _=>aU fun _=>fun h=>by intros;subst_vars;exact NW (aa2 _ _ _) (Xd _ _ _) h
def Ea:(Int×Int)→Tre ((Int×Int) ⊕ Int):=fun s2=>
 .cond (decide (s2.1>0))
  (.ret (.inl (OH .i64 s2.1 1,aI .i64 (s2.2+1))))
  (.ret (.inr s2.2))
def U0 (p0:Int):Tre Int:=
 .mat (aZ Ea (p0,-1)) fun l1=>
 .ret l1
def oQ (p0:Int):Option Int:=(U0 p0).run some
def Ad:Env:=⟨tau,[],[]⟩
def Ot:Code:=(Try.f206.body).getD .skip
def ES:(Int×Int)→St:=fun x=>fA [(0,(.i x.1)),(3,(.i x.2))] []
def Dk:Int→Ex×St:=fun x=>(.exit 0,fA [(3,(.i x))] [])
def Te (s:St):Tre (Ex×St):=
 aD true .n (s.tmps 0) fun d2=>
 aD true .n (s.tmps 3) fun d4=>
 .mat (aZ Ea (d2,d4)) fun x=>.ret (Dk x)
def uD:bS:=⟨([0,3],[]),([3],[]),Te⟩
def F7:List (Nat×bS):=[(2,uD)]
theorem M5:∀(x:(Int×Int))(c:St→Option (Ex×St)),den Ad F7 (bF Ot 0) (ES x) (fE uD.kp uD.kx c)=(Ea x).run (fF (ES) (Dk) c):=fun _ _=>by
 kernel_rfl
theorem QC:dZ Ad F7 (bF Ot 0) uD:=jf fun _ _ _=>aU fun _=>aU fun _=>fun h e3 e1=>gB M5 h (by subst_vars;exact bn rfl rfl ⟨e1,e3,trivial⟩ trivial)
def Y4:FnI:=fnI Try.f206 F7
def Jl (_:Int):Int→au:=fun r=>⟨(.i r),[],[]⟩
theorem WZ:∀(p0:Int),bU Ad Y4 ⟨[(.i p0)],[]⟩=(U0 p0).run fun r=>some (Jl p0 r):=fun _=>by kernel_rfl
def Y3 (av:List AV) (rs:List Root):Tre au:=
 aA av fun a0_ av0=>
 aK av0<|
 aK rs<|
 aD true .n a0_ fun d1=>
 .mat (oQ d1) fun r=>.ret (Jl d1 r)
def Ae:Ctr:=fJ [] Y3
theorem Eb:Contract Try.prog .none 206 Ae:=aB (V:=Ad) aS aG Try.func206 (dw (n:=1) fun k hk=>by
 match k,hk with
 |0,_=>exact eH (id:=2) QC) fun _ _ _=>aJ fun _ _=>bD<|bD<|aU fun _=>fun h=>by intros;subst_vars;exact bC (WZ _) h
def Jp (bg:Int) (gq:Int):Int→Tre (Int ⊕ Int):=fun s2=>
 .mat (oQ s2) fun r2=>
 .cond (decide (r2 ≥ gq))
  (.mat (oQ s2) fun r3=>
  .ite (0≤aI .i64 (r3-gq))<|
  let v4:=Ah .i64 bg (aI .i64 (r3-gq))
  .ret (.inl (yN .i64 s2 v4)))
  (.ret (.inr s2))
def aa0 (p0:Int) (p1:Int):Tre Int:=
 .mat (oQ p1) fun r1=>
 .mat (aZ (Jp p1 r1) p0) fun l5=>
 .ret l5
def Na (p0:Int) (p1:Int):Option Int:=(aa0 p0 p1).run some
def F9:Env:=⟨tau,[(206,Ae)],[]⟩
def U9:Code:=(Try.f200.body).getD .skip
def Jq (bg:Int) (gq:Int):Int→St:=fun x=>fA [(0,(.i x)),(1,(.i bg)),(5,(.i gq))] []
def G8 (_:Int) (_:Int):Int→Ex×St:=fun x=>(.exit 0,fA [(0,(.i x))] [])
def W9 (s:St):Tre (Ex×St):=
 aD true .n (s.tmps 0) fun d2=>
 aD true .n (s.tmps 1) fun d4=>
 aD true .n (s.tmps 5) fun d6=>
 .mat (aZ (Jp d4 d6) d2) fun x=>.ret (G8 d4 d6 x)
def xS:bS:=⟨([0,1,5],[]),([0],[]),W9⟩
def M9:List (Nat×bS):=[(2,xS)]
theorem QF:∀(bg gq x:Int)(c:St→Option (Ex×St)),den F9 M9 (bF U9 0) (Jq bg gq x) (fE xS.kp xS.kx c)=(Jp bg gq x).run (fF (Jq bg gq) (G8 bg gq) c):=fun _ _ _ _=>by
 kernel_rfl
theorem Va:dZ F9 M9 (bF U9 0) xS:=jf fun _ _ _=>aU fun _=>aU fun _=>aU fun _=>fun h e5 e3 e1=>gB (QF _ _) h (by subst_vars;exact bn rfl rfl ⟨e1,e3,e5,trivial⟩ trivial)
def ac5:FnI:=fnI Try.f200 M9
def Oz (_:Int) (_:Int):Int→au:=fun r=>⟨(.i r),[],[]⟩
theorem aa1:∀(p0 p1:Int),bU F9 ac5 ⟨[(.i p0),(.i p1)],[]⟩=(aa0 p0 p1).run fun r=>some (Oz p0 p1 r):=fun _ _=>by kernel_rfl
def ac4 (av:List AV) (rs:List Root):Tre au:=
 aA av fun a0_ av0=>
 aA av0 fun a1_ av1=>
 aK av1<|
 aK rs<|
 aD true .n a0_ fun d1=>
 aD true .n a1_ fun d2=>
 .mat (Na d1 d2) fun r=>.ret (Oz d1 d2 r)
def Nb:Ctr:=fJ [] ac4
theorem RI:Contract Try.prog .none 200 Nb:=aB (V:=F9) aS (ay Eb acU aG) Try.func200 (dw (n:=1) fun k hk=>by
 match k,hk with
 |0,_=>exact eH (id:=2) Va) fun _ _ _=>aJ fun _ _=>aJ fun _ _=>bD<|bD<|aU fun _=>aU fun _=>fun h=>by intros;subst_vars;exact bC (aa1 _ _) h
def oN (fB:Int):Int→Tre (Int ⊕ (Bool ⊕ Unit)):=fun s4=>
 .mat (oQ s4) fun r1=>
 .mat (oQ fB) fun r2=>
 .cond (decide (aI .i64 (2*r1)≤r2))
  (.mat (Na fB s4) fun r3=>
  .cond (decide (r3=0))
   (.ret (.inr (.inl false)))
   (.ret (.inl (aI .i64 (s4+1)))))
  (.ret (.inr (.inr ())))
def zu (p0:Int):Tre Bool:=
 .cond (decide (p0<2))
  (.ret false)
  (.cond (decide (p0 ≥ 64))
   (.ret false)
   (.mat (aZ (oN p0) 2) fun l4=>
   .alt l4
    (fun a5=>
     .ret a5)
    (fun _=>
     .ret true)))
def qJ (p0:Int):Option Bool:=(zu p0).run some
def qK:Env:=⟨tau,[(206,Ae),(200,Nb)],[]⟩
def Db:Code:=(Try.f205.body).getD .skip
def qp (fB:Int):Int→St:=fun x=>fA [(0,(.i fB)),(3,(.i x))] []
def kU (_:Int):(Bool ⊕ Unit)→Ex×St
 |.inl x=>(.ret,fA [(2,(.imm true .bool x))] [])
 |.inr _=>(.exit 0,fA [(2,.dead)] [])
def yG (s:St):Tre (Ex×St):=
 aD true .n (s.tmps 0) fun d2=>
 aD true .n (s.tmps 3) fun d4=>
 .mat (aZ (oN d2) d4) fun x=>.alt x (fun a0=>.ret (kU d2 (.inl a0))) (fun b0=>.ret (kU d2 (.inr b0)))
def jY:bS:=⟨([0,3],[]),([2],[]),yG⟩
def vL:List (Nat×bS):=[(4,jY)]
theorem EJ:∀(fB x:Int)(c:St→Option (Ex×St)),den qK vL (bF Db 0) (qp fB x) (fE jY.kp jY.kx c)=(oN fB x).run (fF (qp fB) (kU fB) c):=fun _ _ _=>by
 kernel_rfl
theorem H8:dZ qK vL (bF Db 0) jY:=mh fun s e s' h=>by
 generalize hs:restrict jY.kp s=s1 at h
 have h:(yG s1).run some=some (e,s'):=h
 obtain ⟨d2,e1,h_0⟩:=dA h
 obtain ⟨d4,e3,h_1⟩:=dA h_0
 obtain ⟨y,hy,hz⟩:=nQ h_1
 refine ⟨_,_,qp d2,kU d2,oN d2,d4,y,?_,hy,?_,EJ d2⟩
 ·subst hs;exact bn (T:=[(0,(.i d2)),(3,(.i d4))]) (U:=[]) rfl rfl ⟨e1,e3,trivial⟩ trivial
 ·rcases y with x|x<;>exact Option.some.inj hz
def Om:FnI:=fnI Try.f205 vL
def zO (_:Int):Bool→au:=fun r=>⟨(.imm true .bool r),[],[]⟩
theorem MU:∀(p0:Int),bU qK Om ⟨[(.i p0)],[]⟩=(zu p0).run fun r=>some (zO p0 r):=fun _=>by kernel_rfl
def Ol (av:List AV) (rs:List Root):Tre au:=
 aA av fun a0_ av0=>
 aK av0<|
 aK rs<|
 aD true .n a0_ fun d1=>
 .mat (qJ d1) fun r=>.ret (zO d1 r)
def Dc:Ctr:=fJ [] Ol
theorem MV:Contract Try.prog .none 205 Dc:=aB (V:=qK) aS (ay Eb acU (ay RI agi aG)) Try.func205 (dw (n:=1) fun k hk=>by
 match k,hk with
 |0,_=>exact eH (id:=4) H8) fun _ _ _=>aJ fun _ _=>bD<|bD<|aU fun _=>fun h=>by intros;subst_vars;exact bC (MU _) h
def Ac (p0:(Int×(Int×Unit))):Tre Bool:=
 .cond (inR p0.1 1 5)
  (.mat (qJ p0.2.1) fun r1=>
  .cond r1
   (.mat (oQ p0.2.1) fun r2=>
   .ret (decide (r2=p0.1)))
   (.ret false))
  (.ret false)
def nN (p0:(Int×(Int×Unit))):Option Bool:=(Ac p0).run some
-- more
theorem GX(f:Int×Int×Unit):nN f=some (aO f):=by
 refine agp ?_ ?_ (by kernel_rfl) f
 ·intro f h
  unfold nN Ac
  rw [Tre.aC,h];rfl
 ·intro f h
  unfold nN Ac
  rw [Tre.aC]
  have:qJ f.2.1=some false:=by
   unfold qJ zu
   rw [Tre.aC]
   by_cases h1:f.2.1<2
   ·rw [decide_eq_true h1];rfl
   ·rw [decide_eq_false h1,cond_false,Tre.aC,decide_eq_true (by omega)];rfl
  rw [ak this]
  cases inR f.1 1 5<;>rfl
def Jj:Env:=⟨tau,[(57,Bu),(205,Dc),(206,Ae)],[]⟩
def UW:FnI:=fnI Try.f150 []
def EL (_:(Int×(Int×Unit))):Bool→au:=fun r=>⟨(.imm true .bool r),[],[]⟩
theorem Ta:∀(p0:(Int×(Int×Unit))),bU Jj UW ⟨[(.imm true aH p0)],[]⟩=(Ac p0).run fun r=>some (EL p0 r):=fun _=>by kernel_rfl
def UU (av:List AV) (rs:List Root):Tre au:=
 aA av fun a0_ av0=>
 aK av0<|
 aK rs<|
 aD true aH a0_ fun d1=>
 .mat (nN d1) fun r=>.ret (EL d1 r)
def Bo:Ctr:=fJ [] UU
theorem GY:Contract Try.prog .none 150 Bo:=aB (V:=Jj) aS (ay Dq adS (ay MV ajB (ay Eb acU aG))) Try.func150 bN fun _ _ _=>aJ fun _ _=>bD<|bD<|aU fun _=>fun h=>by intros;subst_vars;exact bC (Ta _) h
def xP (p0:(Int×(Int×Unit))):Tre Int:=
 .ite (0≤p0.1)<|
 .ret (Ah .i64 1 p0.1)
def jl (p0:(Int×(Int×Unit))):Option Int:=(xP p0).run some
def GD:Env:=⟨tau,[],[]⟩
def SG:FnI:=fnI Try.f142 []
def CW (_:(Int×(Int×Unit))):Int→au:=fun r=>⟨(.i r),[],[]⟩
theorem Qm:∀(p0:(Int×(Int×Unit))),bU GD SG ⟨[(.imm true aH p0)],[]⟩=(xP p0).run fun r=>some (CW p0 r):=fun _=>by kernel_rfl
def SF (av:List AV) (rs:List Root):Tre au:=
 aA av fun a0_ av0=>
 aK av0<|
 aK rs<|
 aD true aH a0_ fun d1=>
 .mat (jl d1) fun r=>.ret (CW d1 r)
def uo:Ctr:=fJ [] SF
theorem wW:Contract Try.prog .none 142 uo:=aB (V:=GD) aS aG Try.func142 bN fun _ _ _=>aJ fun _ _=>bD<|bD<|aU fun _=>fun h=>by intros;subst_vars;exact bC (Qm _) h
def uI (p0:Int) (p1:(Int×(Int×Unit))):Tre Bool:=
 .mat (jl p1) fun r1=>
 let v2:=inR p0 0 (aI .i64 (r1-1))
 .ret (!v2)
def mG (p0:Int) (p1:(Int×(Int×Unit))):Option Bool:=(uI p0 p1).run some
def yx:Env:=⟨tau,[(142,uo),(57,Bu)],[]⟩
def Ja:FnI:=fnI Try.f159 []
def vJ (_:Int) (p1:(Int×(Int×Unit))):Bool→au:=fun r=>⟨(.imm true .bool r),[⟨true,aH,.own,p1⟩],[]⟩
theorem HV:∀(p0:Int)(p1:(Int×(Int×Unit))),bU yx Ja ⟨[(.i p0),(.ptr (0,0) [])],[⟨true,aH,.own,p1⟩]⟩=(uI p0 p1).run fun r=>some (vJ p0 p1 r):=fun _ _=>by kernel_rfl
def I9 (av:List AV) (rs:List Root):Tre au:=
 aA av fun a0_ av0=>
 aA av0 fun a1_ av1=>
 aK av1<|
 aA rs fun r0_ rs0=>
 aK rs0<|
 aD true .n a0_ fun d1=>
 nu (0,0) [] a1_<|
 uH true aH r0_ fun m2 d3=>
 asM .own m2<|
 .mat (mG d1 d3) fun r=>.ret (vJ d1 d3 r)
def yA:Ctr:=fJ [] I9
theorem HY:Contract Try.prog .none 159 yA:=aB (V:=yx) aS (ay wW acS (ay Dq adS aG)) Try.func159 bN fun _ _ _=>aJ fun _ _=>aJ fun _ _=>bD<|aJ fun _ _=>bD<|aU fun _=>Ap<|tRt fun _ _=>tM<|fun h=>by intros;subst_vars;exact bC (HV _ _) h
end Go.Proofs.Ytldafhnnnabipaa
