/- Part 1 of the proof of FnNear. -/
import Derived.Laws.MakeOwn
import Derived.Laws.CopyRow
import Derived.Test.YtldafhnnnabipaaNw0
set_option maxRecDepth 100000
noncomputable section
namespace Go.Abs
section
variable {P : Program} {V : Env} {w0 w : World} {M0 : BS} {n : Nat} {C0 C : Ctx} {s : St} {a : Act}
variable {R' : Type} {r : R'} {o : Oper}
theorem bW{a b:ay}:req a b=true↔a=b:=by
 unfold req
 rw [Bool.and_eq_true]
 constructor
 ·rintro ⟨h1,h2⟩;exact Prod.ext (Nat.eq_of_beq_eq_true h1) (Nat.eq_of_beq_eq_true h2)
 ·rintro rfl;exact ⟨Nat.beq_refl _,Nat.beq_refl _⟩
theorem gN{a b:ay}(h:a≠b):req a b=false:=by rw [Bool.eq_false_iff];exact fun h'=>h (bW.1 h')
theorem BK{r:ay}{l:List ay}:LP r l=true↔r∈l:=by
 induction l with
 |nil=>simp [LP]
 |cons x l ih=>simp only [LP,Bool.or_eq_true,ih,bW,List.mem_cons]
theorem beq_iff{a b:Nat}:Nat.beq a b=true↔a=b:=⟨Nat.eq_of_beq_eq_true,fun h=>by rw [h];exact Nat.beq_refl _⟩
theorem gJ{a b:Nat}(h:a≠b):Nat.beq a b=false:=by rw [Bool.eq_false_iff];exact fun h'=>h (beq_iff.1 h')
theorem abz{θ:ay→Nat}{Z S:BS}{e:K}{m:Mask}{xs:List e.den}{v0 v:Value}{F:BS}{lo k:Nat}(h:Enc w θ Z S (.sl e) m xs [v0] F)(hm:m≠.gone)(hs:atc e.size v0 lo k v) :
  Enc w θ Z S (.sl e) m ((xs.drop lo).take k) [v] F:=by
 obtain ⟨aa,N,cc,a',h1,h2,h3,h4,h5⟩:=hs
 have hlen:N=xs.length:=by
  obtain ⟨a2,c2,g1,_⟩:=yX h hm
  rw [h1] at g1;simp only [Value.slice.injEq] at g1;exact g1.2.1
 have hl2:((xs.drop lo).take k).length=k:=by simp only [List.length_take,List.length_drop];omega
 by_cases hz:cc-lo=0
 ·refine .inr (.inl ⟨hm,List.eq_nil_of_length_eq_zero (by rw [hl2];omega),a',?_⟩)
  rw [h4,hz,show k=0 by omega]
 ·rcases h with ⟨h,_⟩|⟨_,rfl,a2,h⟩|⟨_,b,off,cap,cs,T,fz,h,hc,hle,hs,hok,G,hG,hd,he⟩
  ·exact absurd h hm
  ·simp only [List.cons.injEq,and_true] at h
   rw [h1] at h;simp only [Value.slice.injEq] at h;omega
  ·simp only [List.cons.injEq,and_true] at h
   rw [h1] at h;simp only [Value.slice.injEq] at h
   obtain ⟨rfl,_,rfl⟩:=h
   have ha':=h5 (by omega)
   simp only [Option.map_some,addr_add] at ha'
   subst ha'
   refine .inr (.inr ⟨hm,b,off+lo*e.size,cc-lo,cs,T,fz,by rw [h4,hl2],hc,by rw [hl2];omega,?_,hok,fun i=>G (lo+i),fun i=>hG _,fun i j hij=>hd _ _ (by omega),fun i x hx=>?_⟩)
   ·have:lo*e.size+(cc-lo)*e.size=cc*e.size:=by rw [←Nat.add_mul];congr 1;omega
    omega
   ·rw [List.getElem?_take] at hx
    split at hx
    ·rw [List.getElem?_drop] at hx
     have:=he _ _ hx
     rw [show off+lo*e.size+i*e.size=off+(lo+i)*e.size by rw [Nat.add_mul];omega]
     exact this
    ·simp at hx
def FU(C:Ctx)(l:List ay):BS:=fun b=>∃r∈l,C.F r b
def Jw(u:U):Prop:=∀r y,dn r u=some y→y=none
theorem YK{rs:RF}{u:U}(hu:Jw u){r:ay}{x:Root}(h:look rs u r=some x):rs r=some x∧dn r u=none:=by
 unfold look at h
 cases hl:dn r u with
 |none=>rw [hl] at h;exact ⟨h,rfl⟩
 |some y=>rw [hl] at h;rw [hu r y hl] at h;cases h
structure Vu(w:World)(C:Ctx)(rs:RF)(u:U)(k:K)(d:k.den)(m:Mask)(vs:List Value)(u':U)(e q:List ay)(F:BS):Prop where
 enc:Enc w C.θ C.Z C.S k m d vs F
 sub:Sub F (FU C e)
 ended:∀r,dn r u'=if r∈e then some none else dn r u
 was:∀r∈e,∃x,rs r=some x∧True∧dn r u=none
 ptrs:∀r∈aS k d,r∈q∨∃r'∈e,∃x,rs r'=some x∧r∈aS x.k x.d
 pmem:∀r∈q,∀y,rs r=some y→y.mem=true
theorem aie{rs:RF}{r0:ay}{x:Root}(hx:rs r0=some x){base:Option (Nat×Nat)}:∀(av:AV){k:K}{p:Path}{d:k.den}{m:Mask}{vs0 vs:List Value}{b1:Option (Nat×Nat)}{F:BS}{c:k.den→Mask→Option R'},
  base=bK C r0 x→x.k.at p=some k→eU w x.k (C.ρ r0) base p=some (vs0,b1)→Enc w C.θ C.Z C.S k m d vs0 F→AVC w C rs av vs→qo r0 av k p d m c=some r →
  ∃d' m' F',c d' m'=some r∧Enc w C.θ C.Z C.S k m' d' vs F'∧Sub F' F∧∀q∈aS k d',q∈aS k d:=by
 intro av
 induction av with
 |imm z k' d'=>
  intro k p d m vs0 vs b1 F c hbase hat hlc he hv h
  simp only [qo] at h
  split at h
  case isFalse=>simp at h
  case isTrue hk=>
  subst hk
  refine ⟨d',_,noB,h,?_,fun _ x=>x.elim,fun q hq=>by rw [bV d' hv.1] at hq;cases hq⟩
  unfold Mask.ro
  cases hf:k'.flat with
  |true=>exact Enc.flat hf hv.2
  |false=>exact hv.2
 |ref q p'=>
  intro k p d m vs0 vs b1 F c hbase hat hlc he hv h
  cases k<;>simp only [qo] at h<;>first|(simp at h;done)|skip
  rename_i e
  split at h
  case isFalse=>simp at h
  case isTrue hk=>
  obtain ⟨rfl,rfl⟩:=hk
  obtain ⟨v,rfl,hroot⟩:=hv
  obtain ⟨e',base',g1,g2,g3⟩:=hroot x hx
  rw [←hbase,hlc] at g3
  simp only [Option.some.injEq,Prod.mk.injEq] at g3
  obtain ⟨rfl,_⟩:=g3
  exact ⟨d,m,F,h,he,fun _ h=>h,fun _ h=>h⟩
 |pair a b iha ihb=>
  intro k p d m vs0 vs b1 F c hbase hat hlc he hv h
  cases k<;>simp only [qo] at h<;>first|(simp at h;done)|skip
  rename_i ka kb
  obtain ⟨v1,v2,F1,F2,rfl,s1,s2,dj,h1,h2⟩:=he
  obtain ⟨u1,u2,rfl,hv1,hv2⟩:=hv
  have la:x.k.at (p++[.fst])=some ka:=by rw [K.lG,hat];show ka.at []=_;cases ka<;>rfl
  have lb:x.k.at (p++[.snd])=some kb:=by rw [K.lG,hat];show kb.at []=_;cases kb<;>rfl
  have lca:eU w x.k (C.ρ r0) base (p++[.fst])=some (v1,b1):=by
   rw [lY _ _ hat hlc]
   show eU w ka ((v1++v2).take ka.size) b1 []=_
   rw [cZ,←h1.len,List.take_left]
  have lcb:eU w x.k (C.ρ r0) base (p++[.snd])=some (v2,b1.map fun x=>(x.1,x.2+ka.size)):=by
   rw [lY _ _ hat hlc]
   show eU w kb ((v1++v2).drop ka.size) (b1.map fun x=>(x.1,x.2+ka.size)) []=_
   rw [cZ,←h1.len,List.drop_left]
  obtain ⟨da,ma,Fa,h,ea,sa,pa⟩:=iha hbase la lca h1 hv1 h
  obtain ⟨db,mb,Fb,h,eb,sb,pb⟩:=ihb hbase lb lcb h2 hv2 h
  refine ⟨(da,db),_,fun z=>Fa z∨Fb z,h,⟨u1,u2,Fa,Fb,rfl,fun _ h=>.inl h,fun _ h=>.inr h,fun z ha hb=>dj z (sa z ha) (sb z hb),by rw [FX.mkPair_fst];exact ea,by rw [FX.mkPair_snd];exact eb⟩,?_,fun q hq=>?_⟩
  ·rintro z (hz|hz)
   ·exact s1 z (sa z hz)
   ·exact s2 z (sb z hz)
  ·simp only [aS,List.mem_append] at hq ⊢
   exact hq.imp (pa q) (pb q)
 |_=>intro k p d m vs0 vs b1 F c hbase hat hlc he hv h;cases k<;>simp [qo] at h
theorem aqT{x:Root}{z:Bool}(h:x.roZ=some z):x.m=.imm z∧x.k.plain=true:=by
 unfold Root.roZ at h
 split at h
 case h_2=>cases h
 case h_1 z' hm=>
 cases hp:x.k.plain with
 |false=>rw [hp] at h;cases h
 |true=>
 rw [hp] at h
 simp only [cond_true,Option.some.injEq] at h
 subst h
 exact ⟨hm,rfl⟩
theorem KM{rs:RF}(hM:Mem w C rs):∀(av:AV){k:K}{u:U}{vs:List Value}{c:k.den→Mask→U→List ay→List ay→Option R'},
  dL rs av k u c=some r→Jw u→AVC w C rs av vs →
  ∃d m u' e q F,c d m u' e q=some r∧Vu w C rs u k d m vs u' e q F:=by
 intro av
 induction av with
 |imm z k' d=>
  intro k u vs c h hu hv
  simp only [dL] at h
  split at h
  case isFalse=>simp at h
  case isTrue hk=>
  subst hk
  refine ⟨d,_,u,[],[],noB,h,?_,fun _ x=>x.elim,fun r=>by simp,by simp,?_,by simp⟩
  ·unfold Mask.ro
   cases hf:k'.flat with
   |true=>exact Enc.flat hf hv.2
   |false=>exact hv.2
  ·intro q hq;rw [bV d hv.1] at hq;cases hq
 |nil=>
  intro k u vs c h hu hv
  cases k<;>simp only [dL] at h<;>first|(simp at h;done)|skip
  exact ⟨_,_,u,[],[],noB,h,.inr (.inl ⟨by simp,rfl,none,hv⟩),fun _ x=>x.elim,fun r=>by simp,by simp,by simp [aS],by simp⟩
 |emp=>
  intro k u vs c h hu hv
  obtain ⟨a',rfl⟩:=hv
  cases k<;>simp only [dL] at h<;>first|(simp at h;done)|skip
  exact ⟨_,_,u,[],[],noB,h,.inr (.inl ⟨by simp,rfl,a',rfl⟩),fun _ x=>x.elim,fun r=>by simp,by simp,by simp [aS],by simp⟩
 |nilp=>
  intro k u vs c h hu hv
  cases k<;>simp only [dL] at h<;>first|(simp at h;done)|skip
  exact ⟨_,_,u,[],[],noB,h,hv,fun _ x=>x.elim,fun r=>by simp,by simp,by simp [aS],by simp⟩
 |ptr r0 p=>
  intro k u vs c h hu hv
  cases p with
  |cons _ _=>cases k<;>simp [dL] at h
  |nil=>
   obtain ⟨b,off,rfl,h0,hroot⟩:=hv
   obtain ⟨rfl,rfl⟩:=h0 rfl
   cases k<;>simp only [dL] at h<;>first|(simp at h;done)|skip
   refine ⟨_,_,u,[],[r0],noB,h,rfl,fun _ x=>x.elim,fun r=>by simp,by simp,fun q hq=>.inl (by simpa [aS] using hq),fun q hq y hy=>?_⟩
   simp only [List.mem_singleton] at hq
   subst hq
   obtain ⟨k',cs,_,_,g⟩:=hroot y hy
   rw [cZ] at g
   simp only [Option.some.injEq,Prod.mk.injEq] at g
   have:=g.2
   unfold bK at this
   split at this
   ·assumption
   ·cases this
 |fn f caps=>
  intro k u vs c h hu hv
  cases k<;>simp only [dL] at h<;>first|(simp at h;done)|skip
  obtain ⟨rfl,hc⟩:=hv
  exact ⟨_,_,u,[],caps,noB,h,rfl,fun _ x=>x.elim,fun r=>by simp,by simp,fun q hq=>.inl (by simpa [aS] using hq),hc⟩
 |ref r0 p=>
  intro k u vs c h hu hv
  cases p with
  |cons _ _=>cases k<;>simp [dL] at h
  |nil=>
   obtain ⟨v,rfl,hroot⟩:=hv
   simp only [dL] at h
   split at h
   case h_2=>simp at h
   case h_1 x hx=>
   obtain ⟨hx1,hx2⟩:=YK hu hx
   cases hm:x.mem with
   |true=>simp [hm] at h
   |false=>
   simp only [hm,cond_false] at h
   split at h
   case isFalse=>simp at h
   case isTrue hk=>
   subst hk
   obtain ⟨e',base,g1,g2,g3⟩:=hroot x hx1
   rw [cZ] at g3
   simp only [Option.some.injEq,Prod.mk.injEq] at g3
   obtain ⟨G,hG1,hG2,_⟩:=hM.ok _ _ hx1
   rw [g3.1] at hG1
   cases hz:x.roZ with
   |some z=>
    rw [hz] at h
    obtain ⟨hmz,hpl⟩:=aqT hz
    rw [hmz] at hG1
    exact ⟨x.d,_,u,[],[],noB,h,hG1.arU,fun _ x=>x.elim,fun r=>by simp,by simp,fun q hq=>(by rw [bV x.d hpl] at hq;cases hq),by simp⟩
   |none=>
   rw [hz] at h
   dsimp only at h
   refine ⟨x.d,x.m,_,[r0],[],G,h,hG1,fun b hb=>⟨r0,by simp,hG2 b hb⟩,fun q=>?_,?_,fun q hq=>.inr ⟨r0,by simp,x,hx1,hq⟩,by simp⟩
   ·simp only [dn,List.mem_singleton]
    by_cases hq:q=r0
    ·rw [if_pos hq,bW.2 hq];rfl
    ·rw [if_neg hq,gN hq];rfl
   ·intro q hq;simp only [List.mem_singleton] at hq;subst hq;exact ⟨x,hx1,trivial,hx2⟩
 |slc r0 p lo k0=>
  intro k u vs c h hu hv
  cases p with
  |cons _ _=>cases k<;>simp [dL] at h
  |nil=>
   obtain ⟨v,v0,rfl,hroot⟩:=hv
   cases k<;>simp only [dL] at h<;>first|(simp at h;done)|skip
   rename_i e
   split at h
   case h_2=>simp at h
   case h_1 x hx=>
   obtain ⟨hx1,hx2⟩:=YK hu hx
   cases hm:x.mem with
   |true=>simp [hm] at h
   |false=>
   cases hown:x.m.dU with
   |false=>simp [hm,hown] at h
   |true=>
   simp only [hm,hown,Bool.not_true,Bool.or_false,cond_false] at h
   split at h
   case isFalse=>simp at h
   case isTrue hk=>
   obtain ⟨xm,xk,xmm,xd⟩:=x
   simp only at hk hm hown
   subst hk
   obtain ⟨e',base,g1,g2,g3,g4⟩:=hroot _ hx1
   rw [cZ] at g3
   simp only [Option.some.injEq,Prod.mk.injEq] at g3
   have hee:e'=e:=by rw [at_nil] at g1;simpa using g1.symm
   subst hee
   obtain ⟨G,hG1,hG2,_⟩:=hM.ok _ _ hx1
   rw [g3.1] at hG1
   have hne:xmm≠.gone:=by rintro rfl;simp [Mask.dU] at hown
   refine ⟨_,_,_,[r0],[],G,h,abz hG1 hne g4,fun b hb=>⟨r0,by simp,hG2 b hb⟩,fun q=>?_,?_,fun q hq=>.inr ⟨r0,by simp,_,hx1,?_⟩,by simp⟩
   ·simp only [dn,List.mem_singleton]
    by_cases hq:q=r0
    ·rw [if_pos hq,bW.2 hq];rfl
    ·rw [if_neg hq,gN hq];rfl
   ·intro q hq;simp only [List.mem_singleton] at hq;subst hq;exact ⟨_,hx1,trivial,hx2⟩
   ·simp only [aS] at hq ⊢
    cases hp:e'.plain with
    |true=>simp [hp] at hq
    |false=>
     simp only [hp,cond_false,List.mem_flatMap] at hq ⊢
     obtain ⟨y,hy,hq⟩:=hq
     exact ⟨y,List.mem_of_mem_drop (List.mem_of_mem_take hy),hq⟩
 |pair a b iha ihb=>
  intro k u vs c h hu hv
  cases k<;>simp only [dL] at h<;>first|(simp at h;done)|skip
  rename_i ka kb
  split at h
  case h_1 r0 _=>
   split at h
   case h_2=>simp at h
   case h_1 x hx=>
   obtain ⟨hx1,hx2⟩:=YK hu hx
   split at h
   case isFalse=>simp at h
   case isTrue hk=>
   obtain ⟨xm,xk,xmm,xd⟩:=x
   simp only at hk
   subst hk
   obtain ⟨G,hG1,hG2,_⟩:=hM.ok _ _ hx1
   obtain ⟨d',m',F',h,e',s',p'⟩:=aie hx1 (.pair a b) rfl (at_nil _) (cZ _ _ _ _) hG1 hv h
   refine ⟨d',m',_,[r0],[],F',h,e',fun b hb=>⟨r0,by simp,hG2 b (s' b hb)⟩,fun q=>?_,?_,fun q hq=>.inr ⟨r0,by simp,_,hx1,p' q hq⟩,by simp⟩
   ·simp only [dn,List.mem_singleton]
    by_cases hq:q=r0
    ·rw [if_pos hq,bW.2 hq];rfl
    ·rw [if_neg hq,gN hq];rfl
   ·intro q hq;simp only [List.mem_singleton] at hq;subst hq;exact ⟨_,hx1,trivial,hx2⟩
  case h_2=>
  obtain ⟨v1,v2,rfl,h1,h2⟩:=hv
  obtain ⟨da,ma,u1,e1,q1,F1,g1,A1⟩:=iha h hu h1
  have hu1:Jw u1:=by
   intro q y hq
   rw [A1.ended] at hq
   split at hq
   ·exact (Option.some.inj hq).symm
   ·exact hu q y hq
  obtain ⟨db,mb,u2,e2,q2,F2,g2,A2⟩:=ihb g1 hu1 h2
  have hdis:∀q,q∈e1→q∈e2→False:=by
   intro q h1 h2
   obtain ⟨x,_,_,h3⟩:=A2.was q h2
   rw [A1.ended,if_pos h1] at h3;cases h3
  refine ⟨(da,db),_,u2,e1++e2,q1++q2,fun x=>F1 x∨F2 x,g2,?_,?_,?_,?_,?_,?_⟩
  ·refine ⟨v1,v2,F1,F2,rfl,fun _ h=>.inl h,fun _ h=>.inr h,?_,by rw [FX.mkPair_fst];exact A1.enc,by rw [FX.mkPair_snd];exact A2.enc⟩
   intro x hx1 hx2
   obtain ⟨r1,hr1,hf1⟩:=A1.sub x hx1
   obtain ⟨r2,hr2,hf2⟩:=A2.sub x hx2
   obtain ⟨x1,hx1',_⟩:=A1.was r1 hr1
   obtain ⟨x2,hx2',_⟩:=A2.was r2 hr2
   exact hM.disj r1 r2 x1 x2 hx1' hx2' (fun he=>hdis r1 hr1 (he ▸ hr2)) x hf1 hf2
  ·rintro x (hx|hx)
   ·obtain ⟨r1,hr1,hf1⟩:=A1.sub x hx;exact ⟨r1,by simp [hr1],hf1⟩
   ·obtain ⟨r1,hr1,hf1⟩:=A2.sub x hx;exact ⟨r1,by simp [hr1],hf1⟩
  ·intro q
   rw [A2.ended,A1.ended]
   by_cases h1:q∈e1<;>by_cases h2:q∈e2<;>simp [h1,h2]
  ·intro q hq
   rcases List.mem_append.1 hq with hq|hq
   ·exact A1.was q hq
   ·obtain ⟨x,h1,h2,h3⟩:=A2.was q hq
    refine ⟨x,h1,h2,?_⟩
    rw [A1.ended] at h3
    split at h3
    ·cases h3
    ·exact h3
  ·intro q hq
   simp only [aS,List.mem_append] at hq
   rcases hq with hq|hq
   ·exact (A1.ptrs q hq).imp (fun h=>by simp [h]) fun ⟨r',h1,h2⟩=>⟨r',by simp [h1],h2⟩
   ·exact (A2.ptrs q hq).imp (fun h=>by simp [h]) fun ⟨r',h1,h2⟩=>⟨r',by simp [h1],h2⟩
  ·intro q hq
   rcases List.mem_append.1 hq with hq|hq
   ·exact A1.pmem q hq
   ·exact A2.pmem q hq
 |dead=>intro k u vs c h;cases k<;>simp [dL] at h
 |iptr z k' d p=>intro k u vs c h;cases k<;>simp [dL] at h
 |nn z e d=>intro k u vs c h;cases k<;>simp [dL] at h
 |vw r p L=>intro k u vs c h;cases k<;>simp [dL] at h
 |tnil=>intro k u vs c h;cases k<;>simp [dL] at h
 |tcons a b _ _=>intro k u vs c h;cases k<;>simp [dL] at h
theorem al4{w':World}{C':Ctx}{rs rs':RF}(hM:Mem w C rs)(D:ay→Prop)(hZ:Sub C.Z C'.Z)(hS:C'.S=C.S)
  (hθ:∀q,¬D q→C'.θ q=C.θ q) (hρ:∀q,¬D q→C'.ρ q=C.ρ q) (hrs:∀q y,¬D q→rs' q=some y→rs q=some y)
  (hblk:∀b,(C.Z b∨C.S b∨∃q y,¬D q∧rs q=some y∧C.F q b)→w'.heap[b]?=w.heap[b]?)
  {av:AV} {vs:List Value} (hvw:av.Wi=false) (hl:av.dS=true) (hn:∀q∈av.names,¬D q) (h:AVC w C rs av vs):AVC w' C' rs' av vs:=by
 have root:∀q y,¬D q→rs' q=some y→∀p,cO y.k y.d y.m p→eU w' y.k (C'.ρ q) (bK C' q y) p=eU w y.k (C.ρ q) (bK C q y) p:=by
  intro q y hq hy p hp
  have hy':=hrs q y hq hy
  obtain ⟨G,hG1,hG2,_⟩:=hM.ok q y hy'
  obtain ⟨_,_,_,hgp⟩:=jy p hp
  have hb:bK C' q y=bK C q y:=by unfold bK;rw [hθ q hq]
  rw [hρ q hq,hb]
  refine zU p hG1 (fun b hb=>hblk b ?_) ⟨Unit,(),fun _ _ _=>some (),by rw [hgp]⟩
  rcases hb with hb|hb|hb
  ·exact .inr (.inr ⟨q,y,hq,hy',hG2 b hb⟩)
  ·exact .inl hb
  ·exact .inr (.inl hb)
 cases av with
 |dead=>trivial
 |imm z k d=>
  refine ⟨h.1,?_⟩
  rw [hS]
  refine h.2.mono hZ (.refl _) (.refl _) (fun b hb=>hblk b ?_) (fun r hr=>by rw [bV d h.1] at hr;cases hr)
  rcases hb with hb|hb|hb
  ·exact hb.elim
  ·exact .inl hb
  ·exact .inr (.inl hb)
 |nn z e d=>
  refine ⟨h.1,?_,h.2.2⟩
  rw [hS]
  refine h.2.1.mono hZ (.refl _) (.refl _) (fun b hb=>hblk b ?_) (fun r hr=>by rw [bV (k:=.sl e) d h.1] at hr;cases hr)
  rcases hb with hb|hb|hb
  ·exact hb.elim
  ·exact .inl hb
  ·exact .inr (.inl hb)
 |nil=>exact h
 |emp=>exact h
 |nilp=>exact h
 |ptr r p=>
  obtain ⟨b,off,rfl,h0,hroot⟩:=h
  have hr:¬D r:=hn r (by simp [AV.names])
  refine ⟨b,off,rfl,fun hp=>by rw [hθ r hr];exact h0 hp,fun y hy=>?_⟩
  obtain ⟨k',cs,g1,g2,g3⟩:=hroot y (hrs r y hr hy)
  exact ⟨k',cs,g1,g2,by rw [root r y hr hy p g2];exact g3⟩
 |iptr z k d p=>
  obtain ⟨vs0,b,off,cs,k',g1,g2,g3,g4,g5,g6,g7⟩:=h
  have hE:∀b,noB b∨C.Z b∨C.S b→w'.heap[b]?=w.heap[b]?:=by
   intro b hb
   rcases hb with hb|hb|hb
   ·exact hb.elim
   ·exact hblk b (.inl hb)
   ·exact hblk b (.inr (.inl hb))
  obtain ⟨_,_,_,hgp⟩:=jy p g4
  refine ⟨vs0,b,off,cs,k',g1,?_,g3,g4,g5,?_,g7⟩
  ·rw [hS]
   exact g2.mono hZ (.refl _) (.refl _) hE (fun r hr=>by rw [bV d g1] at hr;cases hr)
  ·rw [zU p g2 hE ⟨Unit,(),fun _ _ _=>some (),by rw [hgp]⟩];exact g6
 |ref r p=>
  obtain ⟨v,rfl,hroot⟩:=h
  have hr:¬D r:=hn r (by simp [AV.names])
  refine ⟨v,rfl,fun y hy=>?_⟩
  obtain ⟨e,base,g1,g2,g3⟩:=hroot y (hrs r y hr hy)
  exact ⟨e,base,g1,g2,by rw [root r y hr hy p g2];exact g3⟩
 |slc r p lo k0=>
  obtain ⟨v,v0,rfl,hroot⟩:=h
  have hr:¬D r:=hn r (by simp [AV.names])
  refine ⟨v,v0,rfl,fun y hy=>?_⟩
  obtain ⟨e,base,g1,g2,g3,g4⟩:=hroot y (hrs r y hr hy)
  exact ⟨e,base,g1,g2,by rw [root r y hr hy p g2];exact g3,g4⟩
 |pair a b=>simp [AV.dS] at hl
 |fn f caps=>
  obtain ⟨rfl,hc⟩:=h
  refine ⟨?_,fun q hq y hy=>hc q hq y (hrs q y (hn q (by simpa [AV.names] using hq)) hy)⟩
  have:DJ C.θ caps=DJ C'.θ caps:=by
   unfold DJ
   congr 1
   exact List.map_congr_left fun q hq=>by rw [hθ q (hn q (by simpa [AV.names] using hq))]
  rw [this]
 |vw r p L=>simp [AV.Wi] at hvw
 |tnil=>exact h.elim
 |tcons a b=>exact h.elim
theorem ac7{w':World}{C':Ctx}{rs rs':RF}(hM:Mem w C rs)(D:ay→Prop)(hZ:Sub C.Z C'.Z)(hS:C'.S=C.S)
  (hθ:∀q,¬D q→C'.θ q=C.θ q) (hρ:∀q,¬D q→C'.ρ q=C.ρ q) (hrs:∀q y,¬D q→rs' q=some y→rs q=some y)
  (hblk:∀b,(C.Z b∨C.S b∨∃q y,¬D q∧rs q=some y∧C.F q b)→w'.heap[b]?=w.heap[b]?)
  {av:AV} {vs:List Value} (hl:av.dS=true) (hn:∀q∈av.names,¬D q) (h:AVC w C rs av vs):AVC w' C' rs' av vs:=by
 have h0:∀{av:AV}{vs:List Value},av.Wi=false→av.dS=true→(∀q∈av.names,¬D q)→AVC w C rs av vs→AVC w' C' rs' av vs:=
  fun i1 i2 i3 i4=>al4 hM D hZ hS hθ hρ hrs hblk i1 i2 i3 i4
 cases av with
 |vw r p L=>
  have hr:¬D r:=hn r (by simp [AV.names])
  have hL:∀e∈L,¬D (par e.2.1):=fun e he=>hn _ (by simp only [AV.names];exact List.mem_cons_of_mem _ (List.mem_map.2 ⟨e,he,rfl⟩))
  exact AVC.aip (fun i=>h0 rfl rfl (fun q hq=>by simp only [AV.names,List.mem_singleton] at hq;rw [hq];exact hr) i)
   (fun e he v=>⟨fun i=>h0 rfl rfl (fun q hq=>by simp only [AV.names,List.mem_singleton] at hq;rw [hq];exact hr) i,
    fun i=>h0 rfl rfl (fun q hq=>by simp only [AV.names,List.mem_singleton] at hq;rw [hq];exact hL e he) i⟩) h
 |_=>exact h0 rfl hl hn h
theorem kN{w':World}{C':Ctx}{rs rs':RF}(hM:Mem w C rs)(D:ay→Prop)(hZ:C'.Z=C.Z)(hS:C'.S=C.S)
  (hθ:∀q,¬D q→C'.θ q=C.θ q) (hρ:∀q,¬D q→C'.ρ q=C.ρ q) (hrs:∀q y,¬D q→rs' q=some y→rs q=some y)
  (hblk:∀b,(C.Z b∨C.S b∨∃q y,¬D q∧rs q=some y∧C.F q b)→w'.heap[b]?=w.heap[b]?)
  {av:AV} {vs:List Value} (hl:av.dS=true) (hn:∀q∈av.names,¬D q) (h:AVC w C rs av vs):AVC w' C' rs' av vs:=
 ac7 hM D (by rw [hZ];exact .refl _) hS hθ hρ hrs hblk hl hn h
theorem abC{e:List ay}{av:AV}(hl:av.dS=true)(h:hit (ofs e) av=false):∀q∈av.names,q ∉ e:=by
  induction e with
  |nil=>intro q _ hq;cases hq
  |cons r e ih=>
    simp only [ofs,hit,List.any_cons,Bool.or_eq_false_iff] at h
    intro q hq hqe
    simp only [List.mem_cons] at hqe
    rcases hqe with rfl|hqe
    · have h1:=h.1
      cases av<;>simp only [AV.names,List.mem_singleton,List.not_mem_nil] at hq<;>first
        |exact hq.elim
        | (subst hq;simp only [Kill.hits] at h1;rw [bW.2 rfl] at h1;cases h1)
        | (simp only [Kill.hits] at h1;rw [BK.2 hq] at h1;cases h1)
        | (simp [AV.dS] at hl;done)
        | (simp only [Kill.hits,Kill.amU,Kill.amV,Bool.or_eq_false_iff,List.any_eq_false,Bool.or_eq_true,not_or] at h1
           rcases List.mem_cons.1 hq with rfl|hq
           · rw [bW.2 rfl] at h1;cases h1.1
           · obtain ⟨x,hx,rfl⟩:=List.mem_map.1 hq
             exact (h1.2 x hx).2 (bW.2 rfl))
    · exact ih h.2 q hq hqe
theorem amT{d:Nat}{av:AV}(hl:av.dS=true)(h:(Kill.dst d).hits av=false):∀q∈av.names,q.1≠d+2:=by
  intro q hq he
  cases av<;>simp only [AV.names,List.mem_singleton,List.not_mem_nil] at hq<;>first
    |exact hq.elim
    | (subst hq;simp only [Kill.hits] at h;rw [beq_iff.2 he] at h;cases h)
    | (simp only [Kill.hits] at h;rw [List.any_eq_false] at h;exact h q hq (beq_iff.2 he))
    | (simp [AV.dS] at hl;done)
    | (simp only [Kill.hits,Kill.amU,Bool.or_eq_false_iff] at h
       rcases List.mem_cons.1 hq with rfl|hq
       · rw [beq_iff.2 he] at h;cases h.1
       · obtain ⟨x,hx,rfl⟩:=List.mem_map.1 hq
         simp only at he
         omega)
def Ctx.with(C:Ctx)(r0:ay)(b0:Nat)(vs0:List Value)(F0:BS):Ctx:=
 ⟨fun q=>if q=r0 then b0 else C.θ q,fun q=>if q=r0 then vs0 else C.ρ q,fun q=>if q=r0 then F0 else C.F q,C.Z,C.S⟩
theorem Ctx.with_θ{C:Ctx}{r0 q:ay}{b0:Nat}{vs0:List Value}{F0:BS}(h:q≠r0):(C.with r0 b0 vs0 F0).θ q=C.θ q:=if_neg h
theorem Ctx.with_ρ{C:Ctx}{r0 q:ay}{b0:Nat}{vs0:List Value}{F0:BS}(h:q≠r0):(C.with r0 b0 vs0 F0).ρ q=C.ρ q:=if_neg h
theorem Ctx.iU{C:Ctx}{r0 q:ay}{b0:Nat}{vs0:List Value}{F0:BS}(h:q≠r0):(C.with r0 b0 vs0 F0).F q=C.F q:=if_neg h
theorem Ctx.with_θ0{C:Ctx}{r0:ay}{b0:Nat}{vs0:List Value}{F0:BS}:(C.with r0 b0 vs0 F0).θ r0=b0:=if_pos rfl
theorem Ctx.with_ρ0{C:Ctx}{r0:ay}{b0:Nat}{vs0:List Value}{F0:BS}:(C.with r0 b0 vs0 F0).ρ r0=vs0:=if_pos rfl
theorem Ctx.iZ{C:Ctx}{r0:ay}{b0:Nat}{vs0:List Value}{F0:BS}:(C.with r0 b0 vs0 F0).F r0=F0:=if_pos rfl
theorem uz.aqh{w':World}{C':Ctx}{r:ay}{y:Root}(h:uz w C r y)(hZ:Sub C.Z C'.Z)(hS:C'.S=C.S)(hθ:C'.θ r=C.θ r)(hρ:C'.ρ r=C.ρ r)(hF:C'.F r=C.F r)
  (hp:∀q∈aS y.k y.d,C'.θ q=C.θ q) (hb:∀b,C.F r b∨C.Z b∨C.S b→w'.heap[b]?=w.heap[b]?):uz w' C' r y:=by
 obtain ⟨G,g1,g2,g3⟩:=h
 refine ⟨G,?_,by rw [hF];exact g2,fun hm=>?_⟩
 ·rw [hS,hρ]
  exact g1.mono hZ (.refl _) (.refl _) (fun b hb'=>hb b (hb'.imp (g2 b) id)) hp
 ·obtain ⟨h1,h2,T,h3⟩:=g3 hm
  rw [hθ,hρ,hF]
  exact ⟨h1,h2,T,by rw [hb _ (.inl h2)];exact h3⟩
theorem uz.keep{w':World}{C':Ctx}{r:ay}{y:Root}(h:uz w C r y)(hZ:C'.Z=C.Z)(hS:C'.S=C.S)(hθ:C'.θ r=C.θ r)(hρ:C'.ρ r=C.ρ r)(hF:C'.F r=C.F r)
  (hp:∀q∈aS y.k y.d,C'.θ q=C.θ q) (hb:∀b,C.F r b∨C.Z b∨C.S b→w'.heap[b]?=w.heap[b]?):uz w' C' r y:=
 h.aqh (by rw [hZ];exact .refl _) hS hθ hρ hF hp hb
def World.push(w:World)(o:Obj):World:={ w with heap:=w.heap.push o }
theorem BP(w:World)(o:Obj){b:Nat}(h:b<w.heap.size):(World.push w o).heap[b]?=w.heap[b]?:=by
 show (w.heap.push o)[b]?=_
 rw [Array.getElem?_push,if_neg (by omega)]
theorem adC(w:World)(o:Obj):(World.push w o).heap[w.heap.size]?=some o:=by
 show (w.heap.push o)[w.heap.size]?=_
 simp
theorem xB(w:World)(o:Obj):(World.push w o).heap.size=w.heap.size+1:=by simp [World.push]
theorem Keeps.push{M:BS}{a' w:World}(h:Keeps M a' w)(o:Obj):Keeps M a' (World.push w o):=
 ⟨h.os,h.tape,h.output,by rw [xB];have:=h.size;omega,fun b hb hm=>by rw [BP w o (Nat.lt_of_lt_of_le hb h.size)];exact h.block b hb hm⟩
variable {c : Del → Option R'}
theorem L8:Jw []:=by intro r y h;cases h
theorem Ea{o:Oper}{x:Del}(hal:allowed s o.dst x=true)(hmk:x.make=true):∃d,o.dst=some d:=by
 unfold allowed at hal
 rw [hmk] at hal
 simp only [Bool.not_true,Bool.false_and,Bool.false_or] at hal
 cases h:o.dst with
 |none=>rw [h] at hal;simp at hal
 |some d=>exact ⟨d,rfl⟩
end
end Go.Abs
namespace Go.Abs
section
variable {P : Program} {V : Env} {w0 w : World} {M0 : BS} {n : Nat} {C0 C : Ctx} {s : St} {a : Act}
variable {R' : Type} {r : R'} {o : Oper}
structure qP(w:World)(C C1:Ctx)(rs rs1:RF)(ks:List Kill)(G:BS):Prop where
 θ:C1.θ=C.θ
 ρ:C1.ρ=C.ρ
 Z:C1.Z=C.Z
 S:C1.S=C.S
 mem:Mem w C1 rs1
 leaf:∀b vs,b.dS=true→hit ks b=false→AVC w C rs b vs→AVC w C1 rs1 b vs
 was:∀r y,rs1 r=some y→∃z,rs r=some z∧Sub (C1.F r) (C.F r)∧y.mem=z.mem∧∀q∈aS y.k y.d,q∈aS z.k z.d
 gfoot:∀b,G b→∃r y,rs r=some y∧C.F r b
 gdisj:∀r y,rs1 r=some y→DI G (C1.F r)
theorem qP.refl{rs:RF}(hM:Mem w C rs):qP w C C rs rs [] noB:=
 ⟨rfl,rfl,rfl,rfl,hM,fun _ _ _ _ h=>h,fun _ y h=>⟨y,h,.refl _,rfl,fun _ hq=>hq⟩,fun _ h=>h.elim,fun _ _ _ _ h=>h.elim⟩
theorem Ed(k1 k2:List Kill)(b:AV):hit (k1++k2) b=(hit k1 b||hit k2 b):=by simp [hit]
theorem qP.trans{C1 C2:Ctx}{rs rs1 rs2:RF}{k1 k2:List Kill}{G1 G2:BS}(h:qP w C C1 rs rs1 k1 G1)(k:qP w C1 C2 rs1 rs2 k2 G2) :
  qP w C C2 rs rs2 (k1++k2) (fun b=>G1 b∨G2 b) where
 θ:=k.θ.trans h.θ
 ρ:=k.ρ.trans h.ρ
 Z:=k.Z.trans h.Z
 S:=k.S.trans h.S
 mem:=k.mem
 leaf:=fun b vs hl hh hv=>by
  rw [Ed,Bool.or_eq_false_iff] at hh
  exact k.leaf b vs hl hh.2 (h.leaf b vs hl hh.1 hv)
 was:=fun r y hy=>by
  obtain ⟨z,z1,z2,z3,z4⟩:=k.was r y hy
  obtain ⟨u,u1,u2,u3,u4⟩:=h.was r z z1
  exact ⟨u,u1,z2.trans u2,z3.trans u3,fun q hq=>u4 q (z4 q hq)⟩
 gfoot:=fun b hb=>by
  rcases hb with hb|hb
  ·exact h.gfoot b hb
  ·obtain ⟨r,y,h1,h2⟩:=k.gfoot b hb
   obtain ⟨z,z1,z2,_⟩:=h.was r y h1
   exact ⟨r,z,z1,z2 b h2⟩
 gdisj:=fun r y hy b hb hf=>by
  rcases hb with hb|hb
  ·obtain ⟨z,z1,z2,_⟩:=k.was r y hy
   exact h.gdisj r z z1 b hb (z2 b hf)
  ·exact k.gdisj r y hy b hb hf
theorem qP.ofs{rs rs1:RF}(hM:Mem w C rs){e:List ay}(he:∀q∈e,∃y,rs q=some y)(h1:∀q,rs1 q=if q∈e then none else rs q) :
  qP w C C rs rs1 (ofs e) (FU C e):=by
 have hw:∀q y,rs1 q=some y→q ∉ e∧rs q=some y:=by
  intro q y hq
  rw [h1] at hq
  split at hq
  ·cases hq
  ·exact ⟨‹_›,hq⟩
 refine ⟨rfl,rfl,rfl,rfl,⟨fun r x hx=>hM.ok r x (hw r x hx).2,fun r r' x x' hx hx'=>hM.disj r r' x x' (hw r x hx).2 (hw r' x' hx').2,fun r x b hx=>hM.apart r x b (hw r x hx).2,hM.ro,
  fun r x hx q hq y hy=>hM.ptr r x (hw r x hx).2 q hq y (hw q y hy).2⟩,fun b vs hl hh hv=>?_,fun r y hy=>⟨y,(hw r y hy).2,.refl _,rfl,fun _ hq=>hq⟩,?_,?_⟩
 ·exact kN (C':=C) hM (fun q=>q∈e) rfl rfl (fun _ _=>rfl) (fun _ _=>rfl) (fun q y _ hy=>(hw q y hy).2) (fun _ _=>rfl) hl (abC hl hh) hv
 ·rintro b ⟨q,hq,hb⟩
  obtain ⟨y,hy⟩:=he q hq
  exact ⟨q,y,hy,hb⟩
 ·rintro r y hy b ⟨q,hq,hb⟩ hf
  obtain ⟨z,hz⟩:=he q hq
  exact hM.disj q r z y hz (hw r y hy).2 (fun h=>(hw r y hy).1 (h ▸ hq)) b hb hf
theorem BL(a b:Mask):(Mask.zV a b).fst=a:=by unfold Mask.zV;split<;>first|rfl|(split<;>rfl)
theorem BM(a b:Mask):(Mask.zV a b).snd=b:=by
 unfold Mask.zV
 split
 ·rfl
 ·split
  ·rename_i h;subst h;rfl
  ·rfl
 ·rfl
theorem amI{θ:ay→Nat}{Z S:BS}{e:K}:∀(p:Path){k:K}{m:Mask}{d:k.den}{vs:List Value}{F:BS}{R:Type}{r:R}{c:k.den→Mask→Option R},
  dM p=false→FW k d m p (.sl e) [] .gone c=some r→Enc w θ Z S k m d vs F →
  ∃d' m' F1 G xs ma v,c d' m'=some r∧k.at p=some (.sl e)∧(∀(R:Type)(c2:(k':K)→k'.den→Mask→Option R),iF k d m p c2=c2 (.sl e) xs ma) ∧
   Enc w θ Z S k m' d' vs F1∧Sub F1 F∧Sub G F∧DI F1 G∧Enc w θ Z S (.sl e) ma xs [v] G∧(∀base,∃b1,eU w k vs base p=some ([v],b1)) ∧
   (∀q∈aS k d',q∈aS k d)∧(∀q k',k.at q=some k'→cO k d m q→(under p q&&dM q)=false→cO k d' m' q):=by
 intro p
 induction p with
 |nil=>
  intro k m d vs F R r c _ h he
  have h':(if hk:K.sl e=k then c (hk ▸ ([]:(K.sl e).den)) (bif k.flat then m else .gone) else none)=some r:=by cases k<;>exact h
  split at h'
  case isFalse=>simp at h'
  case isTrue hk=>
  subst hk
  have hlen:=he.len
  obtain ⟨v,rfl⟩:=adx (vs:=vs) hlen
  refine ⟨[],_,noB,F,d,m,v,h',rfl,fun R c2=>rfl,.inl ⟨rfl,v,rfl⟩,fun _ x=>x.elim,.refl _,fun _ x=>x.elim,he,fun base=>⟨base,rfl⟩,?_,?_⟩
  ·intro q hq;simp only [aS] at hq;cases hpl:e.plain<;>rw [hpl] at hq<;>simp at hq
  ·intro q k' hk hcg hu
   cases q with
   |nil=>trivial
   |cons st q=>
    cases st with
    |fst=>exact hcg.elim
    |snd=>exact hcg.elim
    |idx i=>simp [under,dM] at hu
 |cons st p ih=>
  intro k m d vs F R r c hi h he
  cases st with
  |fst=>
   cases k with
   |pair ka kb=>
    obtain ⟨v1,v2,Fa,Fb,rfl,s1,s2,dj,h1,h2⟩:=he
    obtain ⟨d',m',F1,G,xs,ma,v,g1,g2,g3,g4,g5,g6,g7,g8,g9,g10,g11⟩:=ih (k:=ka) (m:=m.fst) (d:=d.1) (by simpa [dM] using hi) h h1
    have hm0:(m.C9 m').fst=m'∧(m.C9 m').snd=m.snd:=⟨BL _ _,BM _ _⟩
    refine ⟨(d',d.2),m.C9 m',(fun b=>F1 b∨Fb b),G,xs,ma,v,g1,g2,g3,⟨v1,v2,F1,Fb,rfl,fun _=>.inl,fun _=>.inr,dj.sub g5 (.refl _),by rw [hm0.1];exact g4,by rw [hm0.2];exact h2⟩,
     fun b hb=>hb.elim (fun hb=>s1 _ (g5 _ hb)) (s2 _),g6.trans s1,fun b hb hg=>hb.elim (fun hb=>g7 b hb hg) (fun hb=>dj b (g6 _ hg) hb),g8,fun base=>?_,?_,?_⟩
    ·obtain ⟨b1,hb1⟩:=g9 base
     refine ⟨b1,?_⟩
     show eU w ka ((v1++v2).take ka.size) base p=_
     rw [←h1.len,List.take_left];exact hb1
    ·intro q hq
     simp only [aS,List.mem_append] at hq ⊢
     exact hq.imp (g10 q) id
    ·intro q k' hk hcg hu
     cases q with
     |nil=>trivial
     |cons st q=>
      cases st with
      |fst=>show cO ka d' (m.C9 m').fst q;rw [hm0.1];exact g11 q k' hk hcg (by simpa [under,dM] using hu)
      |snd=>show cO kb d.2 (m.C9 m').snd q;rw [hm0.2];exact hcg
      |idx i=>exact hcg.elim
   |_=>simp [FW] at h
  |snd=>
   cases k with
   |pair ka kb=>
    obtain ⟨v1,v2,Fa,Fb,rfl,s1,s2,dj,h1,h2⟩:=he
    obtain ⟨d',m',F1,G,xs,ma,v,g1,g2,g3,g4,g5,g6,g7,g8,g9,g10,g11⟩:=ih (k:=kb) (m:=m.snd) (d:=d.2) (by simpa [dM] using hi) h h2
    have hm0:(m.Da m').fst=m.fst∧(m.Da m').snd=m':=⟨BL _ _,BM _ _⟩
    refine ⟨(d.1,d'),m.Da m',(fun b=>Fa b∨F1 b),G,xs,ma,v,g1,g2,g3,⟨v1,v2,Fa,F1,rfl,fun _=>.inl,fun _=>.inr,dj.sub (.refl _) g5,by rw [hm0.1];exact h1,by rw [hm0.2];exact g4⟩,
     fun b hb=>hb.elim (s1 _) (fun hb=>s2 _ (g5 _ hb)),g6.trans s2,fun b hb hg=>hb.elim (fun hb=>dj b hb (g6 _ hg)) (fun hb=>g7 b hb hg),g8,fun base=>?_,?_,?_⟩
    ·obtain ⟨b1,hb1⟩:=g9 (base.map fun x=>(x.1,x.2+ka.size))
     refine ⟨b1,?_⟩
     show eU w kb ((v1++v2).drop ka.size) (base.map fun x=>(x.1,x.2+ka.size)) p=_
     rw [←h1.len,List.drop_left,h1.len];exact hb1
    ·intro q hq
     simp only [aS,List.mem_append] at hq ⊢
     exact hq.imp id (g10 q)
    ·intro q k' hk hcg hu
     cases q with
     |nil=>trivial
     |cons st q=>
      cases st with
      |fst=>show cO ka d.1 (m.Da m').fst q;rw [hm0.1];exact hcg
      |snd=>show cO kb d' (m.Da m').snd q;rw [hm0.2];exact g11 q k' hk hcg (by simpa [under,dM] using hu)
      |idx i=>exact hcg.elim
   |_=>simp [FW] at h
  |idx i=>simp [dM] at hi
theorem YJ(rs:RF)(q0:ay)(x:Option Root)(u:U)(q:ay):look rs ((q0,x)::u) q=if q=q0 then x else look rs u q:=by
 simp only [look,dn]
 by_cases h:q=q0
 ·rw [if_pos h,bW.2 h];rfl
 ·rw [if_neg h,gN h];rfl
theorem adb{q q0:ay}{x:Option Root}{u:U}(h:q≠q0):dn q ((q0,x)::u)=dn q u:=by simp only [dn];rw [gN h];rfl
theorem zY(e:K):aS (.sl e) []=[]:=by simp only [aS];cases e.plain<;>rfl
theorem aad{e:K}{xs:List e.den}{lo k:Nat}{p:ay}(h:p∈aS (.sl e) ((xs.drop lo).take k)):p∈aS (.sl e) xs:=by
 simp only [aS] at h ⊢
 cases hp:e.plain with
 |true=>rw [hp] at h;simp at h
 |false=>
  rw [hp] at h
  simp only [cond_false,List.mem_flatMap] at h ⊢
  obtain ⟨y,hy,h⟩:=h
  exact ⟨y,List.mem_of_mem_drop (List.mem_of_mem_take hy),h⟩
theorem Ba{rs:RF}{e:K}{u:U}{av:AV}{v:Value}(hM:Mem w C (look rs u))(hv:AVC w C (look rs u) av [v]){c:List e.den→Mask→U→List Kill→List ay→Option R'}
  (h:fU rs e u av c=some r) :
  ∃xs m u' k1 g1 C2 G,c xs m u' k1 g1=some r∧m.dU=true∧qP w C C2 (look rs u) (look rs u') k1 G∧Enc w C.θ C.Z C.S (.sl e) m xs [v] G ∧
   (∀q,q ∉ av.names→dn q u'=dn q u)∧∀p∈aS (.sl e) xs,∃q x,look rs u q=some x∧p∈aS x.k x.d:=by
 unfold fU at h
 split at h
 ·refine ⟨_,_,_,_,_,C,noB,h,rfl,.refl hM,.inr (.inl ⟨by simp,rfl,none,hv⟩),fun _ _=>rfl,fun p hp=>by rw [zY] at hp;cases hp⟩
 ·obtain ⟨a',hv⟩:=hv
  refine ⟨_,_,_,_,_,C,noB,h,rfl,.refl hM,.inr (.inl ⟨by simp,rfl,a',hv⟩),fun _ _=>rfl,fun p hp=>by rw [zY] at hp;cases hp⟩
 ·rename_i q p
  obtain ⟨v',hvv,hroot⟩:=hv
  simp only [List.cons.injEq,and_true] at hvv
  subst hvv
  split at h
  case h_1=>simp at h
  case h_2 x hx=>
  obtain ⟨e',base,g1,g2,g3⟩:=hroot x hx
  have gen:dM p=false→MH q e u x p c=some r →
    ∃xs m u' k1 g1 C2 G,c xs m u' k1 g1=some r∧m.dU=true∧qP w C C2 (look rs u) (look rs u') k1 G∧Enc w C.θ C.Z C.S (.sl e) m xs [v] G ∧
     (∀q',q' ∉ (AV.ref q p).names→dn q' u'=dn q' u)∧∀p'∈aS (.sl e) xs,∃q x,look rs u q=some x∧p'∈aS x.k x.d:=by
   intro hidx h
   unfold MH at h
   obtain ⟨k',d,m,vs,b1,hp,hc⟩:=iw (hM.ok _ _ hx) h
   split at hc
   case isFalse=>simp at hc
   case isTrue hk=>
   subst hk
   cases hown:m.dU with
   |false=>simp [hown] at hc
   |true=>
   simp only [hown,cond_true] at hc
   obtain ⟨F,f1,f2,f3⟩:=hM.ok _ _ hx
   obtain ⟨d',m',F1,G,xs,ma,v1,t1,t2,t3,t4,t5,t6,t7,t8,t9,t10,t11⟩:=amI p hidx hc f1
   have hsame:=t3 ((Σ k:K,k.den)×Mask) (fun k d m=>some (⟨k,d⟩,m))
   rw [hp.get] at hsame
   simp only [Option.some.injEq,Prod.mk.injEq,Sigma.mk.injEq,heq_eq_eq,true_and] at hsame
   obtain ⟨rfl,rfl⟩:=hsame
   obtain ⟨b2,hb2⟩:=t9 (bK C q x)
   rw [g3] at hb2
   simp only [Option.some.injEq,Prod.mk.injEq,List.cons.injEq,and_true] at hb2
   obtain ⟨rfl,_⟩:=hb2
   have hθG:∀b,G b→x.mem=true→b≠C.θ q:=by rintro b hb hm rfl;exact (f3 hm).1 (t6 _ hb)
   refine ⟨_,_,_,_,_,⟨C.θ,C.ρ,fun q'=>if q'=q then (fun b=>F1 b∨(x.mem=true∧b=C.θ q)) else C.F q',C.Z,C.S⟩,G,t1,hown,?_,t8,fun q' hq'=>adb (by simpa [AV.names] using hq'),fun p hp'=>⟨q,x,hx,hp.ptrs p hp'⟩⟩
   have hlook:∀q' y,look rs ((q,some ⟨x.mem,x.k,m',d'⟩)::u) q'=some y→(q'=q∧y=⟨x.mem,x.k,m',d'⟩)∨(q'≠q∧look rs u q'=some y):=by
    intro q' y hy
    rw [YJ] at hy
    split at hy
    ·exact .inl ⟨‹_›,by simpa using hy.symm⟩
    ·exact .inr ⟨‹_›,hy⟩
   have hsub:∀b,(F1 b∨(x.mem=true∧b=C.θ q))→C.F q b:=by
    rintro b (hb|⟨hm,rfl⟩)
    ·exact f2 _ (t5 _ hb)
    ·exact (f3 hm).2.1
   have hFs:∀q' b,(if q'=q then (fun b=>F1 b∨(x.mem=true∧b=C.θ q)) else C.F q') b→C.F q' b:=by
    intro q' b hb
    split at hb
    ·rename_i hq;rw [hq];exact hsub b hb
    ·exact hb
   have hwas:∀q' y,look rs ((q,some ⟨x.mem,x.k,m',d'⟩)::u) q'=some y→∃z,look rs u q'=some z∧y.mem=z.mem∧∀p∈aS y.k y.d,p∈aS z.k z.d:=by
    intro q' y hy
    rcases hlook q' y hy with ⟨rfl,rfl⟩|⟨_,h⟩
    ·exact ⟨x,hx,rfl,t10⟩
    ·exact ⟨y,h,rfl,fun _ h=>h⟩
   refine ⟨rfl,rfl,rfl,rfl,⟨?_,?_,?_,hM.ro,?_⟩,?_,?_,?_,?_⟩
   ·intro q' y hy
    rcases hlook q' y hy with ⟨rfl,rfl⟩|⟨hne,h⟩
    ·refine ⟨F1,t4,fun b hb=>by show (if q'=q' then _ else _:BS) b;rw [if_pos rfl];exact .inl hb,fun hm=>?_⟩
     obtain ⟨k1,k2,T,k3⟩:=f3 hm
     exact ⟨fun h=>k1 (t5 _ h),by show (if q'=q' then _ else _:BS) _;rw [if_pos rfl];exact .inr ⟨hm,rfl⟩,T,k3⟩
    ·obtain ⟨G',k1,k2,k3⟩:=hM.ok q' y h
     refine ⟨G',k1,?_,?_⟩
     ·show Sub G' (if q'=q then _ else C.F q');rw [if_neg hne];exact k2
     ·show y.mem=true→_∧(if q'=q then _ else C.F q':BS) _∧_;rw [if_neg hne];exact k3
   ·intro r1 r2 y1 y2 h1 h2 hne b hb1 hb2
    obtain ⟨z1,hz1,_⟩:=hwas _ _ h1
    obtain ⟨z2,hz2,_⟩:=hwas _ _ h2
    exact hM.disj r1 r2 z1 z2 hz1 hz2 hne b (hFs _ _ hb1) (hFs _ _ hb2)
   ·intro r1 y b h1 hb
    obtain ⟨z1,hz1,_⟩:=hwas _ _ h1
    exact hM.apart r1 z1 b hz1 (hFs _ _ hb)
   ·intro r1 y h1 q2 hq2 y2 hy2
    obtain ⟨z1,hz1,_,h1p⟩:=hwas _ _ h1
    obtain ⟨z2,hz2,h2m,_⟩:=hwas _ _ hy2
    rw [h2m];exact hM.ptr r1 z1 hz1 q2 (h1p _ hq2) z2 hz2
   ·refine Wp ?_
    intro b vs hvw hl hh hvs
    have hplace:∀q' y p',look rs ((q,some ⟨x.mem,x.k,m',d'⟩)::u) q'=some y→(q'=q→(under p p'&&dM p')=false) →
      ∀k',(∀z,look rs u q'=some z→z.k.at p'=some k'∧cO z.k z.d z.m p')→∃z,look rs u q'=some z∧z.k=y.k∧z.mem=y.mem∧cO y.k y.d y.m p':=by
     intro q' y p' hy hu k' hz
     rcases hlook q' y hy with ⟨rfl,rfl⟩|⟨hne,h⟩
     ·obtain ⟨z1,z2⟩:=hz x hx
      exact ⟨x,hx,rfl,rfl,t11 p' k' z1 z2 (hu rfl)⟩
     ·exact ⟨y,h,rfl,rfl,(hz y h).2⟩
    have hbase:∀q' (y z:Root),z.mem=y.mem→bK ⟨C.θ,C.ρ,fun q'=>if q'=q then (fun b=>F1 b∨(x.mem=true∧b=C.θ q)) else C.F q',C.Z,C.S⟩ q' y=bK C q' z:=by
     intro q' y z hm;unfold bK;rw [hm]
    have hat:∀q' p',(Kill.at q p).hits (.ref q' p')=false→q'=q→under p p'=false:=by
     rintro q' p' hh rfl
     simp only [Kill.hits,bW.2 rfl,Bool.true_and] at hh
     exact hh
    simp only [hit,List.any_cons,List.any_nil,Bool.or_false] at hh
    cases b with
    |ptr q' p'=>
     obtain ⟨b,off,rfl,h0,hr⟩:=hvs
     refine ⟨b,off,rfl,h0,fun y hy=>?_⟩
     have hu:q'=q→(under p p'&&dM p')=false:=by
      rintro rfl
      simp only [Kill.hits,bW.2 rfl,Bool.true_and] at hh
      exact hh
     have hex:∃z,look rs u q'=some z:=by obtain ⟨z,hz,_⟩:=hwas _ _ hy;exact ⟨z,hz⟩
     obtain ⟨z0,hz0⟩:=hex
     obtain ⟨k',cs,r1,r2,r3⟩:=hr z0 hz0
     obtain ⟨z,hz,e1,e2,e3⟩:=hplace q' y p' hy hu k' (fun z hz=>by rw [hz0] at hz;cases hz;exact ⟨r1,r2⟩)
     rw [hz0] at hz;cases hz
     exact ⟨k',cs,by rw [←e1];exact r1,e3,by rw [hbase q' y z0 e2,←e1];exact r3⟩
    |ref q' p'=>
     obtain ⟨v,rfl,hr⟩:=hvs
     refine ⟨v,rfl,fun y hy=>?_⟩
     have hu:q'=q→(under p p'&&dM p')=false:=fun hq=>by rw [hat q' p' hh hq];rfl
     obtain ⟨z0,hz0,_⟩:=hwas _ _ hy
     obtain ⟨e2,base2,r1,r2,r3⟩:=hr z0 hz0
     obtain ⟨z,hz,e1,e2',e3⟩:=hplace q' y p' hy hu _ (fun z hz=>by rw [hz0] at hz;cases hz;exact ⟨r1,r2⟩)
     rw [hz0] at hz;cases hz
     exact ⟨e2,base2,by rw [←e1];exact r1,e3,by rw [hbase q' y z0 e2',←e1];exact r3⟩
    |slc q' p' lo k0=>
     obtain ⟨v,v0,rfl,hr⟩:=hvs
     refine ⟨v,v0,rfl,fun y hy=>?_⟩
     have hu:q'=q→(under p p'&&dM p')=false:=fun hq=>by
      rw [hat q' p' (by simpa [Kill.hits] using hh) hq];rfl
     obtain ⟨z0,hz0,_⟩:=hwas _ _ hy
     obtain ⟨e2,base2,r1,r2,r3,r4⟩:=hr z0 hz0
     obtain ⟨z,hz,e1,e2',e3⟩:=hplace q' y p' hy hu _ (fun z hz=>by rw [hz0] at hz;cases hz;exact ⟨r1,r2⟩)
     rw [hz0] at hz;cases hz
     exact ⟨e2,base2,by rw [←e1];exact r1,e3,by rw [hbase q' y z0 e2',←e1];exact r3,r4⟩
    |fn f caps=>
     refine ⟨hvs.1,fun q' hq' y hy=>?_⟩
     obtain ⟨z0,hz0,hm0,_⟩:=hwas _ _ hy
     rw [hm0];exact hvs.2 q' hq' z0 hz0
    |vw _ _ _=>simp [AV.Wi] at hvw
    |pair _ _=>simp [AV.dS] at hl
    |tcons _ _=>simp [AV.dS] at hl
    |dead=>trivial
    |imm=>exact hvs
    |nil=>exact hvs
    |emp=>exact hvs
    |nilp=>exact hvs
    |iptr=>exact hvs
    |nn=>exact hvs
    |tnil=>exact hvs
   ·intro q' y hy
    rcases hlook q' y hy with ⟨rfl,rfl⟩|⟨hne,h⟩
    ·exact ⟨x,hx,fun b hb=>hFs q' b hb,rfl,t10⟩
    ·exact ⟨y,h,fun b hb=>hFs q' b hb,rfl,fun _ h=>h⟩
   ·intro b hb;exact ⟨q,x,hx,f2 _ (t6 _ hb)⟩
   ·intro q' y hy b hb hf
    rcases hlook q' y hy with ⟨rfl,rfl⟩|⟨hne,h⟩
    ·have hf':(if q'=q' then (fun b=>F1 b∨(x.mem=true∧b=C.θ q')) else C.F q':BS) b:=hf
     rw [if_pos rfl] at hf'
     rcases hf' with hf'|⟨hm,rfl⟩
     ·exact t7 b hf' hb
     ·exact hθG _ hb hm rfl
    ·exact hM.disj q' q y x h hx hne b (hFs q' b hf) (f2 _ (t6 _ hb))
  split at h
  case h_1=>
   cases hmem0:(x.mem||Nat.beq q.1 0) with
   |true=>rw [hmem0] at h;exact gen rfl h
   |false=>
   have hmem:x.mem=false:=(Bool.or_eq_false_iff.1 hmem0).1
   simp only [hmem0,cond_false] at h
   split at h
   case isFalse=>simp at h
   case isTrue hk=>
   cases hown:x.m.dU with
   |false=>simp [hown] at h
   |true=>
   simp only [hown,cond_true] at h
   obtain ⟨xmem,xk,xm,xd⟩:=x
   simp only at hk hmem hown h g1 g2 g3
   subst hk
   rw [cZ] at g3
   simp only [Option.some.injEq,Prod.mk.injEq] at g3
   obtain ⟨F,f1,f2,_⟩:=hM.ok _ _ hx
   refine ⟨_,_,_,_,_,C,FU C [q],h,hown,?_,?_,fun q' hq'=>adb (by simpa [AV.names] using hq'),fun p hp=>⟨q,_,hx,hp⟩⟩
   ·refine qP.ofs hM (e:=[q]) (by simp [hx]) (fun q'=>?_)
    rw [YJ];simp
   ·rw [g3.1] at f1
    exact f1.mono (.refl _) (.refl _) (fun b hb=>⟨q,by simp,f2 b hb⟩) (fun _ _=>rfl) (fun _ _=>rfl)
  case h_2=>
   cases hidx:dM p with
   |true=>simp [hidx] at h
   |false=>
   simp only [hidx,cond_false] at h
   exact gen hidx h
 ·rename_i q lo k0
  obtain ⟨v',v0,hvv,hroot⟩:=hv
  simp only [List.cons.injEq,and_true] at hvv
  subst hvv
  split at h
  case h_1=>simp at h
  case h_2 x hx=>
  obtain ⟨e',base,g1,g2,g3,g4⟩:=hroot x hx
  cases hmem:x.mem with
  |true=>simp [hmem] at h
  |false=>
  simp only [hmem,cond_false] at h
  split at h
  case isFalse=>simp at h
  case isTrue hk=>
  cases hown:x.m.dU with
  |false=>simp [hown] at h
  |true=>
  simp only [hown,cond_true] at h
  obtain ⟨xmem,xk,xm,xd⟩:=x
  simp only at hk hmem hown h g1 g2 g3
  subst hk
  rw [cZ] at g3
  simp only [Option.some.injEq,Prod.mk.injEq] at g3
  rw [at_nil] at g1
  simp only [Option.some.injEq,K.sl.injEq] at g1
  subst g1
  obtain ⟨F,f1,f2,_⟩:=hM.ok _ _ hx
  refine ⟨_,_,_,_,_,C,FU C [q],h,hown,?_,?_,fun q' hq'=>adb (by simpa [AV.names] using hq'),fun p hp=>⟨q,_,hx,aad hp⟩⟩
  ·refine qP.ofs hM (e:=[q]) (by simp [hx]) (fun q'=>?_)
   rw [YJ];simp
  ·rw [g3.1] at f1
   have hne:xm≠.gone:=by rintro rfl;simp [Mask.dU] at hown
   exact (abz f1 hne g4).mono (.refl _) (.refl _) (fun b hb=>⟨q,by simp,f2 b hb⟩) (fun _ _=>rfl) (fun _ _=>rfl)
 ·simp at h
theorem qP.free{C1:Ctx}{rs rs1:RF}{ks:List Kill}{G:BS}(hM:Mem w C rs)(h:qP w C C1 rs rs1 ks G){b:Nat}(hb:G b):¬C.Z b∧¬C.S b∧b<w.heap.size:=by
 obtain ⟨r,y,h1,h2⟩:=h.gfoot b hb
 exact hM.apart r y b h1 h2
theorem Rel.ap3(R:Rel w0 M0 n C0 C s a w){d:Nat}(hd:d<n){x:Del}(hal:allowed s (some d) x=true)(hren:x.ren=none)(hmk:x.make=true)
  {C1:Ctx} {u':U} {G:BS} (Fd:qP w C C1 s.roots (look s.roots u') x.kills G) {y0:Root} (hu:x.u=(loc d 0,some y0)::u')
  {v:Value} {w':World} {b0:Nat} {vs0:List Value} {F0:BS} (hkept:Keeps M0 w0 w') (hsz:w.heap.size≤w'.heap.size)
  (hblk:∀b,b<w.heap.size→¬G b→w'.heap[b]?=w.heap[b]?) (hF0:∀b,F0 b→G b∨w.heap.size≤b) (hF1:∀b,F0 b→b<w'.heap.size)
  (hok':∃G',Enc w' C.θ C.Z C.S y0.k y0.m y0.d vs0 G'∧Sub G' F0∧(y0.mem=true→¬G' b0∧F0 b0∧∃T,w'.heap[b0]?=some (.cells vs0.toArray T (0,0))))
  (hptr:∀q∈aS y0.k y0.d,q∈x.pins∨∃r' z,s.roots r'=some z∧q∈aS z.k z.d) (hpm:∀q∈x.pins,∀y,s.roots q=some y→y.mem=true)
  (hav:∀rs',rs' (loc d 0)=some y0→(∀q y,q≠loc d 0→rs' q=some y→look s.roots u' q=some y)→bH w' (C1.with (loc d 0) b0 vs0 F0) rs' v x.v) :
  Rel w0 M0 n C0 (C1.with (loc d 0) b0 vs0 F0) (s.after (some d) x) (a.put (some d) v) w':=by
 have hpin:s.pins (d+2)=false∧∀q∈x.pins,q.1≠d+2:=by
  unfold allowed at hal
  simp only [hmk,Bool.not_true,Bool.false_and,Bool.false_or,Bool.and_eq_true,Bool.not_eq_true',List.any_eq_false] at hal
  exact ⟨hal.1,fun q hq he=>hal.2 q hq (beq_iff.2 he.symm)⟩
 have hroots:∀q y,(s.after (some d) x).roots q=some y→(q=loc d 0∧y=y0)∨(q≠loc d 0∧look s.roots u' q=some y):=by
  intro q y hq
  simp only [St.after,hu,dn] at hq
  by_cases h0:q=loc d 0
  ·rw [bW.2 h0] at hq;exact .inl ⟨h0,(Option.some.inj hq).symm⟩
  ·rw [gN h0] at hq
   simp only [cond_false] at hq
   refine .inr ⟨h0,?_⟩
   unfold look
   cases hl:dn q u' with
   |some y'=>rw [hl] at hq;exact hq
   |none=>
    rw [hl] at hq
    simp only at hq ⊢
    cases hb:(x.make&&Nat.beq q.1 ((some d).getD 0+2)) with
    |true=>rw [hb] at hq;cases hq
    |false=>rw [hb] at hq;exact hq
 have hnew:(s.after (some d) x).roots (loc d 0)=some y0:=by simp only [St.after,hu,dn,bW.2 rfl,cond_true]
 have hkeepB:∀r y b,look s.roots u' r=some y→C1.F r b→w'.heap[b]?=w.heap[b]?:=by
  intro r y b hy hb
  exact hblk b (Fd.mem.apart r y b hy hb).2.2 (fun hg=>Fd.gdisj r y hy b hg hb)
 have hkeepZ:∀b,C1.Z b∨C1.S b→w'.heap[b]?=w.heap[b]?:=by
  intro b hb
  rw [Fd.Z,Fd.S] at hb
  refine hblk b (R.mem.ro b hb) fun hg=>?_
  have:=Fd.free R.mem hg
  exact hb.elim this.1 this.2.1
 have hpq:∀r y,look s.roots u' r=some y→∀q∈aS y.k y.d,q.1≠d+2:=by
  intro r y hy q hq he
  obtain ⟨z,hz,_,_,hzp⟩:=Fd.was r y hy
  have:=R.pins r z hz q (hzp q hq) (by omega)
  rw [he,hpin.1] at this;cases this
 have hpq0:∀q∈aS y0.k y0.d,q.1≠d+2:=by
  intro q hq
  rcases hptr q hq with h|⟨r',z,hz,h⟩
  ·exact hpin.2 q h
  ·intro he
   have:=R.pins r' z hz q h (by omega)
   rw [he,hpin.1] at this;cases this
 have hne:∀q:ay,q.1≠d+2→q≠loc d 0:=by rintro q h rfl;exact h rfl
 have hok:uz w' (C1.with (loc d 0) b0 vs0 F0) (loc d 0) y0:=by
  obtain ⟨G',g1,g2,g3⟩:=hok'
  refine ⟨G',?_,by rw [Ctx.iZ];exact g2,fun hm=>?_⟩
  ·rw [Ctx.with_ρ0]
   show Enc w' _ C1.Z C1.S _ _ _ _ _
   rw [Fd.Z,Fd.S]
   exact g1.mono (.refl _) (.refl _) (.refl _) (fun _ _=>rfl) (fun q hq=>by rw [Ctx.with_θ (hne q (hpq0 q hq)),Fd.θ])
  ·rw [Ctx.with_θ0,Ctx.iZ,Ctx.with_ρ0];exact g3 hm
 refine R.put (fun d' h=>by cases h;exact hd) hren ⟨fun b hb=>(show C1.Z b by rw [Fd.Z];exact R.ext.Z b hb),Fd.S.trans R.ext.S,fun i=>?_⟩ ⟨?_,?_,?_,?_,?_⟩ ?_ ?_ hkept ?_ ?_ ?_ (fun b hb=>R.zn b (by rw [←Fd.Z];exact hb))
 ·rw [Ctx.with_θ (by intro h;cases h),Fd.θ];exact R.ext.θ i
 ·intro r y hr
  rcases hroots r y hr with ⟨rfl,rfl⟩|⟨h1,h4⟩
  ·exact hok
  ·refine (Fd.mem.ok r y h4).keep rfl rfl (Ctx.with_θ h1) (Ctx.with_ρ h1) (Ctx.iU h1) (fun q hq=>Ctx.with_θ (hne q (hpq r y h4 q hq))) ?_
   intro b hb
   rcases hb with hb|hb
   ·exact hkeepB r y b h4 hb
   ·exact hkeepZ b hb
 ·intro r r' y y' hr hr' hrr
  have side:∀r y,r≠loc d 0→look s.roots u' r=some y→DI F0 (C1.F r):=by
   intro r y h1 h4 b hb hb'
   rcases hF0 b hb with hb2|hb2
   ·exact Fd.gdisj r y h4 b hb2 hb'
   ·have:=(Fd.mem.apart r y b h4 hb').2.2;omega
  rcases hroots r y hr with ⟨rfl,rfl⟩|⟨h1,h4⟩<;>rcases hroots r' y' hr' with ⟨rfl,rfl⟩|⟨g1,g4⟩
  ·exact absurd rfl hrr
  ·rw [Ctx.iZ,Ctx.iU g1];exact side r' y' g1 g4
  ·rw [Ctx.iZ,Ctx.iU h1];exact (side r y h1 h4).symm
  ·rw [Ctx.iU h1,Ctx.iU g1];exact Fd.mem.disj r r' y y' h4 g4 hrr
 ·intro r y b hr hb
  show ¬C1.Z b∧¬C1.S b∧_
  rcases hroots r y hr with ⟨rfl,rfl⟩|⟨h1,h4⟩
  ·rw [Ctx.iZ] at hb
   rw [Fd.Z,Fd.S]
   rcases hF0 b hb with hb2|hb2
   ·have:=Fd.free R.mem hb2
    exact ⟨this.1,this.2.1,hF1 b hb⟩
   ·exact ⟨fun h=>by have:=R.mem.ro b (.inl h);omega,fun h=>by have:=R.mem.ro b (.inr h);omega,hF1 b hb⟩
  ·rw [Ctx.iU h1] at hb
   have:=Fd.mem.apart r y b h4 hb
   exact ⟨this.1,this.2.1,by omega⟩
 ·intro b hb
  have hb':C1.Z b∨C1.S b:=hb
  rw [Fd.Z,Fd.S] at hb'
  have:=R.mem.ro b hb';omega
 ·intro r y hr q hq z hz
  have hq1:q.1≠d+2:=by
   rcases hroots r y hr with ⟨rfl,rfl⟩|⟨h1,h4⟩
   ·exact hpq0 q hq
   ·exact hpq r y h4 q hq
  rcases hroots q z hz with ⟨rfl,_⟩|⟨_,hz'⟩
  ·exact absurd rfl hq1
  ·rcases hroots r y hr with ⟨rfl,rfl⟩|⟨h1,h4⟩
   ·obtain ⟨z2,hz2,_,hzm,_⟩:=Fd.was q z hz'
    rw [hzm]
    rcases hptr q hq with h|⟨r',z',hz3,h⟩
    ·exact hpm q h z2 hz2
    ·exact R.mem.ptr r' z' hz3 q h z2 hz2
   ·exact Fd.mem.ptr r y h4 q hq z hz'
 ·intro b vs hl hh hb
  simp only [dK,hmk,cond_true,Option.getD_some,hit,List.any_cons,Bool.or_eq_false_iff] at hh
  have hn1:=amT hl hh.1
  refine kN (C':=C1.with (loc d 0) b0 vs0 F0) Fd.mem (fun q=>q.1=d+2) rfl rfl (fun q hq=>Ctx.with_θ (hne q hq)) (fun q hq=>Ctx.with_ρ (hne q hq)) ?_ ?_ hl hn1 (Fd.leaf b vs hl hh.2 hb)
  ·intro q y hq hy
   rcases hroots q y hy with ⟨rfl,_⟩|⟨_,h⟩
   ·exact absurd rfl hq
   ·exact h
  ·intro b' hb'
   rcases hb' with hb'|hb'|⟨q,y,hq,hy,hb'⟩
   ·exact hkeepZ b' (.inl hb')
   ·exact hkeepZ b' (.inr hb')
   ·exact hkeepB q y b' hy hb'
 ·intro d' hd'
  exact hav _ hnew fun q y hne hy=>(hroots q y hy).elim (fun h=>absurd h.1 hne) fun h=>h.2
 ·intro r y b hr hb
  rcases hroots r y hr with ⟨rfl,rfl⟩|⟨h1,h4⟩
  ·rw [Ctx.iZ] at hb
   rcases hF0 b hb with hb2|hb2
   ·obtain ⟨r2,y2,hy2,hb3⟩:=Fd.gfoot b hb2
    exact R.foot r2 y2 b hy2 hb3
   ·exact .inl (Nat.le_trans R.kept.size hb2)
  ·rw [Ctx.iU h1] at hb
   obtain ⟨z,hz,hzs,_⟩:=Fd.was r y h4
   exact R.foot r z b hz (hzs b hb)
 ·intro r y hr q hq h2
  simp only [St.after,Bool.or_eq_true,List.any_eq_true]
  rcases hroots r y hr with ⟨rfl,rfl⟩|⟨h1,h4⟩
  ·rcases hptr q hq with h|⟨r',z,hz,h⟩
   ·exact .inr ⟨q,h,beq_iff.2 rfl⟩
   ·exact .inl (R.pins r' z hz q h h2)
  ·obtain ⟨z,hz,_,_,hzp⟩:=Fd.was r y h4
   exact .inl (R.pins r z hz q (hzp q hq) h2)
 ·intro i y hi hm
  rcases hroots _ y hi with ⟨h,_⟩|⟨h1,h4⟩
  ·cases h
  ·obtain ⟨z,hz,_,hzm,_⟩:=Fd.was _ y h4
   rw [Ctx.with_ρ h1,Fd.ρ]
   exact R.parρ i z hz (by rw [←hzm];exact hm)
theorem Rel.fresh(R:Rel w0 M0 n C0 C s a w){d:Nat}(hd:d<n){x:Del}(hal:allowed s (some d) x=true)(hren:x.ren=none)(hmk:x.make=true)
  {C1:Ctx} {u':U} {G:BS} (Fd:qP w C C1 s.roots (look s.roots u') x.kills G) {y0:Root} (hu:x.u=(loc d 0,some y0)::u')
  {v:Value} {w':World} {b0:Nat} {vs0:List Value} {F0:BS} (hkept:Keeps M0 w0 w') (hsz:w.heap.size≤w'.heap.size)
  (hblk:∀b,b<w.heap.size→¬G b→w'.heap[b]?=w.heap[b]?) (hF0:∀b,F0 b→G b∨w.heap.size≤b) (hF1:∀b,F0 b→b<w'.heap.size)
  (hok':∃G',Enc w' C.θ C.Z C.S y0.k y0.m y0.d vs0 G'∧Sub G' F0∧(y0.mem=true→¬G' b0∧F0 b0∧∃T,w'.heap[b0]?=some (.cells vs0.toArray T (0,0))))
  (hptr:∀q∈aS y0.k y0.d,q∈x.pins∨∃r' z,s.roots r'=some z∧q∈aS z.k z.d) (hpm:∀q∈x.pins,∀y,s.roots q=some y→y.mem=true)
  (hav:∀rs',rs' (loc d 0)=some y0→bH w' (C1.with (loc d 0) b0 vs0 F0) rs' v x.v) :
  Rel w0 M0 n C0 (C1.with (loc d 0) b0 vs0 F0) (s.after (some d) x) (a.put (some d) v) w':=
 R.ap3 hd hal hren hmk Fd hu hkept hsz hblk hF0 hF1 hok' hptr hpm fun rs' h _=>hav rs' h
theorem Vu.freed{rs:RF}(hM:Mem w C rs){k:K}{d:k.den}{m:Mask}{vs:List Value}{u':U}{e q:List ay}{F:BS}(A:Vu w C rs [] k d m vs u' e q F) :
  qP w C C rs (look rs u') (ofs e) (FU C e):=by
 refine qP.ofs hM (fun q hq=>by obtain ⟨y,hy,_⟩:=A.was q hq;exact ⟨y,hy⟩) (fun q=>?_)
 unfold look
 rw [A.ended]
 by_cases h:q∈e
 ·rw [if_pos h,if_pos h]
 ·rw [if_neg h,if_neg h];rfl
variable {c : Del → Option R'} {r : R'}
theorem aiU(R:Rel w0 M0 n C0 C s a w){k:K}{dd:k.den}{m:Mask}{u':U}{e q:List ay}{F:BS}{vs:List Value}{T:TypeId}{rd:List ay}
  (A:Vu w C s.roots [] k dd m vs u' e q F)
  (hr:(execOp a.eval o).run P w=.ok (.value (.pointer (some ⟨w.heap.size,0,none⟩))) (World.push w (.cells vs.toArray T))) :
  Does P w0 M0 n C0 s a w o ⟨.ptr (loc (o.dst.getD 0) 0) [],(loc (o.dst.getD 0) 0,some ⟨true,k,m,dd⟩)::u',true,ofs e,q,none,rd,e,false⟩:=by
 intro hd hal next Q hn
 obtain ⟨d,hdst⟩:=Ea hal rfl
 unfold Oper.wp
 rw [hr]
 show next (a.put o.dst _) _
 rw [hdst] at hal hn ⊢
 simp only [Option.getD_some] at hal hn ⊢
 have Fd:=A.freed R.mem
 refine hn _ _ _ (R.fresh (hd d hdst) hal rfl rfl Fd (y0:=⟨true,k,m,dd⟩) rfl
  (w':=World.push w (.cells vs.toArray T)) (b0:=w.heap.size) (vs0:=vs) (F0:=fun b=>F b∨b=w.heap.size) (R.kept.push _) (by rw [xB];omega) (fun b hb _=>BP _ _ hb) ?_ ?_ ?_ ?_ A.pmem ?_)
 ·rintro b (hb|hb)
  ·exact .inl (A.sub b hb)
  ·exact .inr (by omega)
 ·rintro b (hb|hb)
  ·have:=(Fd.free R.mem (A.sub b hb)).2.2;rw [xB];omega
  ·rw [xB];omega
 ·refine ⟨F,?_,fun _ h=>.inl h,fun _=>⟨fun h=>?_,.inr rfl,T,adC _ _⟩⟩
  ·refine A.enc.mono (.refl _) (.refl _) (.refl _) (fun b hb=>BP _ _ ?_) (fun _ _=>rfl)
   rcases hb with hb|hb
   ·exact (Fd.free R.mem (A.sub b hb)).2.2
   ·exact R.mem.ro b hb
  ·have:=(Fd.free R.mem (A.sub _ h)).2.2;omega
 ·intro q' hq'
  exact (A.ptrs q' hq').imp id (fun ⟨r',_,z,hz,h⟩=>⟨r',z,hz,h⟩)
 ·intro rs' hrs
  refine bH.mk ⟨w.heap.size,0,rfl,fun _=>⟨by rw [Ctx.with_θ0],rfl⟩,fun y hy=>?_⟩ rfl rfl
  rw [hrs] at hy;cases hy
  exact ⟨k,vs,at_nil _,dP _ _ _,by rw [cZ,Ctx.with_ρ0];unfold bK;rw [if_pos rfl,Ctx.with_θ0]⟩
theorem alb(hT:gq P V)(R:Rel w0 M0 n C0 C s a w){t:TypeId}(ho:o.op=.alloc t)(h:bC V o s.tmps s.roots c=some r) :
  ∃x,c x=some r∧Does P w0 M0 n C0 s a w o x:=by
 simp only [bC,ho] at h
 split at h
 case h_2=>simp at h
 case h_1 k hk=>
 obtain ⟨ti,hti,rfl⟩:=Env.wz hk
 obtain ⟨i,z,hi,hs,hb,hz,hzc⟩:=(hT.ty _ _ hti).info
 refine ⟨_,h,aiU (T:=t) R (vs:=ti.k.zeroCells) (u':=[]) (F:=noB) (e:=[]) (q:=[]) ⟨Enc.zero,fun _ x=>x.elim,fun r=>by simp [dn],by simp,?_,by simp⟩ ?_⟩
 ·intro q hq
  have key:∀(k:K),aS k k.zero=[]:=by
   intro k
   induction k with
   |pair a b iha ihb=>simp [aS,K.zero,iha,ihb]
   |sl e _=>simp only [aS,K.zero];cases e.plain<;>rfl
   |_=>rfl
  rw [key] at hq;cases hq
 ·have:z.cells=ti.k.zeroCells.toArray:=by apply Array.ext';rw [hzc]
  simp only [execOp,ho,Instr.alloc,Sem.run_bind,Kk hi hz,Result.andThen_ok,newVar,newRow,run_newObj,Sem.run_pure,this]
  rfl
theorem aio{rs:RF}:∀(av:AV){k:K}{vs:List Value}{y:k.den×Mask},viewAt av k=some y→AVC w C rs av vs →
  Enc w C.θ C.Z C.S k y.2 y.1 vs noB∧aS k y.1=[]∧∀(p0:Path) e,e∈Hz av p0→∃rel u kk,e.1=p0++rel∧dM rel=false∧k.at rel=some (.sl kk) ∧
   (∀base0,∃b1,eU w k vs base0 rel=some ([u],b1))∧AVC w C rs (.ref (par e.2.1) e.2.2) [u]:=by
 intro av
 induction av with
 |imm z k' d=>
  intro k vs y h hv
  have h':(if h:k'=k then some (h ▸ d,Mask.ro k z) else none)=some y:=by cases k<;>exact h
  split at h'
  case isFalse=>cases h'
  case isTrue hk=>
  subst hk
  cases h'
  refine ⟨?_,bV d hv.1,fun p0 e he=>by simp [Hz] at he⟩
  unfold Mask.ro
  cases hf:k'.flat with
  |true=>exact Enc.flat hf hv.2
  |false=>exact hv.2
 |pair a b iha ihb=>
  intro k vs y h hv
  cases k with
  |pair ka kb=>
   simp only [viewAt] at h
   split at h
   case h_2=>cases h
   case h_1 x1 x2 e1 e2=>
   cases h
   obtain ⟨v1,v2,rfl,h1,h2⟩:=hv
   obtain ⟨i1,i2,i3⟩:=iha e1 h1
   obtain ⟨j1,j2,j3⟩:=ihb e2 h2
   refine ⟨⟨v1,v2,noB,noB,rfl,.refl _,.refl _,fun _ h _=>h,by rw [BL];exact i1,by rw [BM];exact j1⟩,by simp [aS,i2,j2],fun p0 e he=>?_⟩
   simp only [Hz,List.mem_append] at he
   rcases he with he|he
   ·obtain ⟨rel,u,kk,g1,g2,g3,g4,g5⟩:=i3 _ e he
    refine ⟨.fst::rel,u,kk,by rw [g1];simp,by simpa [dM] using g2,g3,fun base0=>?_,g5⟩
    obtain ⟨b1,hb1⟩:=g4 base0
    refine ⟨b1,?_⟩
    show eU w ka ((v1++v2).take ka.size) base0 rel=_
    rw [←i1.len,List.take_left];exact hb1
   ·obtain ⟨rel,u,kk,g1,g2,g3,g4,g5⟩:=j3 _ e he
    refine ⟨.snd::rel,u,kk,by rw [g1];simp,by simpa [dM] using g2,g3,fun base0=>?_,g5⟩
    obtain ⟨b1,hb1⟩:=g4 (base0.map fun x=>(x.1,x.2+ka.size))
    refine ⟨b1,?_⟩
    show eU w kb ((v1++v2).drop ka.size) (base0.map fun x=>(x.1,x.2+ka.size)) rel=_
    rw [←i1.len,List.drop_left,i1.len];exact hb1
  |_=>simp [viewAt] at h
 |ref q p=>
  intro k vs y h hv
  obtain ⟨q1,q2⟩:=q
  cases q1 with
  |zero=>
   cases k with
   |sl e=>
    simp only [viewAt,Option.some.injEq] at h
    subst h
    have hv':=hv
    obtain ⟨v,rfl,_⟩:=hv
    refine ⟨.inl ⟨rfl,v,rfl⟩,zY e,fun p0 e' he=>?_⟩
    simp only [Hz,List.mem_singleton] at he
    subst he
    exact ⟨[],v,e,by simp,rfl,rfl,fun base0=>⟨base0,rfl⟩,hv'⟩
   |_=>simp [viewAt] at h
  |succ=>cases k<;>simp [viewAt] at h
 |_=>intro k vs y h hv;cases k<;>simp [viewAt] at h
theorem an2(R:Rel w0 M0 n C0 C s a w){k:K}{y:k.den×Mask}{av:AV}{vs:List Value}{T:TypeId}{rd:List ay}(hy:viewAt av k=some y)(hA:AVC w C s.roots av vs)
  (hr:(execOp a.eval o).run P w=.ok (.value (.pointer (some ⟨w.heap.size,0,none⟩))) (World.push w (.cells vs.toArray T))) :
  Does P w0 M0 n C0 s a w o ⟨.vw (loc (o.dst.getD 0) 0) [] (Hz av []),[(loc (o.dst.getD 0) 0,some ⟨true,k,y.2,y.1⟩)],true,[],[],none,rd,[],false⟩:=by
 intro hd hal next Q hn
 obtain ⟨d,hdst⟩:=Ea hal rfl
 unfold Oper.wp
 rw [hr]
 show next (a.put o.dst _) _
 rw [hdst] at hal hn ⊢
 simp only [Option.getD_some] at hal hn ⊢
 obtain ⟨hE,hP,hL⟩:=aio av hy hA
 refine hn _ _ _ (R.ap3 (hd d hdst) hal rfl rfl (qP.refl R.mem) (y0:=⟨true,k,y.2,y.1⟩) (u':=[]) rfl
  (w':=World.push w (.cells vs.toArray T)) (b0:=w.heap.size) (vs0:=vs) (F0:=fun b=>b=w.heap.size) (R.kept.push _) (by rw [xB];omega) (fun b hb _=>BP _ _ hb) ?_ ?_ ?_ ?_ (fun q hq=>by cases hq) ?_)
 ·intro b hb;exact .inr (by omega)
 ·intro b hb;rw [xB];omega
 ·refine ⟨noB,?_,fun _ h=>h.elim,fun _=>⟨fun h=>h,rfl,T,adC _ _⟩⟩
  refine hE.mono (.refl _) (.refl _) (.refl _) (fun b hb=>BP _ _ ?_) (fun _ _=>rfl)
  rcases hb with hb|hb
  ·exact hb.elim
  ·exact R.mem.ro b hb
 ·intro q' hq'
  simp only [hP] at hq'
  cases hq'
 ·intro rs' hrs hrs2
  refine bH.mk ⟨⟨w.heap.size,0,rfl,fun _=>⟨by rw [Ctx.with_θ0],rfl⟩,fun y hy=>?_⟩,fun e he=>?_⟩ rfl rfl
  ·rw [hrs] at hy;cases hy
   exact ⟨k,vs,at_nil _,dP _ _ _,by rw [cZ,Ctx.with_ρ0];unfold bK;rw [if_pos rfl,Ctx.with_θ0]⟩
  ·obtain ⟨rel,u,kk,g1,g2,g3,g4,g5⟩:=hL [] e he
   rw [List.nil_append] at g1
   refine ⟨u,⟨u,rfl,fun x hx=>?_⟩,?_⟩
   ·rw [hrs] at hx;cases hx
    obtain ⟨b1,hb1⟩:=g4 (bK (C.with (loc d 0) w.heap.size vs fun b=>b=w.heap.size) (loc d 0) ⟨true,k,y.2,y.1⟩)
    refine ⟨kk,b1,by rw [List.nil_append,g1];exact g3,by rw [List.nil_append,g1];exact sF rel g2 g3,?_⟩
    rw [List.nil_append,g1,Ctx.with_ρ0]
    rw [←hb1]
    obtain ⟨o1,ho1⟩:=UH rel g2 g3
    rw [(ho1 _ _ _ hE.len).1,(ho1 _ _ _ hE.len).1]
   ·refine kN (C':=C.with (loc d 0) w.heap.size vs fun b=>b=w.heap.size) (av:=.ref (par e.2.1) e.2.2) R.mem (fun q=>q=loc d 0) rfl rfl (fun q hq=>Ctx.with_θ hq) (fun q hq=>Ctx.with_ρ hq) (fun q y hq hy=>hrs2 q y hq hy) ?_ rfl (fun q hq h=>?_) g5
    ·intro b hb
     refine BP _ _ ?_
     rcases hb with hb|hb|⟨q,y,_,hy,hb⟩
     ·exact R.mem.ro b (.inl hb)
     ·exact R.mem.ro b (.inr hb)
     ·exact (R.mem.apart q y b hy hb).2.2
    ·simp only [AV.names,List.mem_singleton] at hq
     rw [hq] at h
     simp at h
theorem apz(R:Rel w0 M0 n C0 C s a w){t:TypeId}{y:Operand}(ho:o.op=.box t y)(h:bC V o s.tmps s.roots c=some r) :
  ∃x,c x=some r∧Does P w0 M0 n C0 s a w o x:=by
 simp only [bC,ho] at h
 split at h
 case h_2=>simp at h
 case h_1 k hk=>
 have hx:=R.eval y
 split at h
 ·rename_i yy hyy
  have hva:viewAt (bf s.tmps y) k=some yy:=by
   unfold ark at hyy
   cases hp:(bf s.tmps y).agW with
   |true=>rw [hp] at hyy;exact hyy
   |false=>rw [hp] at hyy;cases hyy
  obtain ⟨hA⟩:Nonempty (AVC w C s.roots (bf s.tmps y) (a.eval y).cells.toList):=by
   rcases hx with (hd|⟨_,vs,hv,hx⟩|⟨_,hx,hc⟩)|⟨vs,_,ht⟩
   ·rw [hd] at hva;cases k<;>simp [viewAt] at hva
   ·rw [hv];exact ⟨hx⟩
   ·rw [hc];exact ⟨hx⟩
   ·cases he:bf s.tmps y<;>rw [he] at ht hva<;>first|exact ht.elim|(cases k<;>simp [viewAt] at hva)
  refine ⟨_,h,an2 (T:=t) R hva hA ?_⟩
  simp only [execOp,ho,Instr.box,Sem.run_bind,newVar,newRow,run_newObj,Result.andThen_ok,Sem.run_pure,Array.toArray_toList]
  rfl
 obtain ⟨hA⟩:Nonempty (AVC w C s.roots (bf s.tmps y) (a.eval y).cells.toList):=by
  rcases hx with (hd|⟨_,vs,hv,hx⟩|⟨_,hx,hc⟩)|⟨vs,_,ht⟩
  ·rw [hd] at h;cases k<;>simp [dL] at h
  ·rw [hv];exact ⟨hx⟩
  ·rw [hc];exact ⟨hx⟩
  ·cases he:bf s.tmps y<;>rw [he] at ht h<;>first|exact ht.elim|(cases k<;>simp [dL] at h)
 obtain ⟨d,m,u',e,q,F,g1,A⟩:=KM R.mem _ h L8 hA
 refine ⟨_,g1,aiU (T:=t) R A ?_⟩
 simp only [execOp,ho,Instr.box,Sem.run_bind,newVar,newRow,run_newObj,Result.andThen_ok,Sem.run_pure,Array.toArray_toList]
 rfl
end
end Go.Abs
namespace Go.Abs
section
variable {P : Program} {V : Env} {w0 w : World} {M0 : BS} {n : Nat} {C0 C : Ctx} {s : St} {a : Act}
variable {R' : Type} {r : R'} {o : Oper} {c : Del → Option R'}
theorem Keeps.ahG{M:BS}{a' w w':World}(h:Keeps M a' w){ob:Obj}(h1:w'.heap=w.heap.push ob)(h2:w'.os=w.os)(h3:w'.tape=w.tape)(h4:w'.output=w.output):Keeps M a' w':=by
 refine ⟨h2.trans h.os,h3.trans h.tape,h4.trans h.output,by rw [h1];have:=h.size;simp;omega,fun b hb hm=>?_⟩
 rw [h1,Array.getElem?_push,if_neg (by have:=h.size;omega)]
 exact h.block b hb hm
theorem GJ(R:Rel w0 M0 n C0 C s a w){e:K}{xs:List e.den}{m:Mask}{u':U}{ks:List Kill}{q rd wr:List ay}{C1:Ctx}{G F0:BS}{v:Value}{w':World}
  (Fd:qP w C C1 s.roots (look s.roots u') ks G)
  (hr:(execOp a.eval o).run P w=.ok (.value v) w') (hkept:Keeps M0 w0 w') (hsz:w.heap.size≤w'.heap.size)
  (hblk:∀b,b<w.heap.size→¬G b→w'.heap[b]?=w.heap[b]?) (hF0:∀b,F0 b→G b∨w.heap.size≤b) (hF1:∀b,F0 b→b<w'.heap.size)
  (henc:Enc w' C.θ C.Z C.S (.sl e) m xs [v] F0) (hc:v.cells = #[v])
  (hptr:∀p∈aS (.sl e) xs,p∈q∨∃r' z,s.roots r'=some z∧p∈aS z.k z.d) (hpm:∀p∈q,∀y,s.roots p=some y→y.mem=true) :
  Does P w0 M0 n C0 s a w o ⟨.ref (loc (o.dst.getD 0) 0) [],(loc (o.dst.getD 0) 0,some ⟨false,.sl e,m,xs⟩)::u',true,ks,q,none,rd,wr,false⟩:=by
 intro hd hal next Q hn
 obtain ⟨d,hdst⟩:=Ea hal rfl
 unfold Oper.wp
 rw [hr]
 show next (a.put o.dst _) _
 rw [hdst] at hal hn ⊢
 simp only [Option.getD_some] at hal hn ⊢
 refine hn _ _ _ (R.fresh (hd d hdst) hal rfl rfl Fd (y0:=⟨false,.sl e,m,xs⟩) rfl (w':=w') (b0:=0) (vs0:=[v]) (F0:=F0) hkept hsz hblk hF0 hF1
  ⟨F0,henc,.refl _,fun h=>by cases h⟩ hptr hpm ?_)
 intro rs' hrs
 refine bH.mk ⟨v,rfl,fun y hy=>?_⟩ rfl hc
 rw [hrs] at hy;cases hy
 exact ⟨e,none,rfl,trivial,by rw [cZ,Ctx.with_ρ0];rfl⟩
theorem adg{z:Array Value}{N i:Nat}(h:(i+1)*z.size≤N):sub (madeCells z N) (i*z.size) z.size=z.toList:=by
 have hN:i*z.size+z.size≤N:=by rw [Nat.add_mul,Nat.one_mul] at h;exact h
 apply List.ext_getElem?
 intro j
 unfold sub
 rw [List.getElem?_take]
 by_cases hj:j<z.size
 ·rw [if_pos hj,List.getElem?_drop]
  simp only [madeCells,Array.toList_map,Array.toList_range,List.getElem?_map,Array.getElem?_toList]
  rw [List.getElem?_range (by omega)]
  simp only [Option.map_some]
  rw [show (i*z.size+j)%z.size=j by rw [Nat.mul_comm,Nat.mul_add_mod];exact Nat.mod_eq_of_lt hj]
  rw [Array.getElem?_eq_getElem hj,getElem!_pos z j hj]
 ·rw [if_neg hj]
  simp only [Array.getElem?_toList]
  rw [Array.getElem?_eq_none (by omega)]
theorem abQ.zeroOf{T:TypeId}{ti:TI}(h:abQ P V T ti):∃i z,P.info? T=some i∧i.size=ti.k.size∧i.bytes=ti.bytes∧i.zero=some z∧z.cells.toList=ti.k.zeroCells∧z.cells.size=ti.k.size:=by
 obtain ⟨i,z,h1,h2,h3,h4,h5⟩:=h.info
 exact ⟨i,z,h1,h2,h3,h4,h5,by rw [←Tx ti.k,←h5];simp⟩
theorem Pz:∀(k:K),aS k k.zero=[]:=by
 intro k
 induction k with
 |pair a b iha ihb=>simp [aS,K.zero,iha,ihb]
 |sl e _=>simp only [aS,K.zero];cases e.plain<;>rfl
 |_=>rfl
theorem ajC(nn:Int)(b:Nat)(h0:0≤nn)(h:nn*b≤140737488355328)(h1:1≤b):(b:Int)*nn≤281474976710656∧nn≤9223372036854775807:=by
 have:nn*1≤nn*(b:Int):=Int.mul_le_mul_of_nonneg_left (by omega) h0
 rw [Int.mul_comm (b:Int)]
 omega
theorem ab7(hT:gq P V)(R:Rel w0 M0 n C0 C s a w){t:TypeId}{l cp:Operand}(ho:o.op=.makeSlice t l cp)(h:bC V o s.tmps s.roots c=some r) :
  ∃x,c x=some r∧Does P w0 M0 n C0 s a w o x:=by
 simp only [bC,ho] at h
 split at h
 case h_2=>simp at h
 case h_1 e bytes el hti=>
 split at h
 case h_2=>simp at h
 rename_i te z1 nn z2 n' hte hl hcp
 split at h
 case isFalse=>simp at h
 case isTrue hcond=>
 obtain ⟨rfl,h0,hnn,hbytes,hb1⟩:=hcond
 subst hnn
 obtain ⟨d,hd,hdok⟩:=(hT.ty _ _ hti).desc
 obtain ⟨rfl,te',hte',_,hsz⟩:=hdok
 simp only at hte'
 rw [hte] at hte'
 cases hte'
 obtain ⟨i,z,hi,hs,hb,hz,hzc,hzs⟩:=(hT.ty _ _ hte).zeroOf
 have el1:a.eval l=.int .i64 nn:=by have:=R.eval l;rw [hl] at this;exact this.int
 have el2:a.eval cp=.int .i64 nn:=by have:=R.eval cp;rw [hcp] at this;exact this.int
 obtain ⟨haux1,haux2⟩:=ajC nn te.bytes h0 hbytes hb1
 have hrun:=run_make (P:=P) w t el i z hd hi hz .i64 .i64 nn nn h0 (Int.le_refl _) (by rw [hb];exact haux1) haux2
 have hrun':(execOp a.eval o).run P w=.ok (.value (.slice (some ⟨w.heap.size,0,none⟩) nn.toNat nn.toNat)) (w.alloc (.cells (madeCells z.cells (nn.toNat*i.size)) el)):=by
  simp only [execOp,ho,Sem.run_bind,el1,el2,hrun,Result.andThen_ok,Sem.run_pure]
 refine ⟨_,h,GJ (u':=[]) (ks:=[]) (q:=[]) (G:=noB) (F0:=fun b=>b=w.heap.size) R (.refl R.mem) hrun' (R.kept.ahG (ob:=.cells (madeCells z.cells (nn.toNat*i.size)) el) rfl rfl rfl rfl) (by simp)
  (fun b hb _=>heap_alloc_old w _ b hb) (fun b hb=>.inr (by omega)) (fun b hb=>by simp [hb]) ?_ rfl ?_ (by simp)⟩
 ·refine .inr (.inr ⟨by simp,w.heap.size,0,nn.toNat,madeCells z.cells (nn.toNat*i.size),el,(0,0),by simp,heap_alloc_new w _,by simp,?_,⟨rfl,rfl⟩,fun _=>noB,fun j=>⟨fun _ h=>h.elim,fun h=>h.elim⟩,fun _ _ _ _ h=>h.elim,fun j x hx=>?_⟩)
  ·rw [size_madeCells,hs];omega
  ·rw [List.getElem?_replicate] at hx
   split at hx
   case isFalse=>simp at hx
   case isTrue hj=>
   cases hx
   have:=adg (z:=z.cells) (N:=nn.toNat*i.size) (i:=j) (by rw [hzs,hs];exact Nat.mul_le_mul_right _ hj)
   rw [hzs] at this
   rw [Nat.zero_add,this,hzc]
   exact Enc.zero
 ·intro p hp
  simp only [aS] at hp
  cases hpl:te.k.plain with
  |true=>simp [hpl] at hp
  |false=>
   simp only [hpl,cond_false,List.mem_flatMap] at hp
   obtain ⟨y,hy,hp⟩:=hp
   rw [List.eq_of_mem_replicate hy,Pz] at hp
   cases hp
theorem aoa{sz:Nat}:∀(parts:List (Nat×Value))(j:Nat)(pre rest:List Value),(∀x∈parts,x.2.cells.size=sz)→(∀k x,parts[k]?=some x→x.1=j+k)→pre.length=j*sz→rest.length=parts.length*sz →
  Instr.fill (fun i=>some (i*sz,sz)) (pre++rest).toArray parts=some (pre++parts.flatMap fun x=>x.2.cells.toList).toArray:=by
 intro parts
 induction parts with
 |nil=>
  intro j pre rest _ _ _ hr
  have:rest=[]:=List.eq_nil_of_length_eq_zero (by simpa using hr)
  simp [Instr.fill,this]
 |cons x parts ih=>
  intro j pre rest hs hi hp hr
  obtain ⟨i,v⟩:=x
  have hi0:i=j:=hi 0 _ rfl
  subst hi0
  have hv:v.cells.size=sz:=hs (i,v) (by simp)
  have hr':rest.length=parts.length*sz+sz:=by rw [hr,List.length_cons,Nat.add_mul,Nat.one_mul]
  simp only [Instr.fill]
  rw [if_neg (by simp only [List.size_toArray,List.length_append,hv,hp,hr',ne_eq,not_true_eq_false,decide_false,Bool.false_or,decide_eq_true_eq];omega)]
  rw [afI _ _ _ (by simp only [List.size_toArray,List.length_append,hv,hp,hr'];omega)]
  have h4:bA (pre++rest).toArray (i*sz) v.cells.toList=((pre++v.cells.toList)++rest.drop sz).toArray:=by
   unfold bA
   apply Array.ext'
   simp only [←hp]
   rw [List.take_left,←List.drop_drop,List.drop_left]
   simp [hv]
  rw [h4,ih (i+1) (pre++v.cells.toList) (rest.drop sz) (fun x hx=>hs x (by simp [hx])) (fun k x hx=>by have:=hi (k+1) x (by simpa using hx);omega) (by simp [hp,hv,Nat.add_mul]) (by simp [hr'])]
  simp
theorem an5{sz:Nat}:∀(l:List (List Value))(i:Nat)(x:List Value),(∀y∈l,y.length=sz)→l[i]?=some x→(l.flatten.drop (i*sz)).take sz=x:=by
 intro l
 induction l with
 |nil=>intro i x _ h;simp at h
 |cons y l ih=>
  intro i x hs h
  have hy:=hs y (by simp)
  cases i with
  |zero=>
   simp only [List.getElem?_cons_zero,Option.some.injEq] at h
   subst h
   simp [←hy]
  |succ i=>
   simp only [List.getElem?_cons_succ] at h
   rw [List.flatten_cons,Nat.add_mul,Nat.one_mul,Nat.add_comm,←List.drop_drop,←hy,List.drop_left,hy]
   exact ih i x (fun y hy=>hs y (by simp [hy])) h
structure XQ(w:World)(C:Ctx)(rs:RF)(u:U)(e:K)(ds:List e.den)(m0 m:Option Mask)(vss:List (List Value))(u':U)(ee q:List ay)(G:Nat→BS):Prop where
 len:ds.length=vss.length
 keep:∀x,m0=some x→m=some x
 enc:∀i d,ds[i]?=some d→∃x vs,m=some x∧vss[i]?=some vs∧Enc w C.θ C.Z C.S e x d vs (G i)
 sub:∀i,Sub (G i) (FU C ee)
 disj:∀i j,i≠j→DI (G i) (G j)
 ended:∀r,dn r u'=if r∈ee then some none else dn r u
 was:∀r∈ee,∃x,rs r=some x∧True∧dn r u=none
 ptrs:∀d∈ds,∀r∈aS e d,r∈q∨∃r' x,rs r'=some x∧r∈aS x.k x.d
 pmem:∀r∈q,∀y,rs r=some y→y.mem=true
theorem aeG{rs:RF}(hM:Mem w C rs){e:K}:∀(l:List (AV×List Value)){u:U}{m0:Option Mask}{c:List e.den→Option Mask→U→List ay→List ay→Option R'},
  qw rs e (l.map (·.1)) u m0 c=some r→Jw u→(∀x∈l,AVC w C rs x.1 x.2) →
  ∃ds m u' ee q G,c ds m u' ee q=some r∧XQ w C rs u e ds m0 m (l.map (·.2)) u' ee q G:=by
 intro l
 induction l with
 |nil=>
  intro u m0 c h hu hl
  exact ⟨[],m0,u,[],[],fun _=>noB,h,rfl,fun x hx=>hx,by simp,fun _ _ h=>h.elim,fun _ _ _ _ h=>h.elim,fun r=>by simp,by simp,by simp,by simp⟩
 |cons x l ih=>
  intro u m0 c h hu hl
  simp only [List.map_cons,qw] at h
  obtain ⟨d,ma,u1,e1,q1,F,g1,A⟩:=KM hM x.1 h hu (hl x (by simp))
  have hu1:Jw u1:=by
   intro p y hp
   rw [A.ended] at hp
   split at hp
   ·exact (Option.some.inj hp).symm
   ·exact hu p y hp
  have hgo:∃ds m u' ee q G,c (d::ds) m u' (e1++ee) (q1++q)=some r∧XQ w C rs u1 e ds (some ma) m (l.map (·.2)) u' ee q G∧(∀x,m0=some x→ma=x):=by
   cases m0 with
   |none=>
    simp only at g1
    obtain ⟨ds,m,u',ee,q,G,k1,k2⟩:=ih g1 hu1 (fun x hx=>hl x (by simp [hx]))
    exact ⟨ds,m,u',ee,q,G,k1,k2,by simp⟩
   |some m1=>
    simp only at g1
    split at g1
    case isFalse=>simp at g1
    case isTrue hma=>
    subst hma
    obtain ⟨ds,m,u',ee,q,G,k1,k2⟩:=ih g1 hu1 (fun x hx=>hl x (by simp [hx]))
    exact ⟨ds,m,u',ee,q,G,k1,k2,by simp⟩
  obtain ⟨ds,m,u',ee,q,G,k1,B,k3⟩:=hgo
  have hdis:∀p∈e1,∀p'∈ee,p≠p':=by
   rintro p hp p' hp' rfl
   obtain ⟨_,_,_,h3⟩:=B.was p hp'
   rw [A.ended,if_pos hp] at h3;cases h3
  have hFd:∀b,FU C e1 b→FU C ee b→False:=by
   rintro b ⟨p,hp,hb⟩ ⟨p',hp',hb'⟩
   obtain ⟨y,hy,_⟩:=A.was p hp
   obtain ⟨y',hy',_⟩:=B.was p' hp'
   exact hM.disj p p' y y' hy hy' (hdis p hp p' hp') b hb hb'
  refine ⟨d::ds,m,u',e1++ee,q1++q,(fun i=>match i with|0=>F|i+1=>G i),k1,?_,?_,?_,?_,?_,?_,?_,?_,?_⟩
  ·simp [B.len]
  ·intro x hx;rw [←k3 x hx];exact B.keep ma rfl
  ·intro i y hy
   cases i with
   |zero=>
    simp only [List.getElem?_cons_zero,Option.some.injEq] at hy
    subst hy
    exact ⟨ma,x.2,B.keep ma rfl,rfl,A.enc⟩
   |succ i=>exact B.enc i y (by simpa using hy)
  ·intro i b hb
   cases i with
   |zero=>obtain ⟨p,hp,hb⟩:=A.sub b hb;exact ⟨p,by simp [hp],hb⟩
   |succ i=>obtain ⟨p,hp,hb⟩:=B.sub i b hb;exact ⟨p,by simp [hp],hb⟩
  ·intro i j hij b hb hb'
   cases i with
   |zero=>
    cases j with
    |zero=>exact hij rfl
    |succ j=>exact hFd b (A.sub b hb) (B.sub j b hb')
   |succ i=>
    cases j with
    |zero=>exact hFd b (A.sub b hb') (B.sub i b hb)
    |succ j=>exact B.disj i j (by omega) b hb hb'
  ·intro p
   rw [B.ended,A.ended]
   by_cases h1:p∈e1<;>by_cases h2:p∈ee<;>simp [h1,h2]
  ·intro p hp
   rcases List.mem_append.1 hp with hp|hp
   ·exact A.was p hp
   ·obtain ⟨y,h1,h2,h3⟩:=B.was p hp
    refine ⟨y,h1,h2,?_⟩
    rw [A.ended] at h3
    split at h3
    ·cases h3
    ·exact h3
  ·intro y hy p hp
   rcases List.mem_cons.1 hy with rfl|hy
   ·rcases A.ptrs p hp with h|⟨r',_,z,hz,h⟩
    ·exact .inl (by simp [h])
    ·exact .inr ⟨r',z,hz,h⟩
   ·rcases B.ptrs y hy p hp with h|h
    ·exact .inl (by simp [h])
    ·exact .inr h
  ·intro p hp
   rcases List.mem_append.1 hp with hp|hp
   ·exact A.pmem p hp
   ·exact B.pmem p hp
theorem ajk:∀(l:List (Nat×Operand))(j:Nat),V9 l j=true→∀k x,l[k]?=some x→x.1=j+k:=by
 intro l
 induction l with
 |nil=>intro j _ k x h;simp at h
 |cons y l ih=>
  intro j h k x hx
  simp only [V9,Bool.and_eq_true] at h
  cases k with
  |zero=>simp only [List.getElem?_cons_zero,Option.some.injEq] at hx;subst hx;exact Nat.eq_of_beq_eq_true h.1
  |succ k=>have:=ih _ h.2 k x (by simpa using hx);omega
theorem WR{t el:TypeId}{N:Nat}{parts:Array (Nat×Value)}{i:TypeInfo}{z:Value}(hu:P.underlying t=some (.slice el))(hi:P.info? el=some i)(hz:i.zero=some z)
  (hN:N*i.size≤16777216) {cs:Array Value} (hf:Instr.fill (fun j=>some (j*i.size,i.size)) (madeCells z.cells (N*i.size)) parts.toList=some cs) :
  (Instr.buildSlice t N parts).run P w=.ok (.slice (some ⟨w.heap.size,0,none⟩) N N) (World.push w (.cells cs el)):=by
 have hN':¬(16777216<N*i.size):=by omega
 unfold madeCells at hf
 by_cases h0:N*i.size=0
 ·simp [Instr.buildSlice,bO hu,sizeOf,typeInfo,hi,h0,Array.range_zero'] at hf ⊢
  simp [hf,newRow,World.push]
 ·simp [Instr.buildSlice,bO hu,sizeOf,typeInfo,zeroValue,hi,hz,h0,hN',hf,newRow,World.push]
theorem akD{n:Nat}:∀(l:List AV),XG n l=true→∀x∈l,x.size=some n:=by
 intro l
 induction l with
 |nil=>intro _ x hx;cases hx
 |cons y l ih=>
  intro h x hx
  simp only [XG,Bool.and_eq_true] at h
  rcases List.mem_cons.1 hx with rfl|hx
  ·cases hs:x.size with
   |none=>rw [hs] at h;simp at h
   |some m=>rw [hs] at h;rw [Nat.eq_of_beq_eq_true h.1]
  ·exact ih h.2 x hx
theorem Enc.ro'{w:World}{θ:ay→Nat}{Z S:BS}{z:Bool}(z':Bool){k:K}{d:k.den}{vs:List Value}{F G:BS}(h:Enc w θ Z S k (.imm z) d vs F):Enc w θ Z S k (.imm (z'&&z)) d vs G:=by
 rw [Bool.and_comm];exact h.ro z'
theorem agB{rs:RF}{e:K}:∀(l:List (AV×List Value)){ds:List e.den}{z:Option Bool},abT e (l.map (·.1))=some (ds,z)→(∀x∈l,AVC w C rs x.1 x.2) →
  ds.length=l.length∧(l≠[]→e.plain=true)∧∀(i:Nat)(d:e.den),ds[i]?=some d→∃(y:Bool) (vs:List Value),z=some y∧(l.map (·.2))[i]?=some vs∧Enc w C.θ C.Z C.S e (.imm y) d vs noB:=by
 intro l
 induction l with
 |nil=>intro ds z h _;simp only [List.map_nil,abT,Option.some.injEq,Prod.mk.injEq] at h;obtain ⟨rfl,rfl⟩:=h;simp
 |cons x l ih=>
  intro ds z h hl
  obtain ⟨av,vs⟩:=x
  have hx:=hl (av,vs) (by simp)
  simp only [List.map_cons] at h
  cases av<;>simp only [abT] at h<;>first|(simp at h;done)|skip
  rename_i z0 k d
  split at h
  ·simp at h
  ·rename_i ds' z' hd
   split at h
   case isFalse=>simp at h
   case isTrue hk=>
   subst hk
   simp only [Option.some.injEq,Prod.mk.injEq] at h
   obtain ⟨rfl,rfl⟩:=h
   obtain ⟨h1,h2,h3⟩:=ih hd (fun x hx=>hl x (by simp [hx]))
   refine ⟨by simp [h1],fun _=>hx.1,fun i y hy=>?_⟩
   cases i with
   |zero=>
    simp only [List.getElem?_cons_zero,Option.some.injEq] at hy
    subst hy
    refine ⟨_,vs,rfl,rfl,?_⟩
    have he:Enc w C.θ C.Z C.S k (.imm z0) d vs noB:=by have h4:=hx.2.ro (G:=noB) true;rwa [Bool.and_true] at h4
    cases z' with
    |none=>exact he
    |some z'=>exact he.ro z'
   |succ i=>
    obtain ⟨y',vs',rfl,g1,g2⟩:=h3 i y (by simpa using hy)
    exact ⟨_,vs',rfl,by simpa using g1,g2.ro' z0⟩
theorem abS{rs:RF}(hM:Mem w C rs){e:K}(l:List (AV×List Value)){c:List e.den→Option Mask→U→List ay→List ay→Option R'}
  (h:qR rs e (l.map (·.1)) c=some r) (hl:∀x∈l,AVC w C rs x.1 x.2) :
  ∃ds m u' ee q G,c ds m u' ee q=some r∧XQ w C rs [] e ds none m (l.map (·.2)) u' ee q G:=by
 unfold qR at h
 split at h
 ·rename_i ds z hz
  obtain ⟨h1,h2,h3⟩:=agB l hz hl
  have hne:ds≠[]→l≠[]:=by rintro h rfl;simp at h1;exact h h1
  refine ⟨ds,_,[],[],[],fun _=>noB,h,by simp [h1],(fun x hx=>nomatch hx),fun i d hd=>?_,fun _ _ x=>x.elim,fun _ _ _ _ x=>x.elim,fun r=>by simp,by simp,fun d hd r hr=>?_,by simp⟩
  ·obtain ⟨y,vs,g1,g2,g3⟩:=h3 i d hd
   cases g1
   refine ⟨_,vs,rfl,g2,?_⟩
   unfold Mask.ro
   cases hf:e.flat with
   |true=>exact Enc.flat hf g3
   |false=>exact g3
  ·rw [bV d (h2 (hne (by rintro rfl;cases hd)))] at hr;cases hr
 ·exact aeG hM l h L8 hl
theorem aoP{t:TypeId}{b:Bool}(h:aiu P t=some b):(Go.isAgg t).run P w=.ok b w:=by
 unfold aiu at h
 split at h<;>first|(simp at h;done)|skip
 all_goals (rename_i hu;simp only [Option.some.injEq] at h;subst h;unfold Go.isAgg;simp only [Sem.run_bind,bO hu,Result.andThen_ok])
 all_goals first|rfl|(split<;>first|rfl|(rename_i h1 h2;simp_all))
theorem alD:∀(f:Nat){k:K}{fs:List Field}{off0:Nat}{x:K×Nat},uJ P fs k off0→k.agf f=some x→∃fd,fs[f]?=some fd∧fd.offset=off0+x.2∧aiu P fd.type=some x.1.isAgg:=by
 intro f
 induction f with
 |zero=>
  intro k fs off0 x h hk
  cases k<;>simp only [K.agf,Option.some.injEq] at hk<;>first|(simp at hk;done)|skip
  subst hk
  cases fs with
  |nil=>exact h.elim
  |cons fd fs=>obtain ⟨h1,h2,⟨i,h3,h4,h6⟩,h5⟩:=h;exact ⟨fd,rfl,h1,h6⟩
 |succ f ih=>
  intro k fs off0 x h hk
  cases k<;>simp only [K.agf] at hk<;>first|(simp at hk;done)|skip
  split at hk
  ·rename_i y hy
   simp only [Option.some.injEq] at hk
   subst hk
   cases fs with
   |nil=>exact h.elim
   |cons fd fs=>
    obtain ⟨h1,h2,h3,h5⟩:=h
    obtain ⟨fd',g1,g2,g3⟩:=ih h5 hy
    exact ⟨fd',by simpa using g1,by simp only [g2];omega,g3⟩
  ·simp at hk
theorem Sv{rs:RF}:∀(n:Nat){a:AV}{x:AV×Nat}{vs:List Value},kE a n=some x→AVC w C rs a vs→a.agg=true∧∃u v y,vs=u++v++y∧u.length=x.2∧AVC w C rs x.1 v:=by
 intro n
 induction n with
 |zero=>
  intro a x vs h ha
  cases a with
  |pair a b=>
   simp only [kE,Option.some.injEq] at h;subst h
   obtain ⟨v1,v2,rfl,h1,h2⟩:=ha
   exact ⟨rfl,[],v1,v2,by simp,rfl,h1⟩
  |imm z k d=>
   cases k<;>simp only [kE,Option.some.injEq] at h<;>first|(simp at h;done)|skip
   subst h
   obtain ⟨hp,v1,v2,F1,F2,rfl,s1,s2,dj,h1,h2⟩:=ha
   simp only [K.plain,Bool.and_eq_true] at hp
   exact ⟨rfl,[],v1,v2,by simp,rfl,hp.1,h1.mono (.refl _) (.refl _) (fun _ x=>s1 _ x) (fun _ _=>rfl) (fun _ _=>rfl)⟩
  |_=>simp [kE] at h
 |succ n ih=>
  intro a x vs h ha
  cases a with
  |pair a b=>
   simp only [kE] at h
   split at h
   ·rename_i m y hm hy
    simp only [Option.some.injEq] at h;subst h
    obtain ⟨v1,v2,rfl,h1,h2⟩:=ha
    obtain ⟨_,u,v,y',rfl,g1,g2⟩:=ih hy h2
    exact ⟨rfl,v1++u,v,y',by simp,by simp [g1,h1.size hm],g2⟩
   ·simp at h
  |imm z k d=>
   cases k<;>simp only [kE] at h<;>first|(simp at h;done)|skip
   split at h
   ·rename_i y hy
    simp only [Option.some.injEq] at h;subst h
    obtain ⟨hp,v1,v2,F1,F2,rfl,s1,s2,dj,h1,h2⟩:=ha
    simp only [K.plain,Bool.and_eq_true] at hp
    obtain ⟨_,u,v,y',rfl,g1,g2⟩:=ih hy ⟨hp.2,h2.mono (.refl _) (.refl _) (fun _ x=>s2 _ x) (fun _ _=>rfl) (fun _ _=>rfl)⟩
    exact ⟨rfl,v1++u,v,y',by simp,by simp [g1,h1.len],g2⟩
   ·simp at h
  |_=>simp [kE] at h
theorem alf(hT:gq P V)(R:Rel w0 M0 n C0 C s a w){t:TypeId}{x:Operand}{f:Nat}(ho:o.op=.field t x f)(h:bC V o s.tmps s.roots c=some r) :
  ∃x,c x=some r∧Does P w0 M0 n C0 s a w o x:=by
 simp only [bC,ho] at h
 split at h
 case h_2=>simp at h
 case h_1 k v hk hv=>
 obtain ⟨k0,hk0,hk⟩:=Option.bind_eq_some_iff.1 hk
 obtain ⟨ti,hti,rfl⟩:=Env.wz hk0
 obtain ⟨d,hd,hD⟩:=(hT.ty _ _ hti).desc
 cases hc:(Nat.beq k.2 v.2&&!k.1.isAgg) with
 |false=>rw [hc] at h;simp at h
 |true=>
 rw [hc] at h
 simp only [cond_true] at h
 simp only [Bool.and_eq_true,Bool.not_eq_true'] at hc
 obtain ⟨ho2,hagg⟩:=hc
 have ho2:=Nat.eq_of_beq_eq_true ho2
 obtain ⟨fs,rfl,hF⟩:∃fs,d=.struct fs∧uJ P fs.toList ti.k 0:=by
  unfold DOK at hD
  cases hti:ti.k<;>simp only [hti] at hD hk
  case pair a b=>exact hD
  all_goals (cases f<;>simp [K.agf] at hk)
 obtain ⟨fd,g1,g2,g3⟩:=alD f hF hk
 have hx:=R.eval x
 have hcells:∃vs,a.eval x=.agg vs.toArray∧AVC w C s.roots (bf s.tmps x) vs:=by
  rcases hx with (hx|⟨_,vs,h1,h2⟩|⟨hg,h2,_⟩)|⟨vs,_,ht⟩
  ·rw [hx] at hv;cases f<;>simp [kE] at hv
  ·exact ⟨vs,h1,h2⟩
  ·have:=(Sv f hv h2).1;rw [hg] at this;cases this
  ·cases he:bf s.tmps x<;>rw [he] at ht hv<;>first|exact ht.elim|(cases f<;>simp [kE] at hv)
 obtain ⟨vs,hvs,hA⟩:=hcells
 obtain ⟨_,u,mid,y,rfl,hu,hm⟩:=Sv f hv hA
 have hrun:∀v0,mid=[v0]→(execOp a.eval o).run P w=.ok (.value v0) w:=by
  rintro v0 rfl
  have hf':fs[f]?=some fd:=by rw [←g1];simp
  have hget:(u++[v0]++y).toArray[fd.offset]?=some v0:=by
   rw [g2,Nat.zero_add,ho2,←hu];simp
  simp only [execOp,ho,hvs,Instr.field,Sem.run_bind,bO hd,Result.andThen_ok,hf',asAgg,Sem.run_pure,Go.part,aoP g3,hagg,hget]
  simp
 unfold KR at h
 split at h
 ·rename_i z k' d' hv'
  cases hag:k'.isAgg with
  |true=>rw [hag] at h;simp at h
  |false=>
  rw [hag] at h
  rw [hv'] at hm
  have hl:=hm.2.len
  rw [K.aeo hag] at hl
  obtain ⟨v0,rfl⟩:=List.length_eq_one_iff.1 hl
  refine ⟨_,h,Does.plain R (hrun v0 rfl) (bH.mk hm hag ?_)⟩
  have h5:=hm.2.cellV (fun e _=>by simp) hag
  have h6:=(sj (k:=k') (vs:=[v0]) (by simp [K.aeo hag])).2 hag
  simp only [List.cons.injEq,and_true] at h6
  rw [←h6] at h5;exact h5
 ·rename_i q p e hv' hk'
  rw [hv'] at hm
  obtain ⟨v0,rfl,hroot⟩:=hm
  unfold iB at h
  simp only at h
  split at h
  case h_1=>simp at h
  case h_2 x hx=>
  have hx:s.roots q=some x:=hx
  obtain ⟨k',d,m,vs,b1,hp,hc⟩:=iw (R.mem.ok _ _ hx) h
  obtain ⟨e',base,g1,g2,g3⟩:=hroot x hx
  split at hc
  case isFalse=>simp at hc
  case isTrue hk=>
  subst hk
  cases hl:m.live with
  |false=>simp [hl] at hc
  |true=>
  simp only [hl,cond_true] at hc
  have:=hp.lc;rw [g3] at this
  simp only [Option.some.injEq,Prod.mk.injEq] at this
  obtain ⟨rfl,rfl⟩:=this
  obtain ⟨F,henc⟩:=hp.enc
  obtain ⟨a',cap,h1,h2,_⟩:=yX henc (Mask.qD hl)
  exact ⟨_,hc,Does.plain R (hrun v0 rfl) (bH.mk ⟨v0,rfl,hroot⟩ rfl (by rw [h1];rfl))⟩
 ·simp at h
theorem aaN(hT:gq P V)(R:Rel w0 M0 n C0 C s a w){t:TypeId}{N:Nat}{parts:Array (Nat×Operand)}(ho:o.op=.buildSlice t N parts)(h:bC V o s.tmps s.roots c=some r) :
  ∃x,c x=some r∧Does P w0 M0 n C0 s a w o x:=by
 simp only [bC,ho] at h
 split at h
 case h_2=>simp at h
 case h_1 e bytes el hti=>
 split at h
 case h_1=>simp at h
 case h_2 te hte=>
 cases hchk:(Nat.beq N parts.toList.length&&V9 parts.toList 0&&decide (te.k=e)&&Nat.ble (N*e.size) 1000000&&XG e.size (parts.toList.map fun x=>bf s.tmps x.2)) with
 |false=>rw [hchk] at h;simp at h
 |true=>
 rw [hchk] at h
 simp only [cond_true] at h
 simp only [Bool.and_eq_true,decide_eq_true_eq] at hchk
 obtain ⟨⟨⟨⟨hN,hord⟩,rfl⟩,hbig⟩,hsizes⟩:=hchk
 have hN:=Nat.eq_of_beq_eq_true hN
 have hbig:=Nat.le_of_ble_eq_true hbig
 obtain ⟨d,hd,hdok⟩:=(hT.ty _ _ hti).desc
 obtain ⟨rfl,te',hte',_,hsz⟩:=hdok
 simp only at hte'
 rw [hte] at hte'
 cases hte'
 obtain ⟨i,z,hi,hs,hb,hz,hzc,hzs⟩:=(hT.ty _ _ hte).zeroOf
 have hcell:∀x∈parts.toList,AVC w C s.roots (bf s.tmps x.2) (a.eval x.2).cells.toList∧(a.eval x.2).cells.size=te.k.size:=
  fun x hx=>(R.eval x.2).cells (akD _ hsizes _ (List.mem_map.2 ⟨x,hx,rfl⟩))
 have hlist:(parts.toList.map fun x=>bf s.tmps x.2)=(parts.toList.map fun x=>(bf s.tmps x.2,(a.eval x.2).cells.toList)).map (·.1):=by simp [Function.comp_def]
 rw [hlist] at h
 obtain ⟨ds,m,u',ee,q,G,g1,A⟩:=abS R.mem _ h (fun x hx=>by
  simp only [List.mem_map] at hx
  obtain ⟨y,hy,rfl⟩:=hx
  exact (hcell y hy).1)
 rw [←hlist] at g1
 have hvss:(parts.toList.map fun x=>(bf s.tmps x.2,(a.eval x.2).cells.toList)).map (·.2)=parts.toList.map fun x=>(a.eval x.2).cells.toList:=by simp [Function.comp_def]
 rw [hvss] at A
 have hdl:ds.length=N:=by rw [A.len,hN];simp
 have hfill:=aoa (sz:=i.size) (parts.toList.map fun x=>(x.1,a.eval x.2)) 0 [] (madeCells z.cells (N*i.size)).toList
  (fun x hx=>by
   simp only [List.mem_map] at hx
   obtain ⟨y,hy,rfl⟩:=hx
   rw [hs];exact (hcell y hy).2)
  (fun k x hx=>by
   rw [List.getElem?_map] at hx
   cases hp:parts.toList[k]? with
   |none=>rw [hp] at hx;simp at hx
   |some y=>rw [hp] at hx;simp only [Option.map_some,Option.some.injEq] at hx;subst hx;exact ajk _ _ hord k y hp)
  (by simp) (by simp [size_madeCells,hN])
 simp only [List.nil_append,Array.toArray_toList] at hfill
 have hrun:(execOp a.eval o).run P w=.ok (.value (.slice (some ⟨w.heap.size,0,none⟩) N N)) (World.push w (.cells ((parts.toList.map fun x=>(x.1,a.eval x.2)).flatMap fun x=>x.2.cells.toList).toArray el)):=by
  simp only [execOp,ho,Sem.run_bind]
  rw [WR (parts:=parts.map fun (i,x)=>(i,a.eval x)) hd hi hz (by rw [hs];omega) (by rw [Array.toList_map];exact hfill)]
  rfl
 have Fd:qP w C C s.roots (look s.roots u') (ofs ee) (FU C ee):=by
  refine qP.ofs R.mem (fun q hq=>by obtain ⟨y,hy,_⟩:=A.was q hq;exact ⟨y,hy⟩) (fun q=>?_)
  unfold look
  rw [A.ended]
  by_cases h:q∈ee
  ·rw [if_pos h,if_pos h]
  ·rw [if_neg h,if_neg h];rfl
 have hlt:∀b,FU C ee b→b<w.heap.size:=fun b hb=>(Fd.free R.mem hb).2.2
 refine ⟨_,g1,GJ (F0:=fun b=>FU C ee b∨b=w.heap.size) R Fd hrun (R.kept.push _) (by rw [xB];omega) (fun b hb _=>BP _ _ hb)
  (fun b hb=>hb.imp id (fun h=>by omega)) (fun b hb=>by rw [xB];rcases hb with hb|hb;(have:=hlt b hb;omega);omega) ?_ rfl ?_ A.pmem⟩
 ·have hflat:((parts.toList.map fun x=>(x.1,a.eval x.2)).flatMap fun x=>x.2.cells.toList)=(parts.toList.map fun x=>(a.eval x.2).cells.toList).flatten:=by
   simp [List.flatMap,Function.comp_def]
  have hall:∀y∈(parts.toList.map fun x=>(a.eval x.2).cells.toList),y.length=te.k.size:=by
   intro y hy
   simp only [List.mem_map] at hy
   obtain ⟨x,hx,rfl⟩:=hy
   simpa using (hcell x hx).2
  have hlen:∀(l:List (List Value)),(∀y∈l,y.length=te.k.size)→l.flatten.length=l.length*te.k.size:=by
   intro l
   induction l with
   |nil=>intro _;simp
   |cons y l ih=>intro hh;rw [List.flatten_cons,List.length_append,ih (fun y hy=>hh y (by simp [hy])),hh y (by simp),List.length_cons,Nat.add_mul];omega
  have hne:(bif te.k.flat then Mask.own else Mask.Wt (m.getD .own))≠.gone:=by
   cases te.k.flat
   ·simp only [cond_false];cases m.getD .own<;>simp [Mask.Wt]
   ·simp
  refine .inr (.inr ⟨hne,w.heap.size,0,N,_,el,(0,0),by rw [hdl],adC _ _,by omega,?_,?_,G,fun j=>⟨fun b hb=>.inl (A.sub j b hb),fun hb=>by have:=hlt _ (A.sub j _ hb);omega⟩,A.disj,fun j x hx=>?_⟩)
  ·rw [hflat]
   simp only [List.size_toArray,Nat.zero_add]
   rw [hlen _ hall,List.length_map,hN];exact Nat.le_refl _
  ·cases te.k.flat
   ·simp only [cond_false];cases m.getD .own<;>simp [Mask.Wt,Og]
   ·simp [Og]
  ·obtain ⟨x0,vs,h1,h2,h3⟩:=A.enc j x hx
   have hsub:sub ((parts.toList.map fun x=>(x.1,a.eval x.2)).flatMap fun x=>x.2.cells.toList).toArray (0+j*te.k.size) te.k.size=vs:=by
    unfold sub
    rw [hflat,Nat.zero_add]
    exact an5 _ j vs hall h2
   rw [hsub]
   have h4:=h3.mono (w':=World.push w (.cells ((parts.toList.map fun x=>(x.1,a.eval x.2)).flatMap fun x=>x.2.cells.toList).toArray el)) (.refl _) (.refl _) (.refl _) (fun b hb=>BP _ _ (by
    rcases hb with hb|hb
    ·exact hlt b (A.sub j b hb)
    ·exact R.mem.ro b hb)) (fun _ _=>rfl)
   cases hf:te.k.flat with
   |true=>exact Enc.flat hf h4
   |false=>
    simp only [cond_false,h1,Option.getD_some]
    have:(Mask.Wt x0).elem=x0:=by cases x0<;>rfl
    rw [this];exact h4
 ·intro p hp
  simp only [aS] at hp
  cases hpl:te.k.plain with
  |true=>simp [hpl] at hp
  |false=>
   simp only [hpl,cond_false,List.mem_flatMap] at hp
   obtain ⟨y,hy,hp⟩:=hp
   exact A.ptrs y hy p hp
end
end Go.Abs
namespace Go.Abs
section
variable {P : Program} {V : Env} {w0 w : World} {M0 : BS} {n : Nat} {C0 C : Ctx} {s : St} {a : Act}
variable {R' : Type} {r : R'} {o : Oper} {c : Del → Option R'}
theorem IB{N b:Nat}(h:N*b≤70368744177664)(h1:1≤b):N≤70368744177664:=by
 have:N*1≤N*b:=Nat.mul_le_mul_left _ h1
 omega
theorem afk{ts:Array TypeId}{t t2 ty el:TypeId}{d2:TypeDesc}{i:TypeInfo}(ht1:ts[0]?=some t)(ht2:ts[1]?=some t2)(hu:P.underlying t=some (.slice el))(hu2:P.underlying t2=some d2)(hd2:(∃e2,d2=.slice e2)∨d2=.string)(hi:P.info? el=some i)
  {a1:Option Addr} {n1 c1 n2:Nat} {v2:Value} {news:List Value} (hl2:∀w',(Builtin.lenOf v2).run P w'=.ok n2 w') (hf2:(Builtin.firstCells i.size n2 v2).run P w=.ok news.toArray w)
  (hroom:n1+n2≤c1) {w':World} (hst:(match a1 with|some ad=>storeCells (ad.add (n1*i.size)) news|none=>pure ()).run P w=.ok () w') :
  (Builtin.append_ ts ty #[.slice a1 n1 c1,v2]).run P w=.ok (.slice a1 (n1+n2) c1) w':=by
 cases a1 with
 |none=>
  simp only [Sem.run_pure,Result.ok.injEq,true_and] at hst
  subst hst
  rcases hd2 with ⟨e2,rfl⟩|rfl<;>simp [Builtin.append_,ht1,ht2,run_underlying hu,run_underlying hu2,sizeOf,typeInfo,hi,hl2,hroom,hf2]
 |some ad=>
  simp only at hst
  rcases hd2 with ⟨e2,rfl⟩|rfl<;>simp [Builtin.append_,ht1,ht2,run_underlying hu,run_underlying hu2,sizeOf,typeInfo,hi,hl2,hroom,hf2,hst]
theorem adK{ts:Array TypeId}{t t2 ty el:TypeId}{d2:TypeDesc}{i:TypeInfo}{z:Value}(ht1:ts[0]?=some t)(ht2:ts[1]?=some t2)(hu:P.underlying t=some (.slice el))(hu2:P.underlying t2=some d2)(hd2:(∃e2,d2=.slice e2)∨d2=.string)(hi:P.info? el=some i)(hz:i.zero=some z)
  {a1:Option Addr} {n1 c1 n2:Nat} {v2:Value} {olds news:List Value} (hl2:∀w',(Builtin.lenOf v2).run P w'=.ok n2 w') (hf2:∀w',w'.heap=w.heap→(Builtin.firstCells i.size n2 v2).run P w'=.ok news.toArray w')
  (hf1:∀w',w'.heap=w.heap→(Builtin.firstCells i.size n1 (.slice a1 n1 c1)).run P w'=.ok olds.toArray w')
  (hroom:c1<n1+n2) (hb:(n1+n2)*i.bytes≤70368744177664) (hb1:1≤i.bytes) :
  ∃cap,n1+n2≤cap∧(Builtin.append_ ts ty #[.slice a1 n1 c1,v2]).run P w=.ok (.slice (some ⟨w.heap.size,0,none⟩) (n1+n2) cap)
   (w.drew.alloc (.cells ((olds++news).toArray++Builtin.zeroCells z.cells (cap-(n1+n2))) el)):=by
 refine ⟨grownCap w (n1+n2) c1 el,grownCap_ge w _ _ _,?_⟩
 have hn:¬(n1+n2≤c1):=by omega
 have h63:¬(9223372036854775807<((n1:Int)+(n2:Int))):=by have:=IB hb hb1;omega
 have h48:¬(281474976710656<Builtin.nextslicecap (n1+n2) c1*i.bytes):=by have:=growslice_fits (old:=c1) hroom (by omega:(n1+n2)*i.bytes≤140737488355328);omega
 have h1:=hf1 w.drew rfl
 have h2:=hf2 w.drew rfl
 rcases hd2 with ⟨e2,rfl⟩|rfl <;>
  simp [Builtin.append_,ht1,ht2,run_underlying hu,run_underlying hu2,sizeOf,typeInfo,zeroValue,hi,hz,hl2,hn,h63,h48,Question.forced,h1,h2,newRow,grownCap]<;>congr 2<;>apply Array.ext'<;>simp
theorem Enc.one{θ:ay→Nat}{Z S:BS}:∀{k:K}{m:Mask}{d:k.den}{vs:List Value}{F:BS},Enc w θ Z S k m d vs F→m.live=true→∀v∈vs,v.oneCell'=true:=by
 intro k
 induction k with
 |pair a b iha ihb=>
  intro m d vs F h hl v hv
  obtain ⟨v1,v2,F1,F2,rfl,_,_,_,h1,h2⟩:=h
  rcases List.mem_append.1 hv with hv|hv
  ·exact iha h1 (Mask.ajx hl) v hv
  ·exact ihb h2 (Mask.ajy hl) v hv
 |sl e _=>
  intro m d vs F h hl v hv
  rcases h with ⟨h,_⟩|⟨_,_,a,rfl⟩|⟨_,_,_,_,_,_,_,rfl,_⟩
  ·exact absurd h (Mask.qD hl)
  ·simp only [List.mem_singleton] at hv;subst hv;rfl
  ·simp only [List.mem_singleton] at hv;subst hv;rfl
 |ptr=>
  intro m d vs F h hl v hv
  simp only [Enc] at h;subst h
  simp only [List.mem_singleton] at hv;subst hv
  cases d<;>rfl
 |fn=>
  intro m d vs F h hl v hv
  simp only [Enc] at h;subst h
  simp only [List.mem_singleton] at hv;subst hv
  cases d<;>rfl
 |_=>
  intro m d vs F h hl v hv
  simp only [Enc] at h;subst h
  simp only [List.mem_singleton,List.not_mem_nil] at hv
  try (subst hv;rfl)
theorem aj3{sz N:Nat}{cells:List Value}(hl:cells.length=N*sz){p:Value→Prop}(h:∀i,i<N→∀v∈(cells.drop (i*sz)).take sz,p v):∀v∈cells,p v:=by
 intro v hv
 obtain ⟨j,hj,rfl⟩:=List.getElem_of_mem hv
 have hsz:0<sz:=by
  rcases Nat.eq_zero_or_pos sz with rfl|hp
  ·rw [hl] at hj;simp at hj
  ·exact hp
 refine h (j/sz) (by rw [Nat.div_lt_iff_lt_mul hsz];omega) _ ?_
 rw [List.mem_iff_getElem?]
 refine ⟨j%sz,?_⟩
 rw [List.getElem?_take,if_pos (Nat.mod_lt _ hsz),List.getElem?_drop,Nat.mul_comm,Nat.div_add_mod]
 exact List.getElem?_eq_getElem hj
structure Row(P:Program)(w:World)(θ:ay→Nat)(Z S:BS)(e:K)(m:Mask)(xs:List e.den)(v:Value)(cells:List Value)(G:Nat→BS)(F:BS):Prop where
 len:cells.length=xs.length*e.size
 enc:∀i x,xs[i]?=some x→Enc w θ Z S e m x ((cells.drop (i*e.size)).take e.size) (G i)
 sub:∀i,Sub (G i) F
 disj:∀i j,i≠j→DI (G i) (G j)
 first:∀w',w'.heap=w.heap→(Builtin.firstCells e.size xs.length v).run P w'=.ok cells.toArray w'
structure atN(w:World)(θ:ay→Nat)(Z S:BS)(e:K)(m:Mask)(xs:List e.den)(cells:List Value)(G:Nat→BS)(F:BS):Prop where
 len:cells.length=xs.length*e.size
 enc:∀i x,xs[i]?=some x→Enc w θ Z S e m x ((cells.drop (i*e.size)).take e.size) (G i)
 sub:∀i,Sub (G i) F
 disj:∀i j,i≠j→DI (G i) (G j)
theorem Row.cells{θ:ay→Nat}{Z S:BS}{e:K}{m:Mask}{xs:List e.den}{v:Value}{cells:List Value}{G:Nat→BS}{F:BS}(h:Row P w θ Z S e m xs v cells G F):atN w θ Z S e m xs cells G F:=⟨h.len,h.enc,h.sub,h.disj⟩
structure akQ(P:Program)(w:World)(ts:Array TypeId)(ty el:TypeId)(i:TypeInfo)(z v2:Value)(n2:Nat)(news:List Value):Prop where
 hin:∀{a1:Option Addr}{n1 c1:Nat}{w':World},n1+n2≤c1→(n1+n2)*i.bytes≤70368744177664→(match a1 with|some ad=>storeCells (ad.add (n1*i.size)) news|none=>pure ()).run P w=.ok () w' →
  (Builtin.append_ ts ty #[.slice a1 n1 c1,v2]).run P w=.ok (.slice a1 (n1+n2) c1) w'
 hout:∀{a1:Option Addr}{n1 c1:Nat}{olds:List Value},(∀w',w'.heap=w.heap→(Builtin.firstCells i.size n1 (.slice a1 n1 c1)).run P w'=.ok olds.toArray w')→c1<n1+n2→(n1+n2)*i.bytes≤70368744177664 →
  ∃cap,n1+n2≤cap∧(Builtin.append_ ts ty #[.slice a1 n1 c1,v2]).run P w=.ok (.slice (some ⟨w.heap.size,0,none⟩) (n1+n2) cap)
   (w.drew.alloc (.cells ((olds++news).toArray++Builtin.zeroCells z.cells (cap-(n1+n2))) el))
theorem agP(P:Program){θ:ay→Nat}{Z S:BS}{e:K}{m:Mask}{xs:List e.den}{v:Value}{F:BS}(h:Enc w θ Z S (.sl e) m xs [v] F)(hm:m≠.gone) :
  ∃ad cap cells G,v=.slice ad xs.length cap∧xs.length≤cap∧Row P w θ Z S e m.elem xs v cells G F ∧
   ((cap=0∧xs=[])∨∃b off cs T fz,ad=some ⟨b,off,none⟩∧w.heap[b]?=some (.cells cs T fz)∧off+cap*e.size≤cs.size∧Og Z S F b fz m∧(∀i,¬G i b)∧cells=Go.Abs.sub cs off (xs.length*e.size)):=by
 rcases h with ⟨h,_⟩|⟨_,rfl,ad,h⟩|⟨_,b,off,cap,cs,T,fz,h,hc,hle,hs,hok,G,hG,hd,he⟩
 ·exact absurd h hm
 ·simp only [List.cons.injEq,and_true] at h
  subst h
  refine ⟨ad,0,[],fun _=>noB,rfl,Nat.le_refl _,⟨by simp,by simp,fun _ _ h=>h.elim,fun _ _ _ _ h=>h.elim,fun w' _=>?_⟩,.inl ⟨rfl,rfl⟩⟩
  cases ad with
  |none=>exact run_firstCells_none _ _ _ _ _
  |some ad=>exact run_firstCells_some w' _ _ ad 0 0 [] (by simp) (by simp)
 ·simp only [List.cons.injEq,and_true] at h
  subst h
  have hmul:xs.length*e.size≤cap*e.size:=Nat.mul_le_mul_right _ hle
  have hlen:(Go.Abs.sub cs off (xs.length*e.size)).length=xs.length*e.size:=pG (by omega)
  refine ⟨_,cap,Go.Abs.sub cs off (xs.length*e.size),G,rfl,hle,⟨hlen,fun i x hx=>?_,fun i=>(hG i).1,hd,fun w' hw'=>?_⟩,.inr ⟨b,off,cs,T,fz,rfl,hc,hs,hok,fun i=>(hG i).2,rfl⟩⟩
  ·have hi:i<xs.length:=(List.getElem?_eq_some_iff.1 hx).1
   have hmul2:i*e.size+e.size≤xs.length*e.size:=by have:=Nat.mul_le_mul_right e.size hi;rw [Nat.succ_mul] at this;exact this
   have:((Go.Abs.sub cs off (xs.length*e.size)).drop (i*e.size)).take e.size=Go.Abs.sub cs (off+i*e.size) e.size:=by
    rw [XJ,XK (by omega)]
   rw [this];exact he i x hx
  ·refine run_firstCells_some w' _ _ _ _ _ _ hlen fun j u hj=>?_
   have hl:Gc w' (Go.Abs.sub cs off (xs.length*e.size)) (some (b,off)):=⟨cs,T,fz,by rw [hw'];exact hc,by rw [hlen];omega,by rw [hlen]⟩
   have:=YI hl hj
   rw [addr_add];exact this
theorem Zz{θ:ay→Nat}{Z S:BS}{ts:Array TypeId}{ty el:TypeId}{i:TypeInfo}{z:Value}{e:K}
  (his:i.size=e.size) (hzs:z.cells.size=e.size) {xs ys:List e.den} {ma me m:Mask} {v1 v2:Value} {F1 F2:BS} {news:List Value} (H:akQ P w ts ty el i z v2 ys.length news)
  (h1:Enc w θ Z S (.sl e) ma xs [v1] F1) (hown:ma.dU=true) {G2:Nat→BS} (h2:atN w θ Z S e me ys news G2 F2) (hone:∀v∈news,v.oneCell'=true) (hm:m.dU=true)
  (c1:∀(w':World)(x:e.den)(vs:List Value)(G:BS),x∈xs→Enc w' θ Z S e ma.elem x vs G→Enc w' θ Z S e m.elem x vs G)
  (c2:∀(w':World)(x:e.den)(vs:List Value)(G:BS),x∈ys→Enc w' θ Z S e me x vs G→Enc w' θ Z S e m.elem x vs G)
  (hdj:DI F1 F2) (hF1:∀b,F1 b→¬Z b∧¬S b∧b<w.heap.size) (hF2:∀b,F2 b→b<w.heap.size) (hro:∀b,Z b∨S b→b<w.heap.size)
  (hb:(xs.length+ys.length)*i.bytes≤70368744177664) {M:BS} {a':World} (hk:Keeps M a' w) (hMF:∀b,F1 b→a'.heap.size≤b∨M b) :
  ∃v' w',(Builtin.append_ ts ty #[v1,v2]).run P w=.ok v' w'∧Keeps M a' w'∧w.heap.size≤w'.heap.size∧(∀b,b<w.heap.size→¬F1 b→w'.heap[b]?=w.heap[b]?)∧v'.cells = #[v'] ∧
   ∃F0,Enc w' θ Z S (.sl e) m (xs++ys) [v'] F0∧(∀b,F0 b→(F1 b∨F2 b)∨w.heap.size≤b)∧(∀b,F0 b→b<w'.heap.size):=by
 have hne:ma≠.gone:=by rintro rfl;simp [Mask.dU] at hown
 have hmne:m≠.gone:=by rintro rfl;simp [Mask.dU] at hm
 obtain ⟨ad,cap,olds,G1,rfl,hcap,R1,hcase⟩:=agP P h1 hne
 have hF1s:∀j b,G1 j b→F1 b:=fun j=>R1.sub j
 by_cases hroom:xs.length+ys.length≤cap
 ·-- there is room
  rcases hcase with ⟨rfl,rfl⟩|⟨b,off,cs,T,fz,rfl,hc,hcs,hok,hGb,rfl⟩
  ·have hy:ys=[]:=by simpa using hroom
   subst hy
   have hn:news=[]:=List.eq_nil_of_length_eq_zero (by rw [h2.len];simp)
   subst hn
   refine ⟨_,w,H.hin hroom hb (w':=w) (by cases ad<;>simp [storeCells]),hk,Nat.le_refl _,fun _ _ _=>rfl,rfl,noB,.inr (.inl ⟨hmne,rfl,ad,rfl⟩),fun _ h=>h.elim,fun _ h=>h.elim⟩
  ·have hfz:F1 b∧fz=(0,0):=by cases ma<;>simp_all [Mask.dU,Og]
   obtain ⟨hFb,rfl⟩:=hfz
   have hmul:(xs.length+ys.length)*e.size≤cap*e.size:=Nat.mul_le_mul_right _ hroom
   rw [Nat.add_mul] at hmul
   have hfit:off+xs.length*e.size+news.length≤cs.size:=by rw [h2.len];omega
   have hst:=run_storeCells_at P b (off+xs.length*e.size) T news 0 cs w hc (by simpa using hfit) hone
   simp only [Nat.add_zero] at hst
   have hupd:(cs.toList.take (off+xs.length*e.size)++news++cs.toList.drop (off+xs.length*e.size+news.length)).toArray=bA cs (off+xs.length*e.size) news:=rfl
   rw [hupd] at hst
   have hoth:∀b',b'≠b→(w.setRow b (bA cs (off+xs.length*e.size) news)).heap[b']?=w.heap[b']?:=fun b' hb'=>setRow_other w b b' _ hb'
   have hsize:(w.setRow b (bA cs (off+xs.length*e.size) news)).heap.size=w.heap.size:=by simp [World.setRow]
   refine ⟨_,_,H.hin hroom hb (w':=w.setRow b (bA cs (off+xs.length*e.size) news)) (by rw [his];simp only [addr_add];exact hst),?_,by omega,
    fun b' _ hb'=>hoth b' (by rintro rfl;exact hb' hFb),rfl,fun b'=>F1 b'∨F2 b',?_,fun b' hb'=>.inl hb',fun b' hb'=>by rw [hsize];exact hb'.elim (fun h=>(hF1 _ h).2.2) (hF2 _)⟩
   ·refine ⟨hk.os,hk.tape,hk.output,by rw [hsize];exact hk.size,fun b' hb' hm'=>?_⟩
    rw [hoth b' ?_];exact hk.block b' hb' hm'
    rintro rfl
    exact (hMF _ hFb).elim (fun h=>by omega) hm'
   ·have hencO:∀j x vs,xs[j]?=some x→Enc w θ Z S e ma.elem x vs (G1 j)→Enc (w.setRow b (bA cs (off+xs.length*e.size) news)) θ Z S e m.elem x vs (G1 j):=by
     intro j x vs hx he
     refine c1 _ x vs _ (List.mem_of_getElem? hx) (he.mono (.refl _) (.refl _) (.refl _) (fun b' hb'=>hoth b' ?_) (fun _ _=>rfl))
     rintro rfl
     rcases hb' with hb'|hb'
     ·exact hGb _ hb'
     ·exact hb'.elim (hF1 _ hFb).1 (hF1 _ hFb).2.1
    have hencN:∀j x vs,ys[j]?=some x→Enc w θ Z S e me x vs (G2 j)→Enc (w.setRow b (bA cs (off+xs.length*e.size) news)) θ Z S e m.elem x vs (G2 j):=by
     intro j x vs hx he
     refine c2 _ x vs _ (List.mem_of_getElem? hx) (he.mono (.refl _) (.refl _) (.refl _) (fun b' hb'=>hoth b' ?_) (fun _ _=>rfl))
     rintro rfl
     rcases hb' with hb'|hb'
     ·exact hdj _ hFb (h2.sub j _ hb')
     ·exact hb'.elim (hF1 _ hFb).1 (hF1 _ hFb).2.1
    refine .inr (.inr ⟨hmne,b,off,cap,bA cs (off+xs.length*e.size) news,T,(0,0),by rw [List.length_append],setRow_heap w b cs _ T _ hc,by rw [List.length_append];exact hroom,?_,?_,
     fun j=>if j<xs.length then G1 j else G2 (j-xs.length),fun j=>?_,fun j1 j2 hj=>?_,fun j x hx=>?_⟩)
    ·rw [iC hfit];exact hcs
    ·cases m<;>simp_all [Mask.dU,Og]
    ·by_cases hj:j<xs.length
     ·simp only [if_pos hj];exact ⟨fun b' hb'=>.inl (hF1s j b' hb'),hGb j⟩
     ·simp only [if_neg hj];exact ⟨fun b' hb'=>.inr (h2.sub _ b' hb'),fun hb'=>hdj _ hFb (h2.sub _ _ hb')⟩
    ·by_cases h1':j1<xs.length<;>by_cases h2':j2<xs.length
     ·simp only [if_pos h1',if_pos h2'];exact R1.disj _ _ hj
     ·simp only [if_pos h1',if_neg h2'];exact hdj.sub (R1.sub _) (h2.sub _)
     ·simp only [if_neg h1',if_pos h2'];exact (hdj.sub (R1.sub _) (h2.sub _)).symm
     ·simp only [if_neg h1',if_neg h2'];exact h2.disj _ _ (by omega)
    ·by_cases hj:j<xs.length
     ·simp only [if_pos hj]
      rw [List.getElem?_append_left hj] at hx
      have hmul2:j*e.size+e.size≤xs.length*e.size:=by have:=Nat.mul_le_mul_right e.size hj;rw [Nat.succ_mul] at this;exact this
      rw [ME hfit (by omega)]
      have:=R1.enc j x hx
      rw [XJ,XK (by omega)] at this
      exact hencO j x _ hx this
     ·simp only [if_neg hj]
      rw [List.getElem?_append_right (by omega)] at hx
      have hjy:j-xs.length<ys.length:=(List.getElem?_eq_some_iff.1 hx).1
      have hmul2:(j-xs.length)*e.size+e.size≤news.length:=by rw [h2.len];have:=Nat.mul_le_mul_right e.size hjy;rw [Nat.succ_mul] at this;exact this
      have hcells:Go.Abs.sub (bA cs (off+xs.length*e.size) news) (off+j*e.size) e.size=(news.drop ((j-xs.length)*e.size)).take e.size:=by
       have hj2:j*e.size=xs.length*e.size+(j-xs.length)*e.size:=by rw [←Nat.add_mul];congr 1;omega
       have:=XL (c:=cs) (off:=off+xs.length*e.size) (vs:=news) hfit
       conv=>rhs;rw [←this]
       rw [XJ,XK (by omega),hj2,←Nat.add_assoc]
      rw [hcells]
      exact hencN _ x _ hx (h2.enc _ x hx)
 ·-- a new row
  obtain ⟨ncap,hncap,hrun⟩:=H.hout (by intro w' hw';rw [his];exact R1.first w' hw') (by omega) hb
  have hold:∀b,b<w.heap.size→(w.drew.alloc (.cells ((olds++news).toArray++Builtin.zeroCells z.cells (ncap-(xs.length+ys.length))) el)).heap[b]?=w.heap[b]?:=fun b hb=>heap_alloc_old w.drew _ b hb
  refine ⟨_,_,hrun,hk.ahG (ob:=.cells ((olds++news).toArray++Builtin.zeroCells z.cells (ncap-(xs.length+ys.length))) el) rfl rfl rfl rfl,by simp,fun b hb _=>hold b hb,rfl,fun b=>(F1 b∨F2 b)∨b=w.heap.size,?_,fun b hb=>hb.imp id (fun h=>by omega),
   fun b hb=>by simp;rcases hb with (hb|hb)|hb;(have:=(hF1 _ hb).2.2;omega);(have:=hF2 _ hb;omega);omega⟩
  have hlen:(olds++news).length=(xs.length+ys.length)*e.size:=by rw [List.length_append,R1.len,h2.len,Nat.add_mul]
  have henc:∀{k:Mask}{x:e.den}{vs:List Value}{G:BS},(∀b,G b→F1 b∨F2 b)→Enc w θ Z S e k x vs G→Enc (w.drew.alloc (.cells ((olds++news).toArray++Builtin.zeroCells z.cells (ncap-(xs.length+ys.length))) el)) θ Z S e k x vs G:=by
   intro k x vs G hG he
   refine he.mono (.refl _) (.refl _) (.refl _) (fun b' hb'=>hold b' ?_) (fun _ _=>rfl)
   rcases hb' with hb'|hb'
   ·rcases hG b' hb' with h|h
    ·exact (hF1 _ h).2.2
    ·exact hF2 _ h
   ·exact hro _ hb'
  refine .inr (.inr ⟨hmne,w.heap.size,0,ncap,_,el,(0,0),by rw [List.length_append],heap_alloc_new w.drew _,by rw [List.length_append];exact hncap,?_,?_,
   fun j=>if j<xs.length then G1 j else G2 (j-xs.length),fun j=>?_,fun j1 j2 hj=>?_,fun j x hx=>?_⟩)
  ·simp only [Array.size_append,List.size_toArray,hlen,size_zeroCells,hzs,Nat.zero_add]
   rw [←Nat.add_mul]
   exact Nat.mul_le_mul_right _ (by omega)
  ·cases m<;>simp_all [Mask.dU,Og]
  ·by_cases hj:j<xs.length
   ·simp only [if_pos hj];exact ⟨fun b' hb'=>.inl (.inl (hF1s j b' hb')),fun hb'=>by have:=(hF1 _ (hF1s j _ hb')).2.2;omega⟩
   ·simp only [if_neg hj];exact ⟨fun b' hb'=>.inl (.inr (h2.sub _ b' hb')),fun hb'=>by have:=hF2 _ (h2.sub _ _ hb');omega⟩
  ·by_cases h1':j1<xs.length<;>by_cases h2':j2<xs.length
   ·simp only [if_pos h1',if_pos h2'];exact R1.disj _ _ hj
   ·simp only [if_pos h1',if_neg h2'];exact hdj.sub (R1.sub _) (h2.sub _)
   ·simp only [if_neg h1',if_pos h2'];exact (hdj.sub (R1.sub _) (h2.sub _)).symm
   ·simp only [if_neg h1',if_neg h2'];exact h2.disj _ _ (by omega)
  ·have hsub:∀p q,p+q≤(olds++news).length→Go.Abs.sub ((olds++news).toArray++Builtin.zeroCells z.cells (ncap-(xs.length+ys.length))) p q=((olds++news).drop p).take q:=by
    intro p q hpq
    unfold Go.Abs.sub
    rw [Array.toList_append]
    show (((olds++news)++_).drop p).take q=_
    rw [List.drop_append_of_le_length (by omega),List.take_append_of_le_length (by simp only [List.length_drop];omega)]
   by_cases hj:j<xs.length
   ·simp only [if_pos hj]
    rw [List.getElem?_append_left hj] at hx
    have hmul2:j*e.size+e.size≤xs.length*e.size:=by have:=Nat.mul_le_mul_right e.size hj;rw [Nat.succ_mul] at this;exact this
    rw [Nat.zero_add,hsub _ _ (by rw [hlen,Nat.add_mul];omega),List.drop_append_of_le_length (by rw [R1.len];omega),List.take_append_of_le_length (by simp only [List.length_drop,R1.len];omega)]
    exact c1 _ x _ _ (List.mem_of_getElem? hx) (henc (fun b hb=>.inl (hF1s j b hb)) (R1.enc j x hx))
   ·simp only [if_neg hj]
    rw [List.getElem?_append_right (by omega)] at hx
    have hjy:j-xs.length<ys.length:=(List.getElem?_eq_some_iff.1 hx).1
    have hmul2:(j-xs.length)*e.size+e.size≤ys.length*e.size:=by have:=Nat.mul_le_mul_right e.size hjy;rw [Nat.succ_mul] at this;exact this
    have hj2:j*e.size=xs.length*e.size+(j-xs.length)*e.size:=by rw [←Nat.add_mul];congr 1;omega
    rw [Nat.zero_add,hsub _ _ (by rw [hlen,Nat.add_mul];omega),hj2,←List.drop_drop,←R1.len,List.drop_left]
    exact c2 _ x _ _ (List.mem_of_getElem? hx) (henc (fun b hb=>.inr (h2.sub _ b hb)) (h2.enc _ x hx))
theorem TD{θ:ay→Nat}{Z S:BS}{ts:Array TypeId}{t t2 ty el:TypeId}{d2:TypeDesc}{i:TypeInfo}{z:Value}{e:K}(ht1:ts[0]?=some t)(ht2:ts[1]?=some t2)(hu:P.underlying t=some (.slice el))(hu2:P.underlying t2=some d2)(hd2:(∃e2,d2=.slice e2)∨d2=.string)
  (hi:P.info? el=some i) (hz:i.zero=some z) (his:i.size=e.size) (hzs:z.cells.size=e.size) {xs ys:List e.den} {ma me m:Mask} {v1 v2:Value} {F1 F2:BS}
  (h1:Enc w θ Z S (.sl e) ma xs [v1] F1) (hown:ma.dU=true) {news:List Value} {G2:Nat→BS} (h2:Row P w θ Z S e me ys v2 news G2 F2) (hone:∀v∈news,v.oneCell'=true)
  (hl2:∀w',(Builtin.lenOf v2).run P w'=.ok ys.length w') (hm:m.dU=true)
  (c1:∀(w':World)(x:e.den)(vs:List Value)(G:BS),x∈xs→Enc w' θ Z S e ma.elem x vs G→Enc w' θ Z S e m.elem x vs G)
  (c2:∀(w':World)(x:e.den)(vs:List Value)(G:BS),x∈ys→Enc w' θ Z S e me x vs G→Enc w' θ Z S e m.elem x vs G)
  (hdj:DI F1 F2) (hF1:∀b,F1 b→¬Z b∧¬S b∧b<w.heap.size) (hF2:∀b,F2 b→b<w.heap.size) (hro:∀b,Z b∨S b→b<w.heap.size)
  (hb:(xs.length+ys.length)*i.bytes≤70368744177664) (hb1:1≤i.bytes) {M:BS} {a':World} (hk:Keeps M a' w) (hMF:∀b,F1 b→a'.heap.size≤b∨M b) :
  ∃v' w',(Builtin.append_ ts ty #[v1,v2]).run P w=.ok v' w'∧Keeps M a' w'∧w.heap.size≤w'.heap.size∧(∀b,b<w.heap.size→¬F1 b→w'.heap[b]?=w.heap[b]?)∧v'.cells = #[v'] ∧
   ∃F0,Enc w' θ Z S (.sl e) m (xs++ys) [v'] F0∧(∀b,F0 b→(F1 b∨F2 b)∨w.heap.size≤b)∧(∀b,F0 b→b<w'.heap.size):=by
 refine Zz (el:=el) his hzs ⟨fun hroom _ hst=>?_,fun hf1 hroom hb=>?_⟩ h1 hown h2.cells hone hm c1 c2 hdj hF1 hF2 hro hb hk hMF
 ·exact afk (i:=i) ht1 ht2 hu hu2 hd2 hi hl2 (by have:=h2.first w rfl;rw [his];exact this) hroom hst
 ·exact adK (P:=P) (w:=w) (ty:=ty) (i:=i) (n2:=ys.length) ht1 ht2 hu hu2 hd2 hi hz hl2 (by intro w' hw';rw [his];exact h2.first w' hw') hf1 hroom hb hb1
end
end Go.Abs
namespace Go.Abs
section
variable {P : Program} {V : Env} {w0 w : World} {M0 : BS} {n : Nat} {C0 C : Ctx} {s : St} {a : Act}
variable {R' : Type} {r : R'} {o : Oper} {c : Del → Option R'}
theorem adF(R:Rel w0 M0 n C0 C s a w){e:K}{av:AV}{v:Value}(hv:bH w C s.roots v av){R':Type}{r:R'}{c:List e.den→Mask→Option R'}
  (h:iB s.roots [] e av c=some r):∃xs m F,c xs m=some r∧m.live=true∧Enc w C.θ C.Z C.S (.sl e) m xs [v] F∧AVC w C s.roots av [v]∧av.dS=true ∧
   ∀p∈aS (.sl e) xs,∃q x,s.roots q=some x∧p∈aS x.k x.d:=by
 unfold iB at h
 split at h
 ·refine ⟨_,_,noB,h,rfl,.inr (.inl ⟨by simp,rfl,none,by rw [hv.nil]⟩),(hv.cell (by simp) rfl (by simp) (by simp)).1,rfl,fun p hp=>by rw [zY] at hp;cases hp⟩
 ·obtain ⟨a',hv'⟩:=hv.emp
  refine ⟨_,_,noB,h,rfl,.inr (.inl ⟨by simp,rfl,a',by rw [hv']⟩),(hv.cell (by simp) rfl (by simp) (by simp)).1,rfl,fun p hp=>by rw [zY] at hp;cases hp⟩
 ·split at h
  case isFalse=>simp at h
  case isTrue hk=>
  subst hk
  obtain ⟨hA,_⟩:=hv.cell (by simp) rfl (by simp) (by simp)
  exact ⟨_,_,noB,h,rfl,hA.2,hA,rfl,fun p hp=>by rw [bV _ hA.1] at hp;cases hp⟩
 ·split at h
  case isFalse=>simp at h
  case isTrue hk=>
  subst hk
  obtain ⟨hA,_⟩:=hv.cell (by simp) rfl (by simp) (by simp)
  exact ⟨_,_,noB,h,rfl,hA.2.1,hA,rfl,fun p hp=>by rw [bV (k:=.sl _) _ hA.1] at hp;cases hp⟩
 ·rename_i q p
  obtain ⟨hA,_⟩:=hv.cell (by simp) rfl (by simp) (by simp)
  have hA':=hA
  obtain ⟨v',hvv,hroot⟩:=hA'
  simp only [List.cons.injEq,and_true] at hvv
  subst hvv
  split at h
  case h_1=>simp at h
  case h_2 x hx=>
  have hx:s.roots q=some x:=hx
  obtain ⟨k',d,m,vs,b1,hp,hc⟩:=iw (R.mem.ok _ _ hx) h
  obtain ⟨e',base,g1,g2,g3⟩:=hroot x hx
  split at hc
  case isFalse=>simp at hc
  case isTrue hk=>
  subst hk
  cases hl:m.live with
  |false=>simp [hl] at hc
  |true=>
  simp only [hl,cond_true] at hc
  have:=hp.lc;rw [g3] at this
  simp only [Option.some.injEq,Prod.mk.injEq] at this
  obtain ⟨rfl,rfl⟩:=this
  obtain ⟨F,henc⟩:=hp.enc
  exact ⟨_,_,F,hc,hl,henc,hA,rfl,fun p hp'=>⟨q,x,hx,hp.ptrs p hp'⟩⟩
 ·rename_i q p lo nn
  obtain ⟨hA,_⟩:=hv.cell (by simp) rfl (by simp) (by simp)
  have hA':=hA
  obtain ⟨v',v0,hvv,hroot⟩:=hA'
  simp only [List.cons.injEq,and_true] at hvv
  subst hvv
  split at h
  case h_1=>simp at h
  case h_2 x hx=>
  have hx:s.roots q=some x:=hx
  obtain ⟨k',d,m,vs,b1,hp,hc⟩:=iw (R.mem.ok _ _ hx) h
  obtain ⟨e',base,g1,g2,g3,g4⟩:=hroot x hx
  split at hc
  case isFalse=>simp at hc
  case isTrue hk=>
  subst hk
  cases hl:m.live with
  |false=>simp [hl] at hc
  |true=>
  simp only [hl,cond_true] at hc
  have:=hp.lc;rw [g3] at this
  simp only [Option.some.injEq,Prod.mk.injEq] at this
  obtain ⟨rfl,rfl⟩:=this
  obtain ⟨F,henc⟩:=hp.enc
  have:=hp.at_;rw [g1] at this
  simp only [Option.some.injEq,K.sl.injEq] at this
  subst this
  exact ⟨_,_,F,hc,hl,abz henc (Mask.qD hl) g4,hA,rfl,fun p hp'=>⟨q,x,hx,hp.ptrs p (aad hp')⟩⟩
 ·simp at h
theorem Tv{rs:RF}{e:K}{u:U}{av:AV}{c:List e.den→Mask→U→List Kill→List ay→Option R'}(h:fU rs e u av c=some r) :
  av.dS=true∧av≠.dead∧av.agg=false∧av≠.tnil∧∀x y,av≠.tcons x y:=by
 unfold fU at h
 split at h<;>first|exact ⟨rfl,by simp,rfl,by simp,by simp⟩|(simp at h;done)
theorem YM(m:Mask):(Mask.Wt m).elem=m:=by cases m<;>rfl
theorem ajE(m:Mask):(Mask.Wt m).dU=true:=by cases m<;>rfl
theorem M8{e:K}{xs ys:List e.den}{p:ay}(h:p∈aS (.sl e) (xs++ys)):p∈aS (.sl e) xs∨p∈aS (.sl e) ys:=by
 simp only [aS] at h ⊢
 cases hp:e.plain with
 |true=>rw [hp] at h;simp at h
 |false=>
  rw [hp] at h
  simp only [cond_false,List.flatMap_append,List.mem_append] at h ⊢
  exact h
theorem sS{args:Array Operand}{ts:Array TypeId}(ho:o.op=.call { callee:=.builtin .append,args:=args,argTypes:=ts }){y1 y2:Operand}(hy:args.toList=[y1,y2])
  {v':Value} {w':World} (h:∀ty,(Builtin.append_ ts ty #[a.eval y1,a.eval y2]).run P w=.ok v' w'):(execOp a.eval o).run P w=.ok (.value v') w':=by
 have hargs:args.map a.eval = #[a.eval y1,a.eval y2]:=nY (by rw [hy];rfl)
 simp only [execOp,ho,resolve,Sem.run_bind,Sem.run_pure,Result.andThen_ok,invoke,builtin,hargs,h]
theorem amE(P:Program)(w:World)(θ:ay→Nat)(Z S:BS)(y:ByteArray) :
  Row P w θ Z S (.int .u8) .own (y.data.toList.map fun b=>(b.toNat:Int)) (.string y) (y.data.toList.map fun b=>Value.int .u8 (b.toNat:Int)) (fun _=>noB) noB:=by
 refine ⟨by simp [K.size],fun i x hx=>?_,fun _ _ h=>h.elim,fun _ _ _ _ h=>h.elim,fun w' _=>?_⟩
 ·rw [List.getElem?_map] at hx
  cases hb:y.data.toList[i]? with
  |none=>rw [hb] at hx;simp at hx
  |some b=>
   rw [hb] at hx
   simp only [Option.map_some,Option.some.injEq] at hx
   subst hx
   show _=_
   have hi:i<y.data.toList.length:=(List.getElem?_eq_some_iff.1 hb).1
   have hbi:y.data.toList[i]=b:=(List.getElem?_eq_some_iff.1 hb).2
   simp only [K.size,Nat.mul_one]
   rw [List.drop_eq_getElem_cons (by simpa using hi)]
   simp [hbi]
 ·have hx:(y.extract 0 y.data.toList.length).data.map (fun b=>Value.int .u8 (b.toNat:Int))=(y.data.toList.map fun b=>Value.int .u8 (b.toNat:Int)).toArray:=by
   have h1:(y.extract 0 y.data.toList.length).data=y.data:=by simp
   rw [h1];apply Array.ext';simp
  simp only [Builtin.firstCells,List.length_map,Sem.run_pure,hx]
theorem YL(z:Array Value)(x y:Nat):madeCells z (x*z.size)++madeCells z (y*z.size)=madeCells z ((x+y)*z.size):=by
 apply Array.ext
 ·simp [size_madeCells,Nat.add_mul]
 ·intro j h1 h2
  rw [Array.getElem_append]
  simp only [madeCells,Array.getElem_map,Array.getElem_range,Array.size_map,Array.size_range]
  split
  ·rfl
  ·rename_i h
   congr 1
   have:j=(j-x*z.size)+z.size*x:=by rw [Nat.mul_comm z.size x];omega
   conv=>rhs;rw [this]
   rw [Nat.add_mul_mod_self_left]
theorem aa7{ts:Array TypeId}{t t2 ty el:TypeId}{ik:IntKind}{i:TypeInfo}{z:Value}(ht1:ts[0]?=some t)(ht2:ts[1]?=some t2)(hu:P.underlying t=some (.slice el))(hu2:P.underlying t2=some (.int ik))
  (hi:P.info? el=some i) (hz:i.zero=some z) (hs:1≤i.size) {k:IntKind} {x:Int} (h0:0≤x) (hb:x.toNat*i.bytes≤70368744177664) (hb1:1≤i.bytes) :
  (x.toNat=0∧(Builtin.append_ ts ty #[.slice none 0 0,.int k x]).run P w=.ok (.slice none 0 0) w) ∨
  (∃cap,x.toNat≤cap∧(Builtin.append_ ts ty #[.slice none 0 0,.int k x]).run P w=.ok (.slice (some ⟨w.heap.size,0,none⟩) x.toNat cap)
   (w.drew.alloc (.cells (madeCells z.cells (x.toNat*z.cells.size)++madeCells z.cells ((cap-x.toNat)*z.cells.size)) el))):=by
 obtain ⟨m,rfl⟩:=Int.eq_ofNat_of_zero_le h0
 have h3:=IB hb hb1
 simp only [Int.toNat_natCast] at *
 have hw:IntKind.i64.wrap (m:Int)=m:=by
  rw [IntKind.wrap_i64];omega
 have h48':¬((281474976710656:Int)<(m:Int)*(i.bytes:Int)):=by
  have h4:((m*i.bytes:Nat):Int)≤70368744177664:=Int.ofNat_le.2 hb
  rw [Int.natCast_mul] at h4
  omega
 by_cases hm:m=0
 ·subst hm
  left
  refine ⟨rfl,?_⟩
  have hw0:IntKind.i64.wrap 0=0:=hw
  simp [hw0,Builtin.append_,ht1,ht2,run_underlying hu,run_underlying hu2,sizeOf,typeInfo,hi,asInt,asIntOf]
 ·right
  have hn:¬(m≤0):=by omega
  have h63:¬(9223372036854775807<(m:Int)):=by omega
  have h48:¬(281474976710656<Builtin.nextslicecap m 0*i.bytes):=by have:=growslice_fits (old:=0) (by omega:0<m) (by omega:m*i.bytes≤140737488355328);omega
  refine ⟨grownCap w m 0 el,grownCap_ge w _ _ _,?_⟩
  simp [Builtin.append_,ht1,ht2,run_underlying hu,run_underlying hu2,sizeOf,typeInfo,zeroValue,hi,hz,asInt,asIntOf,hw,h63,h48,h48',Question.forced,run_firstCells_none,newRow,grownCap]
  have hms:¬(m=0∨i.size=0):=by omega
  have hneg:¬((m:Int)<0):=by omega
  rw [if_neg hneg,if_neg hm,if_neg (by rw [Nat.mul_eq_zero];exact hms)]
  rfl
theorem Gb(z:Array Value)(m:Nat):Builtin.zeroCells z m=madeCells z (m*z.size):=rfl
theorem aqj{z:Array Value}(hz:∀v∈z.toList,v.oneCell'=true)(hs:1≤z.size)(N:Nat):∀v∈(madeCells z N).toList,v.oneCell'=true:=by
 intro v hv
 unfold madeCells at hv
 rw [Array.toList_map] at hv
 obtain ⟨j,_,rfl⟩:=List.mem_map.1 hv
 have hlt:j%z.size<z.size:=Nat.mod_lt _ hs
 rw [getElem!_pos z (j%z.size) hlt]
 exact hz _ (by simp)
theorem ars{ts:Array TypeId}{t t2 ty el:TypeId}{ik:IntKind}{i:TypeInfo}{z:Value}(ht1:ts[0]?=some t)(ht2:ts[1]?=some t2)(hu:P.underlying t=some (.slice el))(hu2:P.underlying t2=some (.int ik))
  (hi:P.info? el=some i) (hz:i.zero=some z) (hs:1≤i.size) {k:IntKind} {x:Int} (h0:0≤x) (hb1:1≤i.bytes):akQ P w ts ty el i z (.int k x) x.toNat (Builtin.zeroCells z.cells x.toNat).toList:=by
 obtain ⟨m,rfl⟩:=Int.eq_ofNat_of_zero_le h0
 have facts:∀n1:Nat,(n1+m)*i.bytes≤70368744177664→IntKind.i64.wrap (m:Int)=m∧¬((281474976710656:Int)<(m:Int)*(i.bytes:Int))∧n1+m≤70368744177664:=by
  intro n1 hb
  have h3:=IB hb hb1
  refine ⟨by rw [IntKind.wrap_i64];omega,?_,h3⟩
  have h5:m*i.bytes≤(n1+m)*i.bytes:=Nat.mul_le_mul_right _ (by omega)
  have h4:((m*i.bytes:Nat):Int)≤((70368744177664:Nat):Int):=Int.ofNat_le.2 (Nat.le_trans h5 hb)
  have hg:((70368744177664:Nat):Int)=70368744177664:=rfl
  rw [Int.natCast_mul,hg] at h4
  omega
 refine ⟨fun {a1 n1 c1 w'} hroom hb hst=>?_,fun {a1 n1 c1 olds} hf1 hroom hb=>?_⟩
 ·obtain ⟨hw,h48',_⟩:=facts n1 hb
  simp only [Int.toNat_natCast] at *
  by_cases hm:m=0
  ·subst hm
   have hw0:IntKind.i64.wrap 0=0:=hw
   have hz0:(Builtin.zeroCells z.cells 0).toList=[]:=by simp [Builtin.zeroCells]
   rw [hz0] at hst
   have hww:w'=w:=by
    cases a1 with
    |none=>simp only [Sem.run_pure,Result.ok.injEq,true_and] at hst;exact hst.symm
    |some ad=>simp [storeCells] at hst;exact hst.symm
   subst hww
   cases a1<;>simp [hw0,Builtin.append_,ht1,ht2,run_underlying hu,run_underlying hu2,sizeOf,typeInfo,hi,asInt,asIntOf,show n1≤c1 by omega,storeCells]
  ·have hmz:¬(m*i.size=0):=Nat.mul_ne_zero hm (by omega)
   have hneg:¬((m:Int)<0):=by omega
   cases a1 with
   |none=>
    simp only [Sem.run_pure,Result.ok.injEq,true_and] at hst
    subst hst
    simp [Builtin.append_,ht1,ht2,run_underlying hu,run_underlying hu2,sizeOf,typeInfo,zeroValue,hi,hz,asInt,asIntOf,hw,h48',hroom,hneg]
   |some ad=>
    simp only at hst
    simp [Builtin.append_,ht1,ht2,run_underlying hu,run_underlying hu2,sizeOf,typeInfo,zeroValue,hi,hz,asInt,asIntOf,hw,h48',hroom,hmz,hneg,hst]
 ·obtain ⟨hw,h48',hle⟩:=facts n1 hb
  simp only [Int.toNat_natCast] at *
  refine ⟨grownCap w (n1+m) c1 el,grownCap_ge w _ _ _,?_⟩
  have hn:¬(n1+m≤c1):=by omega
  have h63:¬(9223372036854775807<((n1:Int)+(m:Int))):=by omega
  have h48:¬(281474976710656<Builtin.nextslicecap (n1+m) c1*i.bytes):=by have:=growslice_fits (old:=c1) hroom (by omega:(n1+m)*i.bytes≤140737488355328);omega
  have h1:=hf1 w.drew rfl
  have hneg:¬((m:Int)<0):=by omega
  by_cases hm:m=0
  ·subst hm
   have hw0:IntKind.i64.wrap 0=0:=hw
   simp only [Nat.add_zero] at *
   have h63':¬(9223372036854775807<(n1:Int)):=by omega
   simp [hw0,Builtin.append_,ht1,ht2,run_underlying hu,run_underlying hu2,sizeOf,typeInfo,zeroValue,hi,hz,asInt,asIntOf,hn,h63',h48,Question.forced,h1,newRow,grownCap,Builtin.zeroCells]
  ·have hmz:¬(m*i.size=0):=Nat.mul_ne_zero hm (by omega)
   simp [Builtin.append_,ht1,ht2,run_underlying hu,run_underlying hu2,sizeOf,typeInfo,zeroValue,hi,hz,asInt,asIntOf,hw,h48',hneg,hmz,hn,h63,h48,Question.forced,h1,newRow,grownCap]
   congr 2
   apply Array.ext'
   simp
theorem aaM(hT:gq P V)(R:Rel w0 M0 n C0 C s a w){args:Array Operand}{ts:Array TypeId}(ho:o.op=.call { callee:=.builtin .append,args:=args,argTypes:=ts }){y1 y2:Operand}(hy:args.toList=[y1,y2])
  (h:qW V ts (o.dst.getD 0) (bf s.tmps y1) (bf s.tmps y2) s.roots c=some r):∃x,c x=some r∧Does P w0 M0 n C0 s a w o x:=by
 unfold qW at h
 split at h
 case h_2=>simp at h
 case h_1 zz kk x ik e bytes el e2 hk2 hti0=>
 obtain ⟨t,ht1,hti⟩:∃t,ts[0]?=some t∧V.ti t=some ⟨.sl e,bytes,el⟩:=by
  cases hh:ts[0]? with
  |none=>simp [hh] at hti0
  |some t=>exact ⟨t,rfl,by simpa [hh] using hti0⟩
 obtain ⟨t2,ht2,hk2⟩:∃t2,ts[1]?=some t2∧V.k t2=some (.int ik):=by
  cases hh:ts[1]? with
  |none=>simp [hh] at hk2
  |some t2=>exact ⟨t2,rfl,by simpa [hh] using hk2⟩
 obtain ⟨ti2,hti2,hk2'⟩:=Env.wz hk2
 obtain ⟨d2,hd2,hD2⟩:=(hT.ty _ _ hti2).desc
 simp only [DOK,hk2'] at hD2
 subst hD2
 split at h
 case h_1=>simp at h
 case h_2 te hte=>
 split at h
 case isFalse=>simp at h
 case isTrue hke=>
 cases hf:e.flat with
 |false=>rw [hf] at h;simp at h
 |true=>
 rw [hf] at h
 simp only [cond_true] at h
 obtain ⟨d,hd,hdok⟩:=(hT.ty _ _ hti).desc
 obtain ⟨rfl,te',hte',hk',hsz⟩:=hdok
 simp only at hte' hk'
 rw [hte] at hte'
 cases hte'
 obtain ⟨i,z,hi,hs,hb,hz,hzc,hzs⟩:=(hT.ty _ _ hte).zeroOf
 rw [hke] at hs hzs hsz hzc
 have hv1:=R.eval y1
 have el2:a.eval y2=.int kk x:=by have:=R.eval y2;rw [e2] at this;exact this.int
 have hshape:=Tv h
 obtain ⟨hA1,hc1⟩:=hv1.cell hshape.2.1 hshape.2.2.1 hshape.2.2.2.1 hshape.2.2.2.2
 obtain ⟨xs,ma,u1,k1,g1,C1,G1,g,hown,Fd1,henc1,_,hptr1⟩:=Ba (u:=[]) R.mem hA1 h
 clear h
 have hG1:∀b,G1 b→¬C.Z b∧¬C.S b∧b<w.heap.size:=fun b hb=>Fd1.free R.mem hb
 have hG1M:∀b,G1 b→w0.heap.size≤b∨M0 b:=by
  intro b hb
  obtain ⟨r1,y,hy,hb⟩:=Fd1.gfoot b hb
  exact R.foot r1 y b hy hb
 split at g
 case isFalse=>simp at g
 case isTrue hbound=>
 obtain ⟨h0,hbytes,hb1⟩:=hbound
 have hes:1≤e.size:=by omega
 have hone:∀v∈(Builtin.zeroCells z.cells x.toNat).toList,v.oneCell'=true:=by
  rw [Gb]
  refine aqj (fun v hv=>?_) (by rw [hzs];exact hes) _
  rw [hzc] at hv
  have hz0:Enc w C.θ C.Z C.S e .own e.zero e.zeroCells noB:=Enc.zero
  exact hz0.one rfl v hv
 have hrow:atN w C.θ C.Z C.S e .own (List.replicate x.toNat e.zero) (Builtin.zeroCells z.cells x.toNat).toList (fun _=>noB) noB:=by
  refine ⟨by rw [Gb];simp [size_madeCells,hzs],fun j y hj=>?_,fun _ _ h=>h.elim,fun _ _ _ _ h=>h.elim⟩
  rw [List.getElem?_replicate] at hj
  split at hj
  case isFalse=>simp at hj
  case isTrue hlt=>
  cases hj
  have hm:=adg (z:=z.cells) (N:=x.toNat*z.cells.size) (i:=j) (Nat.mul_le_mul_right _ (by omega))
  unfold sub at hm
  rw [Gb]
  rw [hzs] at hm ⊢
  rw [hm,hzc]
  exact Enc.zero
 have hbb:(xs.length+(List.replicate x.toNat e.zero).length)*i.bytes≤70368744177664:=by rw [List.length_replicate,hb];simpa [bS] using hbytes
 have H:akQ P w ts 0 el i z (a.eval y2) (List.replicate x.toNat e.zero).length (Builtin.zeroCells z.cells x.toNat).toList:=by
  rw [el2,List.length_replicate]
  exact ars ht1 ht2 hd hd2 hi hz (by omega) h0 (by rw [hb];exact hb1)
 obtain ⟨v',w',hrun,hk,hsz',hblk,hcell,F0,henc,hF0,hF1⟩:=Zz (ty:=0) (m:=.own) (by omega) hzs H henc1 hown hrow hone rfl
  (fun _ _ _ _ _ he=>Enc.flat hf he) (fun _ _ _ _ _ he=>he) (fun _ _ h=>h.elim) hG1 (fun _ h=>h.elim) R.mem.ro hbb R.kept hG1M
 refine ⟨_,g,GJ (F0:=F0) R Fd1 (sS ho hy (fun ty=>hrun)) hk hsz' hblk (fun b hb=>(hF0 b hb).imp (fun h=>h.elim id (fun h=>h.elim)) id) hF1 henc hcell ?_ (by simp)⟩
 intro p hp
 right
 rcases M8 hp with hp|hp
 ·exact hptr1 p hp
 ·exfalso
  simp only [aS] at hp
  cases hpl:e.plain with
  |true=>simp [hpl] at hp
  |false=>
   simp only [hpl,cond_false,List.mem_flatMap] at hp
   obtain ⟨y,hy,hp⟩:=hp
   rw [List.eq_of_mem_replicate hy,Pz] at hp
   cases hp
theorem aaL(hT:gq P V)(R:Rel w0 M0 n C0 C s a w){args:Array Operand}{ts:Array TypeId}(ho:o.op=.call { callee:=.builtin .append,args:=args,argTypes:=ts }){y1 y2:Operand}(hy:args.toList=[y1,y2])
  (h:mI V ts (o.dst.getD 0) (bf s.tmps y1) (bf s.tmps y2) s.roots c=some r):∃x,c x=some r∧Does P w0 M0 n C0 s a w o x:=by
 unfold mI at h
 split at h
 case h_2=>simp at h
 case h_3=>exact aaM hT R ho hy h
 case h_1 zz kk x ik e bytes el e1 e2 hk2 hti0=>
 obtain ⟨t,ht1,hti⟩:∃t,ts[0]?=some t∧V.ti t=some ⟨.sl e,bytes,el⟩:=by
  cases hh:ts[0]? with
  |none=>simp [hh] at hti0
  |some t=>exact ⟨t,rfl,by simpa [hh] using hti0⟩
 obtain ⟨t2,ht2,hk2⟩:∃t2,ts[1]?=some t2∧V.k t2=some (.int ik):=by
  cases hh:ts[1]? with
  |none=>simp [hh] at hk2
  |some t2=>exact ⟨t2,rfl,by simpa [hh] using hk2⟩
 obtain ⟨ti2,hti2,hk2'⟩:=Env.wz hk2
 obtain ⟨d2,hd2,hD2⟩:=(hT.ty _ _ hti2).desc
 simp only [DOK,hk2'] at hD2
 subst hD2
 split at h
 case h_1=>simp at h
 case h_2 te hte=>
 split at h
 case isFalse=>simp at h
 case isTrue hcond=>
 obtain ⟨rfl,h0,hbytes,hb1⟩:=hcond
 obtain ⟨d,hd,hdok⟩:=(hT.ty _ _ hti).desc
 obtain ⟨rfl,te',hte',_,hsz⟩:=hdok
 simp only at hte'
 rw [hte] at hte'
 cases hte'
 obtain ⟨i,z,hi,hs,hb,hz,hzc,hzs⟩:=(hT.ty _ _ hte).zeroOf
 have el1:a.eval y1=.slice none 0 0:=by have:=R.eval y1;rw [e1] at this;exact this.nil
 have el2:a.eval y2=.int kk x:=by have:=R.eval y2;rw [e2] at this;exact this.int
 rcases aa7 (P:=P) (w:=w) (ty:=0) (k:=kk) ht1 ht2 hd hd2 hi hz (by omega) h0 (by rw [hb];simpa [bS] using hbytes) (by rw [hb];exact hb1) with ⟨hx0,hrun⟩|⟨cap,hcap,hrun⟩
 ·refine ⟨_,h,GJ (u':=[]) (ks:=[]) (q:=[]) (G:=noB) (F0:=noB) R (.refl R.mem) (sS ho hy (fun ty=>by rw [el1,el2];exact hrun)) R.kept (Nat.le_refl _) (fun b _ _=>rfl) (fun b hb=>hb.elim) (fun b hb=>hb.elim) ?_ rfl ?_ (by simp)⟩
  ·exact .inr (.inl ⟨by simp,by rw [hx0];rfl,none,rfl⟩)
  ·intro p hp;rw [hx0] at hp;simp only [List.replicate_zero] at hp;rw [zY] at hp;cases hp
 rw [YL] at hrun
 rw [show x.toNat+(cap-x.toNat)=cap by omega] at hrun
 have hrun':=sS (a:=a) ho hy (fun ty=>by rw [el1,el2];exact hrun)
 refine ⟨_,h,GJ (u':=[]) (ks:=[]) (q:=[]) (G:=noB) (F0:=fun b=>b=w.heap.size) R (.refl R.mem) hrun' (R.kept.ahG (ob:=.cells (madeCells z.cells (cap*z.cells.size)) el) rfl rfl rfl rfl) (by simp)
  (fun b hb _=>heap_alloc_old w.drew _ b hb) (fun b hb=>.inr (by omega)) (fun b hb=>by simp [hb]) ?_ rfl ?_ (by simp)⟩
 ·refine .inr (.inr ⟨by simp,w.heap.size,0,cap,madeCells z.cells (cap*z.cells.size),el,(0,0),by simp,heap_alloc_new w.drew _,by simpa using hcap,?_,⟨rfl,rfl⟩,fun _=>noB,fun j=>⟨fun _ h=>h.elim,fun h=>h.elim⟩,fun _ _ _ _ h=>h.elim,fun j x' hx=>?_⟩)
  ·rw [size_madeCells,hzs];omega
  ·rw [List.getElem?_replicate] at hx
   split at hx
   case isFalse=>simp at hx
   case isTrue hj=>
   cases hx
   have:=adg (z:=z.cells) (N:=cap*z.cells.size) (i:=j) (Nat.mul_le_mul_right _ (by omega))
   rw [hzs] at this
   rw [Nat.zero_add,hzs,this,hzc]
   exact Enc.zero
 ·intro p hp
  simp only [aS] at hp
  cases hpl:te.k.plain with
  |true=>simp [hpl] at hp
  |false=>
   simp only [hpl,cond_false,List.mem_flatMap] at hp
   obtain ⟨y,hy,hp⟩:=hp
   rw [List.eq_of_mem_replicate hy,Pz] at hp
   cases hp
theorem aiS(hT:gq P V)(R:Rel w0 M0 n C0 C s a w){args:Array Operand}{ts:Array TypeId}(ho:o.op=.call { callee:=.builtin .append,args:=args,argTypes:=ts })
  (h:bC V o s.tmps s.roots c=some r):∃x,c x=some r∧Does P w0 M0 n C0 s a w o x:=by
 simp only [bC,ho] at h
 unfold fH at h
 split at h
 case h_2 x1 x2 e1 e2=>
  obtain ⟨y1,y2,hy,hy1,hy2⟩:∃y1 y2,args.toList=[y1,y2]∧bf s.tmps y1=x1∧bf s.tmps y2=x2:=by
   match hh:args.toList,e2 with
   |[y1,y2],e2=>exact ⟨y1,y2,rfl,by simpa using e2⟩
  have hv1:=R.eval y1
  have hv2:=R.eval y2
  rw [hy1] at hv1;rw [hy2] at hv2
  split at h
  case h_2=>simp at h
  case h_1 e bytes el hti0=>
  obtain ⟨t,ht1,hti⟩:∃t,ts[0]?=some t∧V.ti t=some ⟨.sl e,bytes,el⟩:=by
   cases hh:ts[0]? with
   |none=>simp [hh] at hti0
   |some t=>exact ⟨t,rfl,by simpa [hh] using hti0⟩
  cases hnr:Y0 (ts[1]?.bind V.k) with
  |true=>
   rw [hnr] at h
   simp only [cond_true] at h
   subst hy1 hy2
   exact aaL hT R ho hy h
  |false=>
  rw [hnr] at h
  simp only [cond_false] at h
  obtain ⟨t2,d2,ht2,hu2,hd2⟩:∃t2 d2,ts[1]?=some t2∧P.underlying t2=some d2∧((∃e2,d2=.slice e2)∨d2=.string):=by
   cases hh:ts[1]? with
   |none=>rw [hh] at hnr;simp [Y0] at hnr
   |some t2=>
    rw [hh] at hnr
    simp only [Option.bind_some] at hnr
    cases hk:V.k t2 with
    |none=>rw [hk] at hnr;simp [Y0] at hnr
    |some k=>
     rw [hk] at hnr
     obtain ⟨ti2,hti2,hk2⟩:=Env.wz hk
     obtain ⟨d,hd,hD⟩:=(hT.ty _ _ hti2).desc
     simp only [DOK,hk2] at hD
     cases k<;>simp only [Y0] at hnr<;>first|(cases hnr;done)|skip
     ·exact ⟨t2,d,rfl,hd,.inr hD⟩
     ·exact ⟨t2,d,rfl,hd,.inl ⟨_,hD.1⟩⟩
  split at h
  case h_1=>simp at h
  case h_2 te hte=>
  split at h
  case isFalse=>simp at h
  case isTrue hke=>
  obtain ⟨d,hd,hdok⟩:=(hT.ty _ _ hti).desc
  obtain ⟨rfl,te',hte',hk',hsz⟩:=hdok
  simp only at hte' hk'
  rw [hte] at hte'
  cases hte'
  obtain ⟨i,z,hi,hs,hb,hz,hzc,hzs⟩:=(hT.ty _ _ hte).zeroOf
  rw [hke] at hs hzs hsz
  have hshape:=Tv h
  obtain ⟨hA1,hc1⟩:=hv1.cell hshape.2.1 hshape.2.2.1 hshape.2.2.2.1 hshape.2.2.2.2
  obtain ⟨xs,ma,u1,k1,g1,C1,G1,g,hown,Fd1,henc1,_,hptr1⟩:=Ba (u:=[]) R.mem hA1 h
  clear h
  have hG1:∀b,G1 b→¬C.Z b∧¬C.S b∧b<w.heap.size:=fun b hb=>Fd1.free R.mem hb
  have hG1M:∀b,G1 b→w0.heap.size≤b∨M0 b:=by
   intro b hb
   obtain ⟨r1,y,hy,hb⟩:=Fd1.gfoot b hb
   exact R.foot r1 y b hy hb
  have hptr1':∀p∈aS (.sl e) xs,∃q x,s.roots q=some x∧p∈aS x.k x.d:=hptr1
  have hro:∀b,C.Z b∨C.S b→b<w.heap.size:=R.mem.ro
  have hmo:(Mask.own).dU=true:=rfl
  split at g
  ·-- the bytes of a string
   rename_i zz y
   split at g
   case h_2=>simp at g
   case h_1=>
   split at g
   case isFalse=>simp at g
   case isTrue hbound=>
   have hst:=hv2.str
   have hrow:=amE P w C.θ C.Z C.S y
   obtain ⟨v',w',hrun,hk,hsz',hblk,hcell,F0,henc,hF0,hF1⟩:=TD (P:=P) (ty:=0) ht1 ht2 hd hu2 hd2 hi hz hs hzs henc1 hown (m:=.own) (v2:=.string y) hrow (by
     intro v hv
     simp only [List.mem_map] at hv
     obtain ⟨b,_,rfl⟩:=hv
     rfl) (by intro w';simp [Builtin.lenOf]) rfl (fun _ _ _ _ _ he=>Enc.flat rfl he) (fun _ _ _ _ _ he=>he) (fun _ _ h=>h.elim) hG1 (fun _ h=>h.elim) hro (by
     rw [hb];simpa [bS] using hbound.1) (by rw [hb];exact hbound.2) R.kept hG1M
   refine ⟨_,g,GJ (F0:=F0) R Fd1 (sS ho hy (fun ty=>by rw [hst];exact hrun)) hk hsz' hblk (fun b hb=>(hF0 b hb).imp (fun h=>h.elim id (fun h=>h.elim)) id) hF1 henc hcell ?_ (by simp)⟩
   intro p hp
   rw [bV _ rfl] at hp;cases hp
  ·obtain ⟨ys,my,Fy,g,hlive,hency,hA2,hleaf,hptr2⟩:=adF R hv2 g
   obtain ⟨ad,cap,news,G2,hv2e,_,hrow,_⟩:=agP P hency (Mask.qD hlive)
   split at g
   case isFalse=>simp at g
   case isTrue hbound=>
   have hl2:∀w',(Builtin.lenOf (a.eval y2)).run P w'=.ok ys.length w':=by intro w';rw [hv2e];simp [Builtin.lenOf]
   have hone:∀v∈news,v.oneCell'=true:=by
    refine aj3 hrow.len fun i hi v hv=>?_
    exact (hrow.enc i ys[i] (List.getElem?_eq_getElem hi)).one (Mask.Q0 hlive) v hv
   cases hf:e.flat with
   |true=>
    simp only [hf,cond_true] at g
    have hrow':Row P w C.θ C.Z C.S e .own ys (a.eval y2) news (fun _=>noB) noB:=
     ⟨hrow.len,fun i x hx=>Enc.flat hf (hrow.enc i x hx),fun _ _ h=>h.elim,fun _ _ _ _ h=>h.elim,hrow.first⟩
    obtain ⟨v',w',hrun,hk,hsz',hblk,hcell,F0,henc,hF0,hF1⟩:=TD (P:=P) (ty:=0) ht1 ht2 hd hu2 hd2 hi hz hs hzs henc1 hown (m:=.own) hrow' hone hl2 rfl
     (fun _ _ _ _ _ he=>Enc.flat hf he) (fun _ _ _ _ _ he=>he) (fun _ _ h=>h.elim) hG1 (fun _ h=>h.elim) hro (by rw [hb];exact hbound.1) (by rw [hb];exact hbound.2) R.kept hG1M
    refine ⟨_,g,GJ (F0:=F0) R Fd1 (sS ho hy (fun ty=>hrun)) hk hsz' hblk (fun b hb=>(hF0 b hb).imp (fun h=>h.elim id (fun h=>h.elim)) id) hF1 henc hcell ?_ (by simp)⟩
    intro p hp
    right
    rcases M8 hp with hp|hp
    ·exact hptr1' p hp
    ·exact hptr2 p hp
   |false=>
    simp only [hf,cond_false] at g
    cases hpl:(e.plain&&!hit k1 x2) with
    |false=>rw [hpl] at g;simp at g
    |true=>
    rw [hpl] at g
    simp only [cond_true] at g
    simp only [Bool.and_eq_true,Bool.not_eq_true'] at hpl
    have hA2':=Fd1.leaf _ _ hleaf hpl.2 hA2
-- what is put behind
    have hsrc:∃ys' mb u2 k2 g2 C2 G2u,(match acV e xs.isEmpty ma mb with
       |some m=>bif !mb.live then none else c ⟨.ref (loc (o.dst.getD 0) 0) [],(loc (o.dst.getD 0) 0,some ⟨false,.sl e,m,xs++ys'⟩)::u2,true,k1++k2,[],none,x1.names++x2.names,g1++g2,false⟩
       |none=>none)=some r∧qP w C1 C2 (look s.roots u1) (look s.roots u2) k2 G2u∧Enc w C.θ C.Z C.S (.sl e) mb ys' [a.eval y2] G2u:=by
     unfold vV at g
     split at g
     ·split at g
      case isFalse=>simp at g
      case isTrue hk=>
      subst hk
      refine ⟨_,_,_,_,_,C1,noB,g,.refl Fd1.mem,?_⟩
      exact hA2.2
     ·obtain ⟨ys',mb,u2,k2,g2,C2,G2u,gg,_,Fd2,henc2,_⟩:=Ba Fd1.mem hA2' g
      refine ⟨ys',mb,u2,k2,g2,C2,G2u,gg,Fd2,?_⟩
      rw [←Fd1.θ,←Fd1.Z,←Fd1.S];exact henc2
    obtain ⟨ys',mb,u2,k2,g2,C2,G2u,g,Fd2,henc2⟩:=hsrc
    split at g
    case h_2=>simp at g
    case h_1 m hjoin=>
    cases hml:mb.live with
    |false=>rw [hml] at g;simp at g
    |true=>
    rw [hml] at g
    simp only [Bool.not_true,cond_false] at g
    obtain ⟨ad',cap',news',G2',hv2e',_,hrow',_⟩:=agP P henc2 (Mask.qD hml)
    have hyl:ys'.length=ys.length:=by rw [hv2e] at hv2e';simp only [Value.slice.injEq] at hv2e';exact hv2e'.2.1.symm
    have hone':∀v∈news',v.oneCell'=true:=by
     refine aj3 hrow'.len fun i hi v hv=>?_
     exact (hrow'.enc i ys'[i] (List.getElem?_eq_getElem hi)).one (Mask.Q0 hml) v hv
    have hjm:m.dU=true∧m.elem=mb.elem∧(xs=[]∨m.elem=ma.elem):=by
     unfold acV at hjoin
     simp only [hf,cond_false] at hjoin
     split at hjoin
     ·rename_i heq
      simp only [Option.some.injEq] at hjoin
      subst hjoin
      exact ⟨ajE _,by rw [YM,heq],.inr (YM _)⟩
     ·cases hx:xs.isEmpty with
      |true=>
       rw [hx] at hjoin
       simp only [cond_true,Option.some.injEq] at hjoin
       subst hjoin
       exact ⟨ajE _,YM _,.inl (by simpa using hx)⟩
      |false=>
       rw [hx] at hjoin
       simp at hjoin
    have hG2:∀b,G2u b→b<w.heap.size:=fun b hb=>(Fd2.free Fd1.mem hb).2.2
    have hdj:DI G1 G2u:=by
     intro b hb1 hb2
     obtain ⟨r1,y,hy,hb⟩:=Fd2.gfoot b hb2
     exact Fd1.gdisj r1 y hy b hb1 hb
    obtain ⟨v',w',hrun,hk,hsz',hblk,hcell,F0,henc,hF0,hF1⟩:=TD (P:=P) (ty:=0) ht1 ht2 hd hu2 hd2 hi hz hs hzs henc1 hown (m:=m) hrow' hone' (by intro w';rw [hyl];exact hl2 w') hjm.1
     (fun w' x vs G hx he=>by
      rcases hjm.2.2 with h|h
      ·rw [h] at hx;cases hx
      ·rw [h];exact he) (fun _ _ _ _ _ he=>by rw [hjm.2.1];exact he) hdj hG1 hG2 hro (by rw [hb,hyl];exact hbound.1) (by rw [hb];exact hbound.2) R.kept hG1M
    refine ⟨_,g,GJ (F0:=F0) R (Fd1.trans Fd2) (sS ho hy (fun ty=>hrun)) hk hsz' (fun b hb hg=>hblk b hb (fun h=>hg (.inl h))) hF0 hF1 henc hcell ?_ (by simp)⟩
    intro p hp
    rw [bV _ (by simpa [K.plain] using hpl.1)] at hp;cases hp
 all_goals simp_all
end
end Go.Abs
namespace Go.Abs
section
variable {P : Program} {V : Env} {w0 w : World} {M0 : BS} {n : Nat} {C0 C : Ctx} {s : St} {a : Act}
variable {R' : Type} {r : R'} {o : Oper} {c : Del → Option R'}
theorem as3{c:Array Value}{vs:List Value}(h:sub c 0 vs.length=vs)(hs:c.size=vs.length):c=vs.toArray:=by
 apply Array.ext'
 unfold sub at h
 simp only [List.drop_zero] at h
 rw [List.take_of_length_le (by simp [hs])] at h
 exact h
theorem amC{θ:ay→Nat}{Z S:BS}{R:Type}{r:R}{k1:K}{d1:k1.den}{m1:Mask}{b off:Nat}:∀(p:Path){k:K}{m:Mask}{d:k.den}{vs:List Value}{F:BS}{base:Option (Nat×Nat)}{c:k.den→Mask→Option R}{old:List Value},
  FW k d m p k1 d1 m1 c=some r→Enc w θ Z S k m d vs F→(∀x,base=some x→∃cs T,w.heap[x.1]?=some (.cells cs T (0,0)))→eU w k vs base p=some (old,some (b,off)) →
  (∃cs T,w.heap[b]?=some (.cells cs T (0,0)))∧(F b∨∃o0,base=some (b,o0))∧k.at p=some k1:=by
 intro p
 induction p with
 |nil=>
  intro k m d vs F base c old h he hb hloc
  rw [cZ] at hloc
  simp only [Option.some.injEq,Prod.mk.injEq] at hloc
  have h':(if hk:k1=k then c (hk ▸ d1) (bif k.flat then m else m1) else none)=some r:=by cases k<;>exact h
  split at h'
  case isFalse=>simp at h'
  case isTrue hk=>exact ⟨hb _ hloc.2,.inr ⟨off,hloc.2⟩,by rw [at_nil,hk]⟩
 |cons st p ih=>
  intro k m d vs F base c old h he hb hloc
  cases st with
  |fst=>
   cases k with
   |pair ka kb=>
    obtain ⟨v1,v2,Fa,Fb,rfl,s1,s2,dj,h1,h2⟩:=he
    simp only [eU] at hloc
    rw [←h1.len,List.take_left] at hloc
    obtain ⟨g1,g2,g3⟩:=ih (k:=ka) h h1 hb hloc
    exact ⟨g1,g2.imp (s1 _) id,g3⟩
   |_=>simp [FW] at h
  |snd=>
   cases k with
   |pair ka kb=>
    obtain ⟨v1,v2,Fa,Fb,rfl,s1,s2,dj,h1,h2⟩:=he
    simp only [eU] at hloc
    rw [←h1.len,List.drop_left] at hloc
    obtain ⟨g1,g2,g3⟩:=ih (k:=kb) h h2 (fun x hx=>by
     cases base with
     |none=>simp at hx
     |some y=>simp only [Option.map_some,Option.some.injEq] at hx;subst hx;exact hb y rfl) hloc
    refine ⟨g1,g2.imp (s2 _) ?_,g3⟩
    rintro ⟨o0,ho⟩
    cases base with
    |none=>simp at ho
    |some y=>simp only [Option.map_some,Option.some.injEq,Prod.mk.injEq] at ho;exact ⟨y.2,by rw [←ho.1]⟩
   |_=>simp [FW] at h
  |idx i=>
   cases k with
   |sl e=>
    simp only [FW] at h
    split at h
    case h_2=>simp at h
    case h_1 x hx=>
    cases hown:m.dU with
    |false=>simp [hown] at h
    |true=>
    simp only [hown,cond_true] at h
    rcases he with ⟨rfl,_⟩|⟨_,rfl,_⟩|⟨hgone,b',off',cap,cs,T,fz,rfl,hc,hle,hs,hok,G,hG,hdj,hel⟩
    ·simp [Mask.dU] at hown
    ·simp at hx
    ·have hbF':F b'∧fz=(0,0):=by cases m<;>simp_all [Mask.dU,Og]
     obtain ⟨hbF,rfl⟩:=hbF'
     simp only [eU,lM,hc] at hloc
     obtain ⟨g1,g2,g3⟩:=ih (k:=e) h (hel i x hx) (fun y hy=>by simp only [Option.some.injEq] at hy;subst hy;exact ⟨cs,T,hc⟩) hloc
     refine ⟨g1,.inl ?_,g3⟩
     rcases g2 with g2|⟨o0,g2⟩
     ·exact (hG i).1 _ g2
     ·simp only [Option.some.injEq,Prod.mk.injEq] at g2;rw [←g2.1];exact hbF
   |_=>simp [FW] at h
theorem PO{T:TypeId}{ti:TI}(h:abQ P V T ti){b off:Nat}{cs:Array Value}{T':TypeId}{v:Value}(hc:w.heap[b]?=some (.cells cs T' (0,0)))(hs:v.cells.size=ti.k.size)
  (hfit:off+v.cells.toList.length≤cs.size) (h1:∀u∈v.cells.toList,u.oneCell'=true) :
  (Instr.storeAt T (.pointer (some ⟨b,off,none⟩)) v).run P w=.ok () (w.setRow b (bA cs off v.cells.toList)):=by
 have hst:=run_storeCells_at P b off T' v.cells.toList 0 cs w hc (by simpa using hfit) h1
 simp only [Nat.add_zero] at hst
 unfold Instr.storeAt Instr.sureAddr storeVar
 simp only [Sem.run_bind,Sem.run_pure,Result.andThen_ok,h.size]
 rw [if_neg (by simp [hs])]
 exact hst
theorem ali(hT:gq P V)(R:Rel w0 M0 n C0 C s a w){t:TypeId}{x y:Operand}(ho:o.op=.store t x y)(h:bC V o s.tmps s.roots c=some r) :
  ∃z,c z=some r∧Does P w0 M0 n C0 s a w o z:=by
 simp only [bC,ho] at h
 split at h
 case h_1=>simp at h
 case h_2 k hk=>
 obtain ⟨ti,hti,rfl⟩:=Env.wz hk
 have hty:=hT.ty _ _ hti
 split at h
 case h_2=>simp at h
 case h_1 q p hx=>
 have hp:=R.eval x
 rw [hx] at hp
 obtain ⟨hpA,_⟩:=hp.cell (by simp) rfl (by simp) (by simp)
 obtain ⟨b,off,hpv,hp0,hproot⟩:=hpA
 simp only [List.cons.injEq,and_true] at hpv
 have hy:=R.eval y
 obtain ⟨hA⟩:Nonempty (AVC w C s.roots (bf s.tmps y) (a.eval y).cells.toList):=by
  rcases hy with (hd|⟨_,vs,hv,hx⟩|⟨_,hx,hc⟩)|⟨vs,_,ht⟩
  ·rw [hd] at h;cases hk2:ti.k<;>rw [hk2] at h<;>simp [dL] at h
  ·rw [hv];exact ⟨hx⟩
  ·rw [hc];exact ⟨hx⟩
  ·cases he:bf s.tmps y<;>rw [he] at ht h<;>first|exact ht.elim|(cases hk2:ti.k<;>rw [hk2] at h<;>simp [dL] at h)
 obtain ⟨d1,m1,u,e,qs,F1,g,A⟩:=KM R.mem _ h L8 hA
 clear h
 cases hml:m1.live with
 |false=>rw [hml] at g;simp at g
 |true=>
 rw [hml] at g
 simp only [Bool.not_true,cond_false] at g
 split at g
 case h_1=>simp at g
 case h_2 z hz=>
 have Fd:=A.freed R.mem
 have hzq:s.roots q=some z∧q ∉ e:=by
  unfold look at hz
  rw [A.ended] at hz
  by_cases hqe:q∈e
  ·rw [if_pos hqe] at hz;cases hz
  ·rw [if_neg hqe] at hz;exact ⟨hz,hqe⟩
 obtain ⟨kp,cs0,hat,hcg,hloc⟩:=hproot z hzq.1
 obtain ⟨G,hG,hGs,hGm⟩:=R.mem.ok q z hzq.1
 have hbase:∀x,bK C q z=some x→∃cs T,w.heap[x.1]?=some (.cells cs T (0,0)):=by
  intro x hx
  unfold bK at hx
  split at hx
  ·rename_i hm;simp only [Option.some.injEq] at hx;subst hx;obtain ⟨_,_,T,hh⟩:=hGm hm;exact ⟨_,T,hh⟩
  ·cases hx
 have hbaseG:∀x,bK C q z=some x→¬G x.1:=by
  intro x hx
  unfold bK at hx
  split at hx
  ·rename_i hm;simp only [Option.some.injEq] at hx;subst hx;exact (hGm hm).1
  ·cases hx
 obtain ⟨⟨cs,T,hcs⟩,hbF,hat2⟩:=amC p g hG hbase hloc
 have hbq:C.F q b:=by
  rcases hbF with hbF|⟨o0,hbF⟩
  ·exact hGs _ hbF
  ·unfold bK at hbF
   split at hbF
   ·rename_i hm;simp only [Option.some.injEq,Prod.mk.injEq] at hbF;rw [←hbF.1];exact (hGm hm).2.1
   ·cases hbF
 have hap:=R.mem.apart q z b hzq.1 hbq
-- the cells that are written
 have hlen1:(a.eval y).cells.toList.length=ti.k.size:=A.enc.len
 have hfit:off+(a.eval y).cells.toList.length≤cs.size:=by
  obtain ⟨kk,dd,mm,vv,bb,hpl⟩:=Py (R.mem.ok q z hzq.1) hcg
  have h1:=hpl.lc
  rw [hloc] at h1
  simp only [Option.some.injEq,Prod.mk.injEq] at h1
  have h2:=hpl.at_
  rw [hat2] at h2
  simp only [Option.some.injEq] at h2
  obtain ⟨F,hF⟩:=hpl.enc
  have h3:=hF.len
  have h4:=hpl.lies
  rw [←h1.2] at h4
  obtain ⟨c2,T2,f2,k1,k2,_⟩:=h4
  rw [hcs] at k1
  simp only [Option.some.injEq,Obj.cells.injEq] at k1
  rw [←k1.1] at k2
  rw [hlen1,h2,←h3];exact k2
 have hrun:=PO hty hcs (v:=a.eval y) (by rw [←hlen1];simp) hfit (A.enc.one hml)
 have hoth:∀b',b'≠b→(w.setRow b (bA cs off (a.eval y).cells.toList)).heap[b']?=w.heap[b']?:=fun b' hb'=>setRow_other w b b' _ hb'
 have hsize:(w.setRow b (bA cs off (a.eval y).cells.toList)).heap.size=w.heap.size:=by simp [World.setRow]
 have hhere:=setRow_heap w b cs (bA cs off (a.eval y).cells.toList) T _ hcs
 have hw:Wrote w (w.setRow b (bA cs off (a.eval y).cells.toList)) b off (a.eval y).cells.toList:=⟨hsize,hoth,cs,T,_,hcs,hfit,hhere⟩
 have hFe:∀b',FU C e b'→b'≠b:=by
  rintro b' ⟨q',hq',hb'⟩ rfl
  obtain ⟨y',hy',_⟩:=A.was q' hq'
  exact R.mem.disj q' q y' z hy' hzq.1 (fun h=>hzq.2 (h ▸ hq')) b' hb' hbq
 have hZS:∀b',C.Z b'∨C.S b'→b'≠b:=by rintro b' hb' rfl;exact hb'.elim hap.1 hap.2.1
 have hnew:Enc (w.setRow b (bA cs off (a.eval y).cells.toList)) C.θ C.Z C.S ti.k m1 d1 (a.eval y).cells.toList F1:=
  A.enc.mono (.refl _) (.refl _) (.refl _) (fun b' hb'=>hoth b' (hb'.elim (fun h=>hFe b' (A.sub b' h)) (hZS b'))) (fun _ _=>rfl)
 obtain ⟨d',m',vs',g',_,hE',hL',hP',hVs,hSt⟩:=FX hnew hw hap.1 hap.2.1 p g hG (R.mem.ok q z hzq.1).lies hbaseG (by
  intro b' h1 h2
  obtain ⟨q',hq',hb'⟩:=A.sub b' h1
  obtain ⟨y',hy',_⟩:=A.was q' hq'
  exact R.mem.disj q' q y' z hy' hzq.1 (fun h=>hzq.2 (h ▸ hq')) b' hb' (hGs _ h2)) hloc
 clear g
 have hrs:∀(D:Del),D.u=(q,some ⟨z.mem,z.k,m',d'⟩)::u→D.make=false→∀q' y',(s.after o.dst D).roots q'=some y'→(q'=q∧y'=⟨z.mem,z.k,m',d'⟩)∨(q'≠q∧q' ∉ e∧s.roots q'=some y'):=by
  intro D hDu hDm q' y' hq'
  simp only [St.after,hDu,hDm,dn,Bool.false_and,cond_false] at hq'
  by_cases h0:q'=q
  ·rw [bW.2 h0] at hq';exact .inl ⟨h0,(Option.some.inj hq').symm⟩
  ·rw [gN h0] at hq'
   simp only [cond_false,A.ended] at hq'
   by_cases h1:q'∈e
   ·rw [if_pos h1] at hq';cases hq'
   ·rw [if_neg h1] at hq';exact .inr ⟨h0,h1,hq'⟩
 refine ⟨_,g',?_⟩
 intro hd hal next Q hn
 unfold Oper.wp
 rw [show (execOp a.eval o).run P w=.ok .skip (w.setRow b (bA cs off (a.eval y).cells.toList)) by
  simp only [execOp,ho,Sem.run_bind,hpv,hrun,Result.andThen_ok,Sem.run_pure]]
 show next (a.put o.dst undef) _
 have hrs':=hrs ⟨.dead,(q,some ⟨z.mem,z.k,m',d'⟩)::u,false,(bif ti.k.flat then ofs e else .at q p::ofs e),qs,none,(bf s.tmps y).names,q::e,false⟩ rfl rfl
 have hFq:∀q' y',q'≠q→q' ∉ e→s.roots q'=some y'→∀b',C.F q' b'→b'≠b∧¬C.F q b'∧¬FU C e b':=by
  intro q' y' h1 h2 h3 b' hb'
  refine ⟨?_,fun h=>R.mem.disj q' q y' z h3 hzq.1 h1 b' hb' h,?_⟩
  ·rintro rfl;exact R.mem.disj q' q y' z h3 hzq.1 h1 b' hb' hbq
  ·rintro ⟨q2,hq2,hb2⟩
   obtain ⟨y2,hy2,_⟩:=A.was q2 hq2
   exact R.mem.disj q' q2 y' y2 h3 hy2 (fun h=>h2 (h ▸ hq2)) b' hb' hb2
 have hθF1:z.mem=true→¬F1 (C.θ q):=by
  intro hm h1
  obtain ⟨q2,hq2,hb2⟩:=A.sub _ h1
  obtain ⟨y2,hy2,_⟩:=A.was q2 hq2
  exact R.mem.disj q2 q y2 z hy2 hzq.1 (fun h=>hzq.2 (h ▸ hq2)) _ hb2 (hGm hm).2.1
 have hptrs:∀p'∈aS z.k d',p'∈qs∨∃r' x',s.roots r'=some x'∧p'∈aS x'.k x'.d:=by
  intro p' hp'
  rcases hP' p' hp' with h|h
  ·exact .inr ⟨q,z,hzq.1,h⟩
  ·rcases A.ptrs p' h with h|⟨r',_,x',hx',h⟩
   ·exact .inl h
   ·exact .inr ⟨r',x',hx',h⟩
 refine hn _ _ _ (R.put (C':=⟨C.θ,fun q'=>if q'=q then vs' else C.ρ q',fun q'=>if q'=q then (fun b=>C.F q b∨FU C e b) else C.F q',C.Z,C.S⟩) hd rfl ⟨R.ext.Z,R.ext.S,R.ext.θ⟩ ⟨?_,?_,?_,?_,?_⟩ ?_ (fun _ _=>bH.dead) ?_ ?_ ?_ ?_ R.zn)
 ·intro q' y' hq'
  rcases hrs' q' y' hq' with ⟨rfl,rfl⟩|⟨h1,h2,h3⟩
  ·refine ⟨fun x=>G x∨F1 x,?_,?_,fun hm=>?_⟩
   ·simp only [if_true];exact hE'
   ·simp only [if_true];exact fun b' hb'=>hb'.imp (hGs b') (A.sub b')
   ·simp only [if_true]
    obtain ⟨k1,k2,T0,k3⟩:=hGm hm
    refine ⟨fun h=>h.elim k1 (hθF1 hm),.inl k2,?_⟩
    have hbm:bK C q' z=some (C.θ q',0):=by unfold bK;rw [if_pos hm]
    rw [hbm] at hL'
    obtain ⟨c2,T2,f2,l1,l2,l3⟩:=hL'
    have hvl:vs'.length=(C.ρ q').length:=by rw [hE'.len,hG.len]
    have hfin:∃c3 T3,(w.setRow b (bA cs off (a.eval y).cells.toList)).heap[C.θ q']?=some (.cells c3 T3 (0,0))∧c3.size=vs'.length:=by
     by_cases hbθ:b=C.θ q'
     ·refine ⟨bA cs off (a.eval y).cells.toList,T,by rw [←hbθ];exact hhere,?_⟩
      rw [←hbθ,hcs] at k3
      simp only [Option.some.injEq,Obj.cells.injEq] at k3
      rw [iC hfit,k3.1,hvl];simp
     ·exact ⟨_,T0,by rw [hoth _ (Ne.symm hbθ)];exact k3,by rw [hvl];simp⟩
    obtain ⟨c3,T3,m1,m2⟩:=hfin
    rw [m1] at l1
    simp only [Option.some.injEq,Obj.cells.injEq] at l1
    rw [←l1.1] at l3
    exact ⟨T3,by rw [m1,as3 l3 m2]⟩
  ·refine (R.mem.ok q' y' h3).keep rfl rfl rfl (if_neg h1) (if_neg h1) (fun _ _=>rfl) (fun b' hb'=>hoth b' ?_)
   rcases hb' with hb'|hb'
   ·exact (hFq q' y' h1 h2 h3 b' hb').1
   ·exact hZS b' hb'
 ·intro r1 r2 x1 x2 hr1 hr2 hne b' hb1 hb2
  rcases hrs' r1 x1 hr1 with ⟨rfl,rfl⟩|⟨h1,h2,h3⟩<;>rcases hrs' r2 x2 hr2 with ⟨rfl,rfl⟩|⟨k1,k2,k3⟩
  ·exact hne rfl
  ·simp only [if_true,if_neg k1] at hb1 hb2
   have:=hFq r2 x2 k1 k2 k3 b' hb2
   exact hb1.elim this.2.1 this.2.2
  ·simp only [if_true,if_neg h1] at hb1 hb2
   have:=hFq r1 x1 h1 h2 h3 b' hb1
   exact hb2.elim this.2.1 this.2.2
  ·simp only [if_neg h1,if_neg k1] at hb1 hb2
   exact R.mem.disj r1 r2 x1 x2 h3 k3 hne b' hb1 hb2
 ·intro r1 x1 b' hr1 hb'
  rw [hsize]
  rcases hrs' r1 x1 hr1 with ⟨rfl,rfl⟩|⟨h1,h2,h3⟩
  ·simp only [if_true] at hb'
   rcases hb' with hb'|hb'
   ·exact R.mem.apart r1 z b' hzq.1 hb'
   ·exact Fd.free R.mem hb'
  ·simp only [if_neg h1] at hb'
   exact R.mem.apart r1 x1 b' h3 hb'
 ·intro b' hb';rw [hsize];exact R.mem.ro b' hb'
 ·intro r1 x1 hr1 p' hp' x2 hr2
  have hm2:∃x3,s.roots p'=some x3∧x2.mem=x3.mem:=by
   rcases hrs' p' x2 hr2 with ⟨rfl,rfl⟩|⟨k1,k2,k3⟩
   ·exact ⟨z,hzq.1,rfl⟩
   ·exact ⟨x2,k3,rfl⟩
  obtain ⟨x3,hx3,hm3⟩:=hm2
  rw [hm3]
  rcases hrs' r1 x1 hr1 with ⟨rfl,rfl⟩|⟨h1,h2,h3⟩
  ·rcases hptrs p' hp' with h|⟨r',x',hx',h⟩
   ·exact A.pmem p' h x3 hx3
   ·exact R.mem.ptr r' x' hx' p' h x3 hx3
  ·exact R.mem.ptr r1 x1 h3 p' hp' x3 hx3
 ·refine Wp ?_
  intro av vs hvw hl hh hav
  simp only [dK,cond_false] at hh
  have hofs:hit (ofs e) av=false:=by
   cases hf:ti.k.flat with
   |true=>rw [hf] at hh;exact hh
   |false=>rw [hf] at hh;simp only [cond_false,hit,List.any_cons,Bool.or_eq_false_iff] at hh;exact hh.2
  have hat':ti.k.flat=true∨(Kill.at q p).hits av=false:=by
   cases hf:ti.k.flat with
   |true=>exact .inl rfl
   |false=>rw [hf] at hh;simp only [cond_false,hit,List.any_cons,Bool.or_eq_false_iff] at hh;exact .inr hh.1
  have hnames:=abC hl hofs
  by_cases hq:q∈av.names∧∀f caps,av≠.fn f caps
  ·-- what names the root that is written
   obtain ⟨hq,hfn⟩:=hq
   have hroot':∀y',(s.after o.dst ⟨.dead,(q,some ⟨z.mem,z.k,m',d'⟩)::u,false,(bif ti.k.flat then ofs e else .at q p::ofs e),qs,none,(bf s.tmps y).names,q::e,false⟩).roots q=some y'→y'=⟨z.mem,z.k,m',d'⟩:=by
    intro y' hy'
    rcases hrs' q y' hy' with ⟨_,h⟩|⟨h,_⟩
    ·exact h
    ·exact absurd rfl h
   cases av with
   |ptr q' p'=>
    simp only [AV.names,List.mem_singleton] at hq
    subst hq
    obtain ⟨b2,off2,rfl,h0,hr2⟩:=hav
    refine ⟨b2,off2,rfl,h0,fun y' hy'=>?_⟩
    rw [hroot' y' hy']
    obtain ⟨k2,cs2,e1,e2,e3⟩:=hr2 z hzq.1
    obtain ⟨f1,cs3,f2⟩:=(hSt p' k2 cs2 _ e1 e2 e3).1 (hat'.imp id fun h=>by
     simp only [Kill.hits,bW.2 rfl,Bool.true_and] at h;exact h)
    exact ⟨k2,cs3,e1,f1,by simp only [if_true];exact f2⟩
   |ref q' p'=>
    simp only [AV.names,List.mem_singleton] at hq
    subst hq
    obtain ⟨v2,rfl,hr2⟩:=hav
    refine ⟨v2,rfl,fun y' hy'=>?_⟩
    rw [hroot' y' hy']
    obtain ⟨e2,base2,g1,g2,g3⟩:=hr2 z hzq.1
    obtain ⟨f1,f2⟩:=(hSt p' _ _ _ g1 g2 g3).2 ⟨e2,rfl⟩ (hat'.imp id fun h=>by
     simp only [Kill.hits,bW.2 rfl,Bool.true_and] at h;exact h)
    exact ⟨e2,base2,g1,f1,by simp only [if_true];exact f2⟩
   |slc q' p' lo k0=>
    simp only [AV.names,List.mem_singleton] at hq
    subst hq
    obtain ⟨v2,v3,rfl,hr2⟩:=hav
    refine ⟨v2,v3,rfl,fun y' hy'=>?_⟩
    rw [hroot' y' hy']
    obtain ⟨e2,base2,g1,g2,g3,g4⟩:=hr2 z hzq.1
    obtain ⟨f1,f2⟩:=(hSt p' _ _ _ g1 g2 g3).2 ⟨e2,rfl⟩ (hat'.imp id fun h=>by
     simp only [Kill.hits,bW.2 rfl,Bool.true_and] at h;exact h)
    exact ⟨e2,base2,g1,f1,by simp only [if_true];exact f2,g4⟩
   |fn f caps=>exact absurd rfl (hfn f caps)
   |vw _ _ _=>simp [AV.Wi] at hvw
   |pair _ _=>simp [AV.dS] at hl
   |tcons _ _=>simp [AV.dS] at hl
   |_=>simp [AV.names] at hq
  ·by_cases hfn:∃f caps,av=.fn f caps
   ·obtain ⟨f,caps,rfl⟩:=hfn
    refine ⟨hav.1,fun q' hq' y' hy'=>?_⟩
    rcases hrs' q' y' hy' with ⟨rfl,rfl⟩|⟨_,_,h3⟩
    ·exact hav.2 q' hq' z hzq.1
    ·exact hav.2 q' hq' y' h3
   ·have hq2:q ∉ av.names:=fun h=>hq ⟨h,fun f caps he=>hfn ⟨f,caps,he⟩⟩
    refine kN (C':=⟨C.θ,fun q'=>if q'=q then vs' else C.ρ q',fun q'=>if q'=q then (fun b=>C.F q b∨FU C e b) else C.F q',C.Z,C.S⟩) R.mem (fun q'=>q'=q∨q'∈e) rfl rfl (fun _ _=>rfl) (fun q' h=>if_neg (fun h'=>h (.inl h'))) ?_ ?_ hl (fun q' hq' h=>h.elim (fun h=>hq2 (h ▸ hq')) (hnames q' hq')) hav
    ·intro q' y' h hy'
     rcases hrs' q' y' hy' with ⟨h1,_⟩|⟨_,_,h3⟩
     ·exact absurd (.inl h1) h
     ·exact h3
    ·intro b' hb'
     refine hoth b' ?_
     rcases hb' with hb'|hb'|⟨q',y',h,hy',hb'⟩
     ·exact hZS b' (.inl hb')
     ·exact hZS b' (.inr hb')
     ·exact (hFq q' y' (fun h'=>h (.inl h')) (fun h'=>h (.inr h')) hy' b' hb').1
 ·refine ⟨R.kept.os,R.kept.tape,R.kept.output,by rw [hsize];exact R.kept.size,fun b' hb' hm=>?_⟩
  rw [hoth b' ?_];exact R.kept.block b' hb' hm
  rintro rfl
  exact (R.foot q z b' hzq.1 hbq).elim (fun h=>by omega) hm
 ·intro r1 x1 b' hr1 hb'
  rcases hrs' r1 x1 hr1 with ⟨rfl,rfl⟩|⟨h1,h2,h3⟩
  ·simp only [if_true] at hb'
   rcases hb' with hb'|⟨q2,hq2,hb2⟩
   ·exact R.foot r1 z b' hzq.1 hb'
   ·obtain ⟨y2,hy2,_⟩:=A.was q2 hq2
    exact R.foot q2 y2 b' hy2 hb2
  ·simp only [if_neg h1] at hb'
   exact R.foot r1 x1 b' h3 hb'
 ·intro r1 x1 hr1 p' hp' h2
  simp only [St.after,Bool.or_eq_true,List.any_eq_true]
  rcases hrs' r1 x1 hr1 with ⟨rfl,rfl⟩|⟨_,_,h3⟩
  ·rcases hptrs p' hp' with h|⟨r',x',hx',h⟩
   ·exact .inr ⟨p',h,beq_iff.2 rfl⟩
   ·exact .inl (R.pins r' x' hx' p' h h2)
  ·exact .inl (R.pins r1 x1 h3 p' hp' h2)
 ·intro i y1 hi hm
  rcases hrs' _ y1 hi with ⟨h1,rfl⟩|⟨h1,_,h3⟩
  ·show (if (0,i)=q then vs' else _)=_
   rw [if_pos h1]
   rcases hVs with ⟨_,hvs⟩|⟨o0,hb,_⟩
   ·rw [hvs,←h1];exact R.parρ i z (by rw [h1];exact hzq.1) hm
   ·unfold bK at hb
    have hm':z.mem=false:=hm
    rw [if_neg (by simp [hm'])] at hb;cases hb
  ·show (if (0,i)=q then vs' else _)=_
   rw [if_neg h1];exact R.parρ i y1 h3 hm
theorem AVC.ren{C':Ctx}{rs rs':RF}{q q2:ay}{y:Root}(hq:rs q=some y)(hm:y.mem=false)
  (hC:C'=C.with q2 (C.θ q) (C.ρ q) (C.F q)) (hrs:∀p x,rs' p=some x→(p=q2∧x=y)∨(p≠q2∧p≠q∧rs p=some x)) :
  ∀(av:AV)(vs:List Value),(∀p∈av.names,p≠q2)→AVC w C rs av vs→AVC w C' rs' (av.ren q q2) vs:=by
 subst hC
 have hmono:∀{z:Bool}{k:K}{d:k.den}{vs:List Value},k.plain=true→Enc w C.θ C.Z C.S k (.imm z) d vs noB→Enc w (C.with q2 (C.θ q) (C.ρ q) (C.F q)).θ C.Z C.S k (.imm z) d vs noB:=by
  intro z k d vs hp he
  exact he.mono (.refl _) (.refl _) (.refl _) (fun _ _=>rfl) (fun p hp'=>by rw [bV d hp] at hp';cases hp')
 have hstay:∀(p:ay)(x:Root),p≠q2→rs' p=some x→rs p=some x∧(C.with q2 (C.θ q) (C.ρ q) (C.F q)).ρ p=C.ρ p∧bK (C.with q2 (C.θ q) (C.ρ q) (C.F q)) p x=bK C p x:=by
  intro p x hp hx
  rcases hrs p x hx with ⟨h,_⟩|⟨h1,h2,h3⟩
  ·exact absurd h hp
  ·exact ⟨h3,Ctx.with_ρ h1,by unfold bK;rw [Ctx.with_θ h1]⟩
 have hnew:∀(x:Root),rs' q2=some x→x=y∧(C.with q2 (C.θ q) (C.ρ q) (C.F q)).ρ q2=C.ρ q∧bK (C.with q2 (C.θ q) (C.ρ q) (C.F q)) q2 x=bK C q y:=by
  intro x hx
  rcases hrs q2 x hx with ⟨_,rfl⟩|⟨h1,_⟩
  ·exact ⟨rfl,Ctx.with_ρ0,by unfold bK;rw [if_neg (by simp [hm]),if_neg (by simp [hm])]⟩
  ·exact absurd rfl h1
 intro av
 induction av with
 |pair a b iha ihb=>
  intro vs hn hv
  obtain ⟨v1,v2,rfl,h1,h2⟩:=hv
  exact ⟨v1,v2,rfl,iha _ (fun p hp=>hn p (by simp [AV.names,hp])) h1,ihb _ (fun p hp=>hn p (by simp [AV.names,hp])) h2⟩
 |tcons a b _ _=>intro vs _ hv;exact hv.elim
 |tnil=>intro vs _ hv;exact hv.elim
 |dead=>intro vs _ _;trivial
 |imm z k d=>intro vs _ hv;exact ⟨hv.1,hmono hv.1 hv.2⟩
 |nn z e d=>intro vs _ hv;exact ⟨hv.1,hmono (k:=.sl e) hv.1 hv.2.1,hv.2.2⟩
 |vw r p L=>
  intro vs hn hv
  have hst:∀(a:ay)(pp:Path)(v:Value),a≠q2→AVC w C rs (.ref a pp) [v]→AVC w (C.with q2 (C.θ q) (C.ρ q) (C.F q)) rs' (.ref a pp) [v]:=by
   intro a pp v ha hr
   obtain ⟨v',he,hr⟩:=hr
   refine ⟨v',he,fun x hx=>?_⟩
   obtain ⟨h1,h2,h3⟩:=hstay a x ha hx
   rw [h2,h3];exact hr x h1
  have hp2:r≠q2:=hn r (by simp [AV.names])
  refine AVC.aip (fun hv=>?_) (fun e he v=>⟨hst _ _ v hp2,hst _ _ v (hn _ (by simp only [AV.names];exact List.mem_cons_of_mem _ (List.mem_map.2 ⟨e,he,rfl⟩)))⟩) hv
  obtain ⟨b,off,rfl,h0,hr⟩:=hv
  refine ⟨b,off,rfl,fun h=>by rw [Ctx.with_θ hp2];exact h0 h,fun x hx=>?_⟩
  obtain ⟨h1,h2,h3⟩:=hstay r x hp2 hx
  rw [h2,h3];exact hr x h1
 |nil=>intro vs _ hv;exact hv
 |emp=>intro vs _ hv;exact hv
 |nilp=>intro vs _ hv;exact hv
 |ptr p pp=>
  intro vs hn hv
  obtain ⟨b,off,rfl,h0,hr⟩:=hv
  have hp2:p≠q2:=hn p (by simp [AV.names])
  refine ⟨b,off,rfl,fun h=>by rw [Ctx.with_θ hp2];exact h0 h,fun x hx=>?_⟩
  obtain ⟨h1,h2,h3⟩:=hstay p x hp2 hx
  rw [h2,h3];exact hr x h1
 |iptr z k d p=>
  intro vs _ hv
  obtain ⟨vs0,b,off,cs,k',h1,h2,h3⟩:=hv
  exact ⟨vs0,b,off,cs,k',h1,hmono h1 h2,h3⟩
 |ref p pp=>
  intro vs hn hv
  obtain ⟨v,rfl,hr⟩:=hv
  have hp2:p≠q2:=hn p (by simp [AV.names])
  simp only [AV.ren]
  by_cases h:p=q
  ·subst h
   rw [bW.2 rfl]
   refine ⟨v,rfl,fun x hx=>?_⟩
   obtain ⟨rfl,h2,h3⟩:=hnew x hx
   rw [h2,h3];exact hr x hq
  ·rw [gN (Ne.symm h)]
   refine ⟨v,rfl,fun x hx=>?_⟩
   obtain ⟨h1,h2,h3⟩:=hstay p x hp2 hx
   rw [h2,h3];exact hr x h1
 |slc p pp lo k0=>
  intro vs hn hv
  obtain ⟨v,v0,rfl,hr⟩:=hv
  have hp2:p≠q2:=hn p (by simp [AV.names])
  simp only [AV.ren]
  by_cases h:p=q
  ·subst h
   rw [bW.2 rfl]
   refine ⟨v,v0,rfl,fun x hx=>?_⟩
   obtain ⟨rfl,h2,h3⟩:=hnew x hx
   rw [h2,h3];exact hr x hq
  ·rw [gN (Ne.symm h)]
   refine ⟨v,v0,rfl,fun x hx=>?_⟩
   obtain ⟨h1,h2,h3⟩:=hstay p x hp2 hx
   rw [h2,h3];exact hr x h1
 |fn f caps=>
  intro vs hn hv
  refine ⟨?_,fun p hp x hx=>?_⟩
  ·rw [hv.1]
   have:DJ C.θ caps=DJ (C.with q2 (C.θ q) (C.ρ q) (C.F q)).θ caps:=by
    unfold DJ
    congr 1
    exact List.map_congr_left fun p hp=>by rw [Ctx.with_θ (hn p (by simpa [AV.names] using hp))]
   rw [this]
  ·exact hv.2 p hp x (hstay p x (hn p (by simpa [AV.names] using hp)) hx).1
theorem anz(q q2:ay)(av:AV):(av.ren q q2).agg=av.agg:=by
 cases av<;>simp only [AV.ren]<;>first|rfl|(cases req q _<;>rfl)
theorem bH.ren{C':Ctx}{rs rs':RF}{q q2:ay}{y:Root}(hq:rs q=some y)(hm:y.mem=false)
  (hC:C'=C.with q2 (C.θ q) (C.ρ q) (C.F q)) (hrs:∀p x,rs' p=some x→(p=q2∧x=y)∨(p≠q2∧p≠q∧rs p=some x)) {v:Value} {av:AV} (hn:∀p∈av.names,p≠q2) (hv:bH w C rs v av) :
  bH w C' rs' v (av.ren q q2):=by
 have h1:∀{v:Value}{av:AV},(∀p∈av.names,p≠q2)→GH w C rs v av→GH w C' rs' v (av.ren q q2):=by
  intro v av hn hv
  rcases hv with rfl|⟨ha,vs,rfl,hv⟩|⟨ha,hv,hc⟩
  ·exact .inl rfl
  ·exact .inr (.inl ⟨by rw [anz];exact ha,vs,rfl,AVC.ren hq hm hC hrs _ _ hn hv⟩)
  ·exact .inr (.inr ⟨by rw [anz];exact ha,AVC.ren hq hm hC hrs _ _ hn hv,hc⟩)
 rcases hv with hv|⟨vs,rfl,hv⟩
 ·exact .inl (h1 hn hv)
 ·refine .inr ⟨vs,rfl,?_⟩
  have:∀(av:AV)(vs:List Value),(∀p∈av.names,p≠q2)→XT w C rs av vs→XT w C' rs' (av.ren q q2) vs:=by
   intro av
   induction av with
   |tcons a b _ ihb=>
    intro vs hn hv
    obtain ⟨v,l,rfl,k1,k2⟩:=hv
    exact ⟨v,l,rfl,h1 (fun p hp=>hn p (by simp [AV.names,hp])) k1,ihb _ (fun p hp=>hn p (by simp [AV.names,hp])) k2⟩
   |tnil=>intro vs _ hv;exact hv
   |_=>intro vs _ hv;exact hv.elim
  exact this av vs hn hv
theorem afe(q2:ay):∀(av:AV),∀p∈(AV.kills [.of q2] av).names,p≠q2:=by
 intro av
 induction av with
 |pair a b iha ihb=>
  intro p hp
  rw [j6] at hp
  simp only [AV.names,List.mem_append] at hp
  exact hp.elim (iha p) (ihb p)
 |tcons a b iha ihb=>
  intro p hp
  rw [kL] at hp
  simp only [AV.names,List.mem_append] at hp
  exact hp.elim (iha p) (ihb p)
 |_=>
  intro p hp
  rw [fK _ _ rfl] at hp
  cases hh:hit [.of q2] _ with
  |true=>rw [hh] at hp;cases hp
  |false=>
   rw [hh] at hp
   have:=abC (e:=[q2]) rfl hh p hp
   simpa using this
theorem aiT(R:Rel w0 M0 n C0 C s a w){x:Operand}(ho:o.op=.assign x)(h:bC V o s.tmps s.roots c=some r) :
  ∃z,c z=some r∧Does P w0 M0 n C0 s a w o z:=by
 simp only [bC,ho] at h
 have hx:=R.eval x
 have hrun:(execOp a.eval o).run P w=.ok (.value (a.eval x)) w:=by simp [execOp,ho]
 have hplain:∀av,bH w C s.roots (a.eval x) av→Does P w0 M0 n C0 s a w o ⟨av,[],false,[],[],none,[],[],true⟩:=fun av hav=>Does.plain (rd:=[]) R hrun hav
 split at h
 case h_2=>exact ⟨_,h,hplain _ hx⟩
 case h_1 d j hev=>
 rw [hev] at hx
 cases hsame:(Nat.beq d (o.dst.getD 0)&&Nat.beq j 0) with
 |true=>
  rw [hsame] at h
  exact ⟨_,h,hplain _ hx⟩
 |false=>
 rw [hsame] at h
 simp only [cond_false] at h
 split at h
 case h_1=>simp at h
 case h_2 y hy=>
 cases hmn:(y.mem||aqE V (o.dst.getD 0)) with
 |true=>rw [hmn] at h;exact ⟨_,h,Does.plain (rd:=[]) R hrun hx⟩
 |false=>
 have hm:y.mem=false:=by cases hy:y.mem with
  |false=>rfl
  |true=>rw [hy,Bool.true_or] at hmn;cases hmn
 simp only [hmn,cond_false] at h
 refine ⟨_,h,?_⟩
 intro hd hal next Q hn
 obtain ⟨d0,hdst⟩:∃d0,o.dst=some d0:=by
  cases hh:o.dst with
  |none=>rw [hh] at hal;simp [allowed] at hal
  |some d0=>exact ⟨d0,rfl⟩
 have hpin:s.pins (d0+2)=false:=by
  rw [hdst] at hal
  simp only [allowed,Option.isNone,Bool.and_false,Bool.false_or,Bool.and_eq_true,Bool.not_eq_true'] at hal
  exact hal.1
 have hd0:=hd d0 hdst
 unfold Oper.wp
 rw [hrun]
 show next (a.put o.dst _) _
 rw [hdst] at hn hsame ⊢
 simp only [Option.getD_some] at hn hsame ⊢
 have hne:((d+2,j):ay)≠loc d0 0:=by
  intro he
  simp only [Prod.mk.injEq] at he
  rw [show d=d0 by omega,he.2,beq_iff.2 rfl,beq_iff.2 rfl] at hsame
  cases hsame
 refine hn _ _ (C.with (loc d0 0) (C.θ (d+2,j)) (C.ρ (d+2,j)) (C.F (d+2,j))) ?_
 have hrs:∀p z,(s.after (some d0) ⟨.ref (loc d0 0) [],[(loc d0 0,some y),((d+2,j),none)],false,[.of (loc d0 0)],[],some ((d+2,j),loc d0 0),[],[],true⟩).roots p=some z →
   (p=loc d0 0∧z=y)∨(p≠loc d0 0∧p≠(d+2,j)∧s.roots p=some z):=by
  intro p z hp
  simp only [St.after,dn,Bool.false_and,cond_false] at hp
  by_cases h0:p=loc d0 0
  ·rw [bW.2 h0] at hp;exact .inl ⟨h0,(Option.some.inj hp).symm⟩
  ·rw [gN h0] at hp
   simp only [cond_false] at hp
   by_cases h1:p=(d+2,j)
   ·rw [bW.2 h1] at hp;cases hp
   ·rw [gN h1] at hp;exact .inr ⟨h0,h1,hp⟩
 have hpq:∀p z,s.roots p=some z→∀p'∈aS z.k z.d,p'≠loc d0 0:=by
  rintro p z hz p' hp' rfl
  have:=R.pins p z hz _ hp' (by simp)
  rw [hpin] at this;cases this
-- what was known of the name before has ended
 have hstep:∀{v:Value}{av:AV},bH w C s.roots v av→bH w C s.roots v (AV.kills [.of (loc d0 0)] av):=fun hv=>hv.step fun _ _ _ _ h=>h
 have hren:∀{v:Value}{av:AV},bH w C s.roots v av→bH w (C.with (loc d0 0) (C.θ (d+2,j)) (C.ρ (d+2,j)) (C.F (d+2,j)))
   (s.after (some d0) ⟨.ref (loc d0 0) [],[(loc d0 0,some y),((d+2,j),none)],false,[.of (loc d0 0)],[],some ((d+2,j),loc d0 0),[],[],true⟩).roots v ((AV.kills [.of (loc d0 0)] av).ren (d+2,j) (loc d0 0)):=
  fun hv=>(hstep hv).ren hy hm rfl hrs (afe _ _)
 refine ⟨⟨R.ext.Z,R.ext.S,fun i=>?_⟩,⟨?_,?_,?_,?_,?_⟩,?_,R.kept,?_,?_,R.defers,by simp [Act.put,R.room],?_,R.zn⟩
 ·rw [Ctx.with_θ (by intro h;cases h)];exact R.ext.θ i
 ·intro p z hp
  rcases hrs p z hp with ⟨rfl,rfl⟩|⟨h1,h2,h3⟩
  ·obtain ⟨G,g1,g2,g3⟩:=R.mem.ok _ _ hy
   refine ⟨G,?_,by rw [Ctx.iZ];exact g2,fun h=>by rw [hm] at h;cases h⟩
   rw [Ctx.with_ρ0]
   exact g1.mono (.refl _) (.refl _) (.refl _) (fun _ _=>rfl) (fun p' hp'=>Ctx.with_θ (hpq _ _ hy p' hp'))
  ·exact (R.mem.ok p z h3).keep rfl rfl (Ctx.with_θ h1) (Ctx.with_ρ h1) (Ctx.iU h1) (fun p' hp'=>Ctx.with_θ (hpq p z h3 p' hp')) (fun _ _=>rfl)
 ·intro p p' z z' hp hp' hpp
  rcases hrs p z hp with ⟨rfl,rfl⟩|⟨h1,h2,h3⟩<;>rcases hrs p' z' hp' with ⟨rfl,rfl⟩|⟨k1,k2,k3⟩
  ·exact absurd rfl hpp
  ·rw [Ctx.iZ,Ctx.iU k1];exact R.mem.disj _ _ _ _ hy k3 (Ne.symm k2)
  ·rw [Ctx.iZ,Ctx.iU h1];exact R.mem.disj _ _ _ _ h3 hy h2
  ·rw [Ctx.iU h1,Ctx.iU k1];exact R.mem.disj _ _ _ _ h3 k3 hpp
 ·intro p z b hp hb
  rcases hrs p z hp with ⟨rfl,rfl⟩|⟨h1,h2,h3⟩
  ·rw [Ctx.iZ] at hb;exact R.mem.apart _ _ b hy hb
  ·rw [Ctx.iU h1] at hb;exact R.mem.apart _ _ b h3 hb
 ·exact R.mem.ro
 ·intro p z hp p' hp' z' hz'
  have hp0:∃p0 z0,s.roots p0=some z0∧p'∈aS z0.k z0.d:=by
   rcases hrs p z hp with ⟨rfl,rfl⟩|⟨h1,h2,h3⟩
   ·exact ⟨_,_,hy,hp'⟩
   ·exact ⟨_,_,h3,hp'⟩
  obtain ⟨p0,z0,k1,k2⟩:=hp0
  rcases hrs p' z' hz' with ⟨rfl,rfl⟩|⟨h1,h2,h3⟩
  ·exact absurd rfl (hpq p0 z0 k1 _ k2)
  ·exact R.mem.ptr p0 z0 k1 p' k2 z' h3
 ·intro t
  show bH w _ _ ((a.put (some d0) (a.eval x)).tmps.getD t undef) (bif Nat.beq t d0 then _ else mV (some ((d+2,j),loc d0 0)) (AV.kills (dK _ _) (s.tmps t)))
  rw [acn (by rw [R.room];exact hd0)]
  by_cases ht:t=d0
  ·rw [if_pos ht,beq_iff.2 ht]
   simp only [cond_true]
   obtain ⟨hA,hc⟩:=hx.cell (by simp) rfl (by simp) (by simp)
   refine bH.mk ?_ rfl hc
   obtain ⟨v,hv,hr⟩:=hA
   refine ⟨v,hv,fun z hz=>?_⟩
   rcases hrs _ z hz with ⟨_,rfl⟩|⟨h1,_⟩
   ·rw [Ctx.with_ρ0]
    have hb:bK (C.with (loc d0 0) (C.θ (d+2,j)) (C.ρ (d+2,j)) (C.F (d+2,j))) (loc d0 0) z=bK C (d+2,j) z:=by
     unfold bK;rw [if_neg (by simp [hm]),if_neg (by simp [hm])]
    rw [hb];exact hr z hy
   ·exact absurd rfl h1
  ·rw [if_neg ht,gJ ht]
   exact hren (R.tm t)
 ·intro p z b hp hb
  rcases hrs p z hp with ⟨rfl,rfl⟩|⟨h1,h2,h3⟩
  ·rw [Ctx.iZ] at hb;exact R.foot _ _ b hy hb
  ·rw [Ctx.iU h1] at hb;exact R.foot _ _ b h3 hb
 ·intro p z hp p' hp' h2
  simp only [St.after,List.any_nil,Bool.or_false]
  rcases hrs p z hp with ⟨rfl,rfl⟩|⟨_,_,h3⟩
  ·exact R.pins _ _ hy p' hp' h2
  ·exact R.pins _ _ h3 p' hp' h2
 ·intro i z hp hm2
  rcases hrs _ z hp with ⟨h,_⟩|⟨h1,_,h3⟩
  ·cases h
  ·rw [Ctx.with_ρ h1];exact R.parρ i z h3 hm2
end
end Go.Abs
namespace Go.Abs
def WO(l:List Root):RF:=fun r=>match r with
 | (0,i)=>l[i]?
 |_=>none
def Kh(co:aA):RF:=fun r=>match r with
 | (0,i)=>co.roots[i]?
 | (1,j)=>co.fresh[j]?
 |_=>none
def yD(C:Ctx)(l:List Root):BS:=fun b=>∃i x,l[i]?=some x∧C.F (par i) b
structure Oi(w:World)(C:Ctx)(ci:Tz)(co:aA)(v:Value)(w':World)(C':Ctx):Prop where
 Z:Sub C.Z C'.Z
 S:C'.S=C.S
 θ:∀i,C'.θ (par i)=C.θ (par i)
 mem:Mem w' C' (Kh co)
 val:bH w' C' (Kh co) v co.res
 ρ:∀i x,co.roots[i]?=some x→x.mem=false→C'.ρ (par i)=C.ρ (par i)
 kept:Keeps (yD C ci.roots) w w'
 foot:∀r x b,Kh co r=some x→C'.F r b→w.heap.size≤b∨yD C ci.roots b
 zn:∀b,C'.Z b→C.Z b∨w.heap.size≤b∨yD C ci.roots b
def abP(w:World)(C:Ctx)(ci:Tz)(co:aA)(w':World)(C':Ctx):Prop:=
 ∀p l x,ci.args=.ref (0,0) p::l→ci.roots=[x]→∃d' m' e,co.roots=[⟨x.mem,x.k,m',d'⟩]∧atd w w' x.k x.d d' x.m m' (C.ρ (par 0)) (C'.ρ (par 0)) (bK C (par 0) x) (.sl e) (p++[.idx 0])
structure Glb where
 blocks:List Nat
 holds:World→Prop
 congr:∀w w':World,(∀b∈blocks,w'.heap[b]?=w.heap[b]?)→holds w→holds w'
def Glb.none:Glb:=⟨[],fun _=>True,fun _ _ _ h=>h⟩
def Glb.ok(Γ:Glb)(w:World)(C:Ctx):Prop:=(∀b∈Γ.blocks,C.Z b)∧Γ.holds w
def Contract(P:Program)(Γ:Glb)(f:FuncId)(q:Ctr):Prop:=
 ∀(w:World)(C:Ctx)(ci:Tz)(co:aA)(vals:Array Value),Mem w C (WO ci.roots)→(∀x∈ci.roots,∀p∈aS x.k x.d,p.1=0)→vals.size=ci.args.length →
  (∀(i:Nat)(v:Value)(a:AV),vals[i]?=some v→ci.args[i]?=some a→bH w C (WO ci.roots) v a)→Γ.ok w C→(q.G ci).run some=some co →
  Calls P f vals w fun e w'=>match e with
   |.returned v=>∃C',Oi w C ci co v w' C'∧(q.soft=true→abP w C ci co w' C')
   |_=>False
def Enters(P:Program)(f:FuncId):Prop:=∃fn,P.funcs[f]?=some fn∧(fn.name =="runtime.NumGoroutine")=false∧fn.body.isNone=false
def afH(P:Program)(Γ:Glb)(V:Env):Prop:=∀f q,V.ctr f=some q→Contract P Γ f q∧Enters P f
structure XR(P:Program)(Γ:Glb)(V:Env)(w0:World)(M0:BS)(C0:Ctx):Prop where
 env:afH P Γ V
 gl:(∀b∈Γ.blocks,C0.Z b∧¬M0 b∧b<w0.heap.size)∧Γ.holds w0
theorem XR.here{P:Program}{Γ:Glb}{V:Env}{w0 w:World}{M0:BS}{n:Nat}{C0 C:Ctx}{s:St}{a:Act}(h:XR P Γ V w0 M0 C0)(R:Rel w0 M0 n C0 C s a w):(∀b∈Γ.blocks,C.Z b)∧Γ.holds w:=
 ⟨fun b hb=>R.ext.Z b (h.gl.1 b hb).1,Γ.congr w0 w (fun b hb=>R.kept.block b (h.gl.1 b hb).2.2 (h.gl.1 b hb).2.1) h.gl.2⟩
section
variable {P : Program} {V : Env} {w0 w : World} {M0 : BS} {n : Nat} {C0 C : Ctx} {s : St} {a : Act}
variable {R' : Type} {r : R'} {o : Oper} {c : Del → Option R'}
structure Callee(C:Ctx)(rs:RF)(sn:List ay)(g:Reg)(Cc:Ctx)(rsc:RF):Prop where
 Z:Cc.Z=C.Z
 S:Sub C.S Cc.S
 sn:∀r∈sn,Sub (C.F r) Cc.S
 θ:∀i r,g[i]?=some r→Cc.θ (par i)=C.θ r
 ρ:∀i r,g[i]?=some r→Cc.ρ (par i)=C.ρ r
 root:∀i y,rsc (par i)=some y→∃r x,g[i]?=some r∧rs r=some x∧y.mem=x.mem∧y.k=x.k∧∀p,cO x.k x.d x.m p→cO y.k y.d y.m p
theorem UR{C:Ctx}{q:ay}{x:Root}{p:Path}{k:K}{d:k.den}{m:Mask}{vs:List Value}{b1:Option (Nat×Nat)}(h:uz w C q x)(hp:Place w C q x p k d m vs b1) :
  ∃F,Enc w C.θ C.Z C.S k m d vs F∧Sub F (C.F q):=by
 have hl:=h.lies
 obtain ⟨G,he,hs,_⟩:=h
 have h1:=hp.get _ (fun k d m=>some ((⟨k,d⟩:Σ k:K,k.den),m))
 obtain ⟨k',d',m',vs',b1',F',g1,g2,g3,g4,g5,_⟩:=TT p h1 he hl
 simp only [Option.some.injEq,Prod.mk.injEq,Sigma.mk.injEq] at g1
 obtain ⟨⟨rfl,h2⟩,rfl⟩:=g1
 cases h2
 have:=hp.lc
 rw [g3] at this
 simp only [Option.some.injEq,Prod.mk.injEq] at this
 obtain ⟨rfl,_⟩:=this
 exact ⟨F',g4,g5.trans hs⟩
theorem QM{p:ay}:∀(g:Reg)(i j:Nat),Reg.find p g i=some j→i≤j∧g[j-i]?=some p:=by
 intro g
 induction g with
 |nil=>intro i j h;simp [Reg.find] at h
 |cons q g ih=>
  intro i j h
  simp only [Reg.find] at h
  by_cases hq:p=q
  ·rw [bW.2 hq] at h
   simp only [cond_true,Option.some.injEq] at h
   subst h
   simp [hq]
  ·rw [gN hq] at h
   obtain ⟨h1,h2⟩:=ih _ _ h
   refine ⟨by omega,?_⟩
   rw [show j-i=(j-(i+1))+1 by omega]
   simpa using h2
theorem afY{p:ay}:∀(g:Reg)(i:Nat),Reg.find p g i=none→p ∉ g:=by
 intro g
 induction g with
 |nil=>intro i _ h;cases h
 |cons q g ih=>
  intro i h
  simp only [Reg.find] at h
  by_cases hq:p=q
  ·rw [bW.2 hq] at h;simp at h
  ·rw [gN hq] at h
   simp only [List.mem_cons,not_or]
   exact ⟨hq,ih _ h⟩
theorem adE{p:ay}{g:Reg}{i:Nat}{g1:Reg}(h:Reg.put p g=(i,g1)):g1[i]?=some p∧(∃t,g1=g++t)∧(g.Nodup→g1.Nodup):=by
 unfold Reg.put at h
 split at h
 ·rename_i j hj
  simp only [Prod.mk.injEq] at h
  obtain ⟨rfl,rfl⟩:=h
  obtain ⟨_,h2⟩:=QM _ _ _ hj
  exact ⟨by simpa using h2,⟨[],by simp⟩,id⟩
 ·rename_i hj
  simp only [Prod.mk.injEq] at h
  obtain ⟨rfl,rfl⟩:=h
  have hn:=afY _ _ hj
  refine ⟨by simp,⟨[p],rfl⟩,fun h=>?_⟩
  rw [List.nodup_append]
  exact ⟨h,by simp,by intro x hx y hy;simp only [List.mem_singleton] at hy;subst hy;rintro rfl;exact hn hx⟩
theorem Y4:∀(l:List ay){g:Reg}{l':List ay}{g1:Reg},Reg.puts l g=(l',g1)→(∃t,g1=g++t)∧(g.Nodup→g1.Nodup)∧l'.length=l.length ∧
  ∀(j:Nat)(p:ay),l[j]?=some p→∃i:Nat,l'[j]?=some (par i)∧g1[i]?=some p:=by
 intro l
 induction l with
 |nil=>
  intro g l' g1 h
  simp only [Reg.puts,Prod.mk.injEq] at h
  obtain ⟨rfl,rfl⟩:=h
  exact ⟨⟨[],by simp⟩,id,rfl,by simp⟩
 |cons p l ih=>
  intro g l' g1 h
  simp only [Reg.puts] at h
  generalize hp:Reg.put p g=pr at h
  obtain ⟨i,g2⟩:=pr
  simp only at h
  generalize hps:Reg.puts l g2=pr at h
  obtain ⟨l2,g3⟩:=pr
  simp only [Prod.mk.injEq] at h
  obtain ⟨rfl,rfl⟩:=h
  obtain ⟨h1,⟨t,rfl⟩,h3⟩:=adE hp
  obtain ⟨⟨t2,rfl⟩,k2,k3,k4⟩:=ih hps
  refine ⟨⟨t++t2,by simp⟩,fun h=>k2 (h3 h),by simp [k3],fun j q hj=>?_⟩
  cases j with
  |zero=>
   simp only [List.getElem?_cons_zero,Option.some.injEq] at hj
   subst hj
   exact ⟨i,rfl,by rw [List.getElem?_append_left (List.getElem?_eq_some_iff.1 h1).1];exact h1⟩
  |succ j=>simpa using k4 j q (by simpa using hj)
theorem abB{α:Type}{l t:List α}{i:Nat}{x:α}(h:l[i]?=some x):(l++t)[i]?=some x:=by
 rw [List.getElem?_append_left (List.getElem?_eq_some_iff.1 h).1];exact h
theorem afc{w:World}{C:Ctx}{rs:RF}{R:Type}{r:R}{z:Bool}:∀{k:K}{d:k.den}{p:Path}{c:AV→Option R},QW z k d p c=some r →
  ∃(k1:K) (d1:k1.den) (p1:Path),c (.iptr z k1 d1 p1)=some r∧∀vs,AVC w C rs (.iptr z k d p) vs→AVC w C rs (.iptr z k1 d1 p1) vs:=by
 intro k d p c h
 unfold QW at h
 split at h
 ·rename_i e d i
  split at h
  case h_2=>cases h
  rename_i x hx
  refine ⟨_,_,_,h,fun vs hv=>?_⟩
  obtain ⟨vs0,b,off,cs,k',h1,h2,h3,h4,h5,h6,h7⟩:=hv
  rcases h2 with ⟨h2,_⟩|⟨_,h2,_⟩|⟨hm,b0,off0,cap,c0,T,fz,hv,hc,hle,hs,hok,G,hG,hd,hel⟩
  ·cases h2
  ·rw [h2] at hx;simp at hx
  ·subst hv
   have hi:i<List.length d:=(List.getElem?_eq_some_iff.1 hx).1
   have hsz:off0+i*e.size+e.size≤c0.size:=by
    have:(i+1)*e.size≤cap*e.size:=Nat.mul_le_mul_right _ (by omega)
    rw [Nat.add_mul,Nat.one_mul] at this;omega
   simp only [eU,lM,hc] at h6
   refine ⟨[.slice (some ⟨b0,off0+i*e.size,none⟩) 1 1],b,off,cs,e,h1,.inr (.inr ⟨by simp,b0,off0+i*e.size,1,c0,T,fz,rfl,hc,Nat.le_refl _,by omega,hok,fun _=>noB,fun _=>⟨fun _ h=>h.elim,fun h=>h⟩,fun _ _ _ _ h=>h.elim,fun j y hy=>?_⟩),by cases e<;>rfl,⟨by simp,x,rfl,dP _ _ _⟩,rfl,?_,h7⟩
   ·cases j with
    |succ j=>simp at hy
    |zero=>
     simp only [List.getElem?_cons_zero,Option.some.injEq] at hy
     subst hy
     rw [Nat.zero_mul,Nat.add_zero]
     exact (hel i _ hx).mono (.refl _) (.refl _) (fun b hb=>((hG i).1 b hb).elim) (fun _ _=>rfl) (fun _ _=>rfl)
   ·simp only [eU,lM,hc,Nat.zero_mul,Nat.add_zero]
    exact h6
 ·exact ⟨_,_,_,h,fun _ hv=>hv⟩
theorem alF{θ:ay→Nat}{Z S:BS}{w:World}{R:Type}{r:R}{b off:Nat}:∀(p:Path){k:K}{m:Mask}{d:k.den}{vs:List Value}{F:BS}{base:Option (Nat×Nat)}{c:(k':K)→k'.den→Mask→Option R}{old:List Value},
  iF k d m p c=some r→Enc w θ Z S k m d vs F→eU w k vs base p=some (old,some (b,off))→(F b∨Z b∨S b)∨∃o0,base=some (b,o0):=by
 intro p
 induction p with
 |nil=>
  intro k m d vs F base c old h he hloc
  rw [cZ] at hloc
  simp only [Option.some.injEq,Prod.mk.injEq] at hloc
  exact .inr ⟨off,hloc.2⟩
 |cons st p ih=>
  intro k m d vs F base c old h he hloc
  cases st with
  |fst=>
   cases k with
   |pair ka kb=>
    obtain ⟨v1,v2,Fa,Fb,rfl,s1,s2,dj,h1,h2⟩:=he
    simp only [eU] at hloc
    rw [←h1.len,List.take_left] at hloc
    exact (ih (k:=ka) h h1 hloc).imp (fun g=>g.imp (s1 _) id) id
   |_=>simp [iF] at h
  |snd=>
   cases k with
   |pair ka kb=>
    obtain ⟨v1,v2,Fa,Fb,rfl,s1,s2,dj,h1,h2⟩:=he
    simp only [eU] at hloc
    rw [←h1.len,List.drop_left] at hloc
    rcases ih (k:=kb) h h2 hloc with g|⟨o0,ho⟩
    ·exact .inl (g.imp (s2 _) id)
    ·cases base with
     |none=>simp at ho
     |some y=>simp only [Option.map_some,Option.some.injEq,Prod.mk.injEq] at ho;exact .inr ⟨y.2,by rw [←ho.1]⟩
   |_=>simp [iF] at h
  |idx i=>
   cases k with
   |sl e=>
    simp only [iF] at h
    split at h
    case h_2=>simp at h
    case h_1 x hx=>
    rcases he with ⟨rfl,_⟩|⟨_,rfl,_⟩|⟨hgone,b',off',cap,cs,T,fz,rfl,hc,hle,hs,hok,G,hG,hdj,hel⟩
    ·simp at h
    ·simp at hx
    ·have h':iF e x m.elem p c=some r:=by
      cases m<;>first|exact h|exact absurd rfl hgone
     simp only [eU,lM,hc] at hloc
     rcases ih (k:=e) h' (hel i x hx) hloc with g|⟨o0,g⟩
     ·exact .inl (g.imp ((hG i).1 _) id)
     ·simp only [Option.some.injEq,Prod.mk.injEq] at g
      rw [←g.1]
      exact .inl (XH hok)
   |_=>simp [iF] at h
theorem aiy{rs:RF}(hM:Mem w C rs)(rw:Bool):∀(av:AV){kind:Option K}{sn:List ay}{g:Reg}{c:AV→List ay→Reg→Option R'},jL rs rw kind av sn g c=some r →
  ∃av' sn' g',c av' sn' g'=some r∧(∀x∈sn,x∈sn')∧(∀x∈sn',x∈sn∨∃y,rs x=some y)∧(∃t,g'=g++t)∧(g.Nodup→g'.Nodup)∧av≠.dead∧(∀vs,¬XT w C rs av vs) ∧
   ∀vs,AVC w C rs av vs→av'.agg=av.agg∧∀snf gf,(∀x∈sn',x∈snf)→(∃t,gf=g'++t)→∀Cc rsc,Callee C rs snf gf Cc rsc→AVC w Cc rsc av' vs:=by
 intro av
 induction av with
 |imm z k d=>
  intro kind sn g c h
  refine ⟨_,_,_,h,fun _ h=>h,fun _ h=>.inl h,⟨[],by simp⟩,id,by simp,fun _ h=>h.elim,fun vs hv=>⟨rfl,fun snf gf _ _ Cc rsc hC=>?_⟩⟩
  refine ⟨hv.1,?_⟩
  rw [hC.Z]
  have he:Enc w Cc.θ C.Z Cc.S k (.imm z) d vs noB:=hv.2.mono (.refl _) hC.S (.refl _) (fun _ _=>rfl) (fun p hp=>by rw [bV d hv.1] at hp;cases hp)
  cases hf:k.flat with
  |true=>exact he.flat hf
  |false=>exact he
 |nil=>
  intro kind sn g c h
  simp only [jL] at h
  split at h
  case h_2=>simp at h
  case h_1 e=>
  cases hp:e.plain with
  |false=>simp [hp] at h
  |true=>
  simp only [hp,cond_true] at h
  cases rw with
  |true=>exact ⟨_,_,_,h,fun _ h=>h,fun _ h=>.inl h,⟨[],by simp⟩,id,by simp,fun _ h=>h.elim,fun vs hv=>⟨rfl,fun snf gf _ _ Cc rsc hC=>hv⟩⟩
  |false=>exact ⟨_,_,_,h,fun _ h=>h,fun _ h=>.inl h,⟨[],by simp⟩,id,by simp,fun _ h=>h.elim,fun vs hv=>⟨rfl,fun snf gf _ _ Cc rsc hC=>⟨hp,.inr (.inl ⟨by simp,rfl,none,hv⟩)⟩⟩⟩
 |emp=>
  intro kind sn g c h
  simp only [jL] at h
  split at h
  case h_2=>simp at h
  case h_1 e=>
  cases hp:e.plain with
  |false=>simp [hp] at h
  |true=>
  simp only [hp,cond_true] at h
  exact ⟨_,_,_,h,fun _ h=>h,fun _ h=>.inl h,⟨[],by simp⟩,id,by simp,fun _ h=>h.elim,fun vs hv=>⟨rfl,fun snf gf _ _ Cc rsc hC=>⟨hp,.inr (.inl ⟨by simp,rfl,hv⟩)⟩⟩⟩
 |nilp=>
  intro kind sn g c h
  exact ⟨_,_,_,h,fun _ h=>h,fun _ h=>.inl h,⟨[],by simp⟩,id,by simp,fun _ h=>h.elim,fun vs hv=>⟨rfl,fun snf gf _ _ Cc rsc hC=>hv⟩⟩
 |ptr q p=>
  intro kind sn g c h
  cases p with
  |cons st p=>
   simp only [jL] at h
   cases rw with
   |false=>simp at h
   |true=>
   simp only [cond_true] at h
   split at h
   case h_1=>simp at h
   case h_2 x hx=>
   obtain ⟨k,d,m,vs0,b1,hp,hc⟩:=iw (hM.ok _ _ hx) h
   cases hl:(m.live&&k.plain) with
   |false=>simp [hl] at hc
   |true=>
   simp only [hl,cond_true] at hc
   simp only [Bool.and_eq_true] at hl
   obtain ⟨F,hF,hFs⟩:=UR (hM.ok _ _ hx) hp
   refine ⟨_,_,_,hc,fun _ h=>List.mem_cons_of_mem _ h,fun p hp=>?_,⟨[],by simp⟩,id,by simp,fun _ h=>h.elim,fun vs hv=>⟨rfl,fun snf gf hsn hgf Cc rsc hC=>?_⟩⟩
   ·rcases List.mem_cons.1 hp with rfl|hp
    ·exact .inr ⟨x,hx⟩
    ·exact .inl hp
   ·obtain ⟨b,off,rfl,_,hr⟩:=hv
    obtain ⟨k',cs,e1,e2,e3⟩:=hr x hx
    have hlc:=hp.lc
    rw [e3] at hlc
    simp only [Option.some.injEq,Prod.mk.injEq] at hlc
    obtain ⟨rfl,rfl⟩:=hlc
    obtain ⟨c0,T,fz,hhp,hsz,hsub⟩:=hp.lies
    have hqS:∀b,C.F q b→Cc.S b:=hC.sn q (hsn q (by simp))
    obtain ⟨G,hG,hGs,hGm⟩:=hM.ok _ _ hx
    have hb:Cc.Z b∨Cc.S b:=by
     have h1:=hp.get _ (fun k d m=>some ((⟨k,d⟩:Σ k:K,k.den),m))
     rcases alF _ h1 hG e3 with (g|g|g)|⟨o0,g⟩
     ·exact .inr (hqS b (hGs b g))
     ·exact .inl (by rw [hC.Z];exact g)
     ·exact .inr (hC.S b g)
     ·unfold bK at g
      split at g
      ·rename_i hm
       simp only [Option.some.injEq,Prod.mk.injEq] at g
       rw [←g.1]
       exact .inr (hqS _ (hGm hm).2.1)
      ·cases g
    have hel:=(hF.snap (S':=Cc.S) (G:=noB) hC.S hl.1 (hFs.trans hqS)).mono (θ':=Cc.θ) (w':=w) (.refl _) (.refl _) (.refl _) (fun _ _=>rfl) (fun p hp=>by rw [bV d hl.2] at hp;cases hp)
    have hlen:=hF.len
    rw [hlen] at hsub hsz
    refine ⟨[.slice (some ⟨b,off,none⟩) 1 1],b,off,cs,k,hl.2,?_,(show k.at []=some k from at_nil _),⟨by simp,d,rfl,dP _ _ _⟩,rfl,?_,rfl⟩
    ·refine .inr (.inr ⟨by simp,b,off,1,c0,T,fz,rfl,hhp,Nat.le_refl _,by omega,?_,fun _=>noB,fun _=>⟨fun _ h=>h.elim,fun h=>h⟩,fun _ _ _ _ h=>h.elim,fun i y hy=>?_⟩)
     ·exact hb.imp id fun g=>⟨rfl,g⟩
     have hi0:i=0:=by
      have:=(List.getElem?_eq_some_iff.1 hy).1
      simp at this;exact this
     subst hi0
     simp only [List.getElem?_cons_zero,Option.some.injEq] at hy
     subst hy
     rw [Nat.zero_mul,Nat.add_zero,hsub]
     rw [←hC.Z] at hel
     exact hel
    ·have hc:lM w b off k.size=cs:=by unfold lM;rw [hhp];exact hsub
     simp only [eU,Nat.zero_mul,Nat.add_zero,hc]
  |nil=>
   simp only [jL] at h
   cases rw with
   |true=>
    simp only [cond_true] at h
    split at h
    case h_1=>simp at h
    case h_2 x hx=>
    cases hl:(x.mem&&(x.m.live&&x.k.plain)) with
    |false=>rw [hl] at h;simp at h
    |true=>
    rw [hl] at h
    simp only [cond_true] at h
    simp only [Bool.and_eq_true] at hl
    obtain ⟨hmem,hlive,hpl⟩:=hl
    obtain ⟨G,hG,hGs,hGm⟩:=hM.ok _ _ hx
    obtain ⟨_,hθ,T,hhp⟩:=hGm hmem
    refine ⟨_,_,_,h,fun _ h=>List.mem_cons_of_mem _ h,fun p hp=>?_,⟨[],by simp⟩,id,by simp,fun _ h=>h.elim,fun vs hv=>⟨rfl,fun snf gf hsn hgf Cc rsc hC=>?_⟩⟩
    ·rcases List.mem_cons.1 hp with rfl|hp
     ·exact .inr ⟨x,hx⟩
     ·exact .inl hp
    ·obtain ⟨b,off,rfl,h0,_⟩:=hv
     obtain ⟨rfl,rfl⟩:=h0 rfl
     have hS:Cc.S (C.θ q):=hC.sn q (hsn q (by simp)) _ hθ
     have hsub:Sub G Cc.S:=hGs.trans (hC.sn q (hsn q (by simp)))
     have hel:=(hG.snap (S':=Cc.S) (G:=noB) hC.S hlive hsub).mono (θ':=Cc.θ) (w':=w) (.refl _) (.refl _) (.refl _) (fun _ _=>rfl) (fun p hp=>by rw [bV x.d hpl] at hp;cases hp)
     have hlen:=hG.len
     have hfull:Go.Abs.sub (C.ρ q).toArray 0 x.k.size=C.ρ q:=by unfold Go.Abs.sub;simp only [List.drop_zero];rw [List.take_of_length_le (by omega)]
     refine ⟨[.slice (some ⟨C.θ q,0,none⟩) 1 1],C.θ q,0,C.ρ q,x.k,hpl,?_,(show x.k.at []=some x.k from at_nil _),⟨by simp,x.d,rfl,dP _ _ _⟩,rfl,?_,rfl⟩
     ·rw [hC.Z]
      refine .inr (.inr ⟨by simp,C.θ q,0,1,(C.ρ q).toArray,T,(0,0),rfl,hhp,Nat.le_refl _,by simp [hlen],.inr ⟨rfl,hS⟩,fun _=>noB,fun _=>⟨fun _ h=>h.elim,fun h=>h⟩,fun _ _ _ _ h=>h.elim,fun i y hy=>?_⟩)
      have hi0:i=0:=by
       have:=(List.getElem?_eq_some_iff.1 hy).1
       simp at this;exact this
      subst hi0
      simp only [List.getElem?_cons_zero,Option.some.injEq] at hy
      subst hy
      rw [Nat.zero_mul,Nat.add_zero,hfull]
      exact hel
     ·have hc:lM w (C.θ q) 0 x.k.size=C.ρ q:=by unfold lM;rw [hhp];exact hfull
      simp only [eU,Nat.zero_mul,Nat.add_zero,hc]
   |false=>
   simp only [cond_false] at h
   generalize hp:Reg.put q g=pr at h
   obtain ⟨i,g1⟩:=pr
   simp only at h
   obtain ⟨h1,h2,h3⟩:=adE hp
   refine ⟨_,_,_,h,fun _ h=>h,fun _ h=>.inl h,h2,h3,by simp,fun _ h=>h.elim,fun vs hv=>⟨rfl,fun snf gf _ hgf Cc rsc hC=>?_⟩⟩
   obtain ⟨t,rfl⟩:=hgf
   obtain ⟨b,off,rfl,h0,hr⟩:=hv
   have hi:=abB (t:=t) h1
   refine ⟨b,off,rfl,fun hh=>by rw [hC.θ i q hi];exact h0 hh,fun y hy=>?_⟩
   obtain ⟨q',x,g1',g2',g3',g4',g5'⟩:=hC.root i y hy
   rw [hi] at g1'
   simp only [Option.some.injEq] at g1'
   subst g1'
   obtain ⟨k',cs,e1,e2,e3⟩:=hr x g2'
   rw [cZ] at e3
   rw [at_nil] at e1
   simp only [Option.some.injEq,Prod.mk.injEq] at e3
   refine ⟨y.k,cs,at_nil _,dP _ _ _,?_⟩
   rw [cZ,hC.ρ i q hi,e3.1,←e3.2]
   unfold bK
   rw [g3',hC.θ i q hi]
 |iptr z k d p=>
  intro kind sn g c h
  simp only [jL] at h
  obtain ⟨k1,d1,p1,h,hcv⟩:=afc h
  refine ⟨_,_,_,h,fun _ h=>h,fun _ h=>.inl h,⟨[],by simp⟩,id,by simp,fun _ h=>h.elim,fun vs hv=>⟨rfl,fun snf gf _ _ Cc rsc hC=>?_⟩⟩
  obtain ⟨vs0,b,off,cs,k',h1,h2,h3⟩:=hcv vs hv
  refine ⟨vs0,b,off,cs,k',h1,?_,h3⟩
  rw [hC.Z]
  exact h2.mono (.refl _) hC.S (.refl _) (fun _ _=>rfl) (fun p hp=>by rw [bV d1 h1] at hp;cases hp)
 |nn _ _ _=>intro kind sn g c h;simp [jL] at h
 |vw _ _ _=>intro kind sn g c h;simp [jL] at h
 |ref q p=>
  intro kind sn g c h
  simp only [jL] at h
  split at h
  case h_1=>simp at h
  case h_2 x hx=>
  cases rw with
  |true=>
   simp only [cond_true] at h
   split at h
   case h_2 hpne=>
    generalize hp:Reg.put q g=pr at h
    obtain ⟨i,g1⟩:=pr
    simp only at h
    obtain ⟨h1,h2,h3⟩:=adE hp
    refine ⟨_,_,_,h,fun _ h=>h,fun _ h=>.inl h,h2,h3,by simp,fun _ h=>h.elim,fun vs hv=>⟨rfl,fun snf gf _ hgf Cc rsc hC=>?_⟩⟩
    obtain ⟨t,rfl⟩:=hgf
    obtain ⟨v,rfl,hr⟩:=hv
    have hi:=abB (t:=t) h1
    refine ⟨v,rfl,fun y hy=>?_⟩
    obtain ⟨q',x',g1',g2',g3',g4',g5'⟩:=hC.root _ y hy
    rw [hi] at g1'
    simp only [Option.some.injEq] at g1'
    subst g1'
    obtain ⟨e',base,e1,e2,e3⟩:=hr x' g2'
    refine ⟨e',base,by rw [g4'];exact e1,g5' p e2,?_⟩
    have hb:bK Cc (par i) y=bK C q x':=by unfold bK;rw [g3',hC.θ i q hi]
    rw [hC.ρ i q hi,hb,g4']
    exact e3
   case h_1=>
   cases hm:LP q g with
   |true=>simp [hm] at h
   |false=>
   simp only [hm,cond_false] at h
   refine ⟨_,_,_,h,fun _ h=>h,fun _ h=>.inl h,⟨[q],rfl⟩,fun hnd=>?_,by simp,fun _ h=>h.elim,fun vs hv=>⟨rfl,fun snf gf _ hgf Cc rsc hC=>?_⟩⟩
   ·rw [List.nodup_append]
    refine ⟨hnd,by simp,fun x0 hx0 y hy=>?_⟩
    simp only [List.mem_singleton] at hy
    subst hy
    rintro rfl
    rw [BK.2 hx0] at hm;cases hm
   ·obtain ⟨t,rfl⟩:=hgf
    obtain ⟨v,rfl,hr⟩:=hv
    have hi:((g++[q])++t)[g.length]?=some q:=by simp
    refine ⟨v,rfl,fun y hy=>?_⟩
    obtain ⟨q',x',g1',g2',g3',g4',g5'⟩:=hC.root _ y hy
    rw [hi] at g1'
    simp only [Option.some.injEq] at g1'
    subst g1'
    obtain ⟨e',base,e1,e2,e3⟩:=hr x' g2'
    rw [cZ] at e3
    simp only [Option.some.injEq,Prod.mk.injEq] at e3
    refine ⟨e',bK Cc (par g.length) y,by rw [at_nil,g4',←at_nil];exact e1,dP _ _ _,?_⟩
    rw [cZ,hC.ρ _ q hi,e3.1]
  |false=>
   simp only [cond_false] at h
   obtain ⟨k,d,m,vs0,b1,hp,hc⟩:=iw (hM.ok _ _ hx) h
   cases hl:(m.live&&k.plain) with
   |false=>simp [hl] at hc
   |true=>
   simp only [hl,cond_true] at hc
   simp only [Bool.and_eq_true] at hl
   obtain ⟨F,hF,hFs⟩:=UR (hM.ok _ _ hx) hp
   by_cases hmi:∃z,m=.imm z
   ·obtain ⟨z,rfl⟩:=hmi
    refine ⟨_,_,_,hc,fun _ h=>h,fun _ h=>.inl h,⟨[],by simp⟩,id,by simp,fun _ h=>h.elim,fun vs hv=>?_⟩
    obtain ⟨v,rfl,hr⟩:=hv
    obtain ⟨e',base,e1,e2,e3⟩:=hr x hx
    have hkk:=hp.at_
    rw [e1] at hkk
    simp only [Option.some.injEq] at hkk
    refine ⟨by show k.isAgg=false;rw [←hkk];rfl,fun snf gf hsn hgf Cc rsc hC=>?_⟩
    have:=hp.lc
    rw [e3] at this
    simp only [Option.some.injEq,Prod.mk.injEq] at this
    obtain ⟨rfl,_⟩:=this
    refine ⟨hl.2,?_⟩
    rw [hC.Z]
    exact (Enc.arU (G:=noB) hF).mono (.refl _) hC.S (.refl _) (fun _ _=>rfl) (fun p hp=>by rw [bV d hl.2] at hp;cases hp)
   have hc:c (.imm false k d) (q::sn) g=some r:=by
    cases m<;>first|exact hc|exact absurd ⟨_,rfl⟩ hmi
   refine ⟨_,_,_,hc,fun _ h=>List.mem_cons_of_mem _ h,fun p hp=>?_,⟨[],by simp⟩,id,by simp,fun _ h=>h.elim,fun vs hv=>?_⟩
   ·rcases List.mem_cons.1 hp with rfl|hp
    ·exact .inr ⟨x,hx⟩
    ·exact .inl hp
   ·obtain ⟨v,rfl,hr⟩:=hv
    obtain ⟨e',base,e1,e2,e3⟩:=hr x hx
    have hkk:=hp.at_
    rw [e1] at hkk
    simp only [Option.some.injEq] at hkk
    refine ⟨by show k.isAgg=false;rw [←hkk];rfl,fun snf gf hsn hgf Cc rsc hC=>?_⟩
    have:=hp.lc
    rw [e3] at this
    simp only [Option.some.injEq,Prod.mk.injEq] at this
    obtain ⟨rfl,_⟩:=this
    refine ⟨hl.2,?_⟩
    rw [hC.Z]
    exact (hF.snap (S':=Cc.S) (G:=noB) hC.S hl.1 (hFs.trans (hC.sn q (hsn q (by simp))))).mono (.refl _) (.refl _) (.refl _) (fun _ _=>rfl) (fun p hp=>by rw [bV d hl.2] at hp;cases hp)
 |slc q p lo k0=>
  intro kind sn g c h
  simp only [jL] at h
  split at h
  case h_1=>simp at h
  case h_2 x hx=>
  cases rw with
  |true=>simp at h
  |false=>
   simp only [cond_false] at h
   obtain ⟨k,d,m,vs0,b1,hp,hc⟩:=iw (hM.ok _ _ hx) h
   cases hl:(m.live&&k.plain) with
   |false=>simp [hl] at hc
   |true=>
   simp only [hl,cond_true] at hc
   simp only [Bool.and_eq_true] at hl
   obtain ⟨F,hF,hFs⟩:=UR (hM.ok _ _ hx) hp
   split at hc
   case h_2=>simp at hc
   case h_1 e dd=>
   refine ⟨_,_,_,hc,fun _ h=>List.mem_cons_of_mem _ h,fun p hp=>?_,⟨[],by simp⟩,id,by simp,fun _ h=>h.elim,fun vs hv=>⟨rfl,fun snf gf hsn hgf Cc rsc hC=>?_⟩⟩
   ·rcases List.mem_cons.1 hp with rfl|hp
    ·exact .inr ⟨x,hx⟩
    ·exact .inl hp
   ·obtain ⟨v,v0,rfl,hr⟩:=hv
    obtain ⟨e',base,e1,e2,e3,e4⟩:=hr x hx
    have:=hp.lc
    rw [e3] at this
    simp only [Option.some.injEq,Prod.mk.injEq] at this
    obtain ⟨rfl,_⟩:=this
    have:=hp.at_
    rw [e1] at this
    simp only [Option.some.injEq,K.sl.injEq] at this
    subst this
    refine ⟨hl.2,?_⟩
    rw [hC.Z]
    exact ((abz hF (Mask.qD hl.1) e4).snap (S':=Cc.S) (G:=noB) hC.S hl.1 (hFs.trans (hC.sn q (hsn q (by simp))))).mono (.refl _) (.refl _) (.refl _) (fun _ _=>rfl) (fun p hp=>by rw [bV _ hl.2] at hp;cases hp)
 |pair a b iha ihb=>
  intro kind sn g c h
  simp only [jL] at h
  obtain ⟨a',sn1,g1,h,a1,a2,⟨t1,rfl⟩,a4,a6,a7,a8⟩:=iha h
  obtain ⟨b',sn2,g2,h,b1,b2,⟨t2,rfl⟩,b4,b6,b7,b8⟩:=ihb h
  refine ⟨_,_,_,h,fun x hx=>b1 x (a1 x hx),fun x hx=>?_,⟨t1++t2,by simp⟩,fun h=>b4 (a4 h),by simp,fun _ h=>h.elim,fun vs hv=>⟨by rw [GL];rfl,fun snf gf hsn hgf Cc rsc hC=>?_⟩⟩
  ·rcases b2 x hx with h|h
   ·exact a2 x h
   ·exact .inr h
  ·obtain ⟨v1,v2,rfl,h1,h2⟩:=hv
   obtain ⟨t3,rfl⟩:=hgf
   exact AVC.flatten ((a8 v1 h1).2 snf _ (fun x hx=>hsn x (b1 x hx)) ⟨t2++t3,by simp⟩ Cc rsc hC) ((b8 v2 h2).2 snf _ hsn ⟨t3,rfl⟩ Cc rsc hC)
 |fn f caps=>
  intro kind sn g c h
  simp only [jL] at h
  generalize hp:Reg.puts caps g=pr at h
  obtain ⟨l,g1⟩:=pr
  simp only at h
  obtain ⟨h1,h2,h3,h4⟩:=Y4 _ hp
  refine ⟨_,_,_,h,fun _ h=>h,fun _ h=>.inl h,h1,h2,by simp,fun _ h=>h.elim,fun vs hv=>⟨rfl,fun snf gf _ hgf Cc rsc hC=>?_⟩⟩
  obtain ⟨t,rfl⟩:=hgf
  obtain ⟨rfl,hcap⟩:=hv
  refine ⟨?_,fun p hp y hy=>?_⟩
  ·congr 2
   unfold DJ
   congr 1
   apply List.ext_getElem?
   intro j
   rw [List.getElem?_map,List.getElem?_map]
   cases hj:caps[j]? with
   |none=>rw [List.getElem?_eq_none (by rw [h3];exact List.getElem?_eq_none_iff.1 hj)];rfl
   |some p=>
    obtain ⟨i,k1,k2⟩:=h4 j p hj
    rw [k1]
    simp only [Option.map_some]
    rw [hC.θ i p (abB k2)]
  ·obtain ⟨j,hj⟩:=List.getElem?_of_mem hp
   have hjl:j<caps.length:=by rw [←h3];exact (List.getElem?_eq_some_iff.1 hj).1
   obtain ⟨i,k1,k2⟩:=h4 j caps[j] (List.getElem?_eq_getElem hjl)
   rw [hj] at k1
   simp only [Option.some.injEq] at k1
   subst k1
   obtain ⟨q',x,g1',g2',g3',g4',g5'⟩:=hC.root i y hy
   rw [abB k2] at g1'
   simp only [Option.some.injEq] at g1'
   subst g1'
   rw [g3']
   exact hcap _ (List.getElem_mem hjl) x g2'
 |dead=>intro kind sn g c h;simp [jL] at h
 |tnil=>intro kind sn g c h;simp [jL] at h
 |tcons _ _ _ _=>intro kind sn g c h;simp [jL] at h
theorem agE{rs:RF}(hM:Mem w C rs)(rw:List Nat):∀(l:List (AV×Value)){kinds:List (Option K)}{j:Nat}{sn:List ay}{g:Reg}{c:List AV→List ay→Reg→Option R'},
  zG rs rw kinds j (l.map (·.1)) sn g c=some r→(∀x∈l,bH w C rs x.2 x.1) →
  ∃l' sn' g',c l' sn' g'=some r∧(∀x∈sn,x∈sn')∧(∀x∈sn',x∈sn∨∃y,rs x=some y)∧(∃t,g'=g++t)∧(g.Nodup→g'.Nodup)∧l'.length=l.length ∧
   ∀snf gf,(∀x∈sn',x∈snf)→(∃t,gf=g'++t)→∀Cc rsc,Callee C rs snf gf Cc rsc→∀(i:Nat)(x:AV×Value)(a':AV),l[i]?=some x→l'[i]?=some a'→bH w Cc rsc x.2 a':=by
 intro l
 induction l with
 |nil=>
  intro kinds j sn g c h _
  exact ⟨_,_,_,h,fun _ h=>h,fun _ h=>.inl h,⟨[],by simp⟩,id,rfl,by simp⟩
 |cons x l ih=>
  intro kinds j sn g c h hl
  simp only [List.map_cons,zG] at h
  obtain ⟨a',sn1,g1,h,a1,a2,⟨t1,rfl⟩,a4,a5,a6,a7⟩:=aiy hM _ x.1 h
  obtain ⟨l',sn2,g2,h,b1,b2,⟨t2,rfl⟩,b4,b5,b6⟩:=ih h (fun x hx=>hl x (by simp [hx]))
  refine ⟨_,_,_,h,fun y hy=>b1 y (a1 y hy),fun y hy=>?_,⟨t1++t2,by simp⟩,fun h=>b4 (a4 h),by simp [b5],?_⟩
  ·rcases b2 y hy with h|h
   ·exact a2 y h
   ·exact .inr h
  ·intro snf gf hsn hgf Cc rsc hC i y a2' hy ha
   cases i with
   |zero=>
    simp only [List.getElem?_cons_zero,Option.some.injEq] at hy ha
    subst hy;subst ha
    obtain ⟨t3,rfl⟩:=hgf
    have hv:=hl x (by simp)
    rcases hv with (hd|⟨hg,vs,hv,hA⟩|⟨hg,hA,hc⟩)|⟨vs,_,ht⟩
    ·exact absurd hd a5
    ·obtain ⟨k1,k2⟩:=a7 vs hA
     exact .inl (.inr (.inl ⟨by rw [k1];exact hg,vs,hv,k2 snf _ (fun y hy=>hsn y (b1 y hy)) ⟨t2++t3,by simp⟩ Cc rsc hC⟩))
    ·obtain ⟨k1,k2⟩:=a7 _ hA
     exact .inl (.inr (.inr ⟨by rw [k1];exact hg,k2 snf _ (fun y hy=>hsn y (b1 y hy)) ⟨t2++t3,by simp⟩ Cc rsc hC,hc⟩))
    ·exact absurd ht (a6 vs)
   |succ i=>exact b6 snf gf hsn hgf Cc rsc hC i y a2' (by simpa using hy) (by simpa using ha)
theorem Enc.sQ{θ θ':ay→Nat}{Z S:BS}{f:ay→ay}:∀{k:K}{m:Mask}{d:k.den}{vs:List Value}{F:BS},Enc w θ Z S k m d vs F→(∀p∈aS k d,θ' (f p)=θ p)→Enc w θ' Z S k m (sQ f k d) vs F:=by
 intro k
 induction k with
 |ptr=>
  intro m d vs F h hp
  simp only [Enc] at h ⊢
  subst h
  cases d with
  |none=>rfl
  |some p=>simp only [Go.Abs.sQ,avz,hp p (by simp [aS])]
 |fn=>
  intro m d vs F h hp
  simp only [Enc] at h ⊢
  subst h
  cases d with
  |none=>rfl
  |some x=>
   simp only [Go.Abs.sQ,fnV]
   congr 2
   unfold DJ
   rw [List.map_map]
   congr 1
   exact List.map_congr_left fun p hm=>by simp only [Function.comp,hp p (by simpa [aS] using hm)]
 |pair a b iha ihb=>
  intro m d vs F h hp
  simp only [Go.Abs.sQ]
  cases hpl:(a.plain&&b.plain) with
  |true=>
   simp only [cond_true]
   exact h.mono (.refl _) (.refl _) (.refl _) (fun _ _=>rfl) (fun p hp'=>by rw [bV d (by simpa [K.plain] using hpl)] at hp';cases hp')
  |false=>
   simp only [cond_false]
   obtain ⟨v1,v2,F1,F2,rfl,s1,s2,dj,h1,h2⟩:=h
   exact ⟨v1,v2,F1,F2,rfl,s1,s2,dj,iha h1 (fun p hm=>hp p (by simp [aS,hm])),ihb h2 (fun p hm=>hp p (by simp [aS,hm]))⟩
 |sl e ih=>
  intro m d vs F h hp
  simp only [Go.Abs.sQ]
  cases hpl:e.plain with
  |true=>
   simp only [cond_true]
   exact h.mono (.refl _) (.refl _) (.refl _) (fun _ _=>rfl) (fun p hp'=>by rw [bV d (by simpa [K.plain] using hpl)] at hp';cases hp')
  |false=>
   simp only [cond_false]
   rcases h with h|⟨h1,rfl,h2⟩|⟨hm,b,off,cap,cs,T,fz,rfl,hc,hle,hs,hok,G,hG,hd,he⟩
   ·exact .inl h
   ·exact .inr (.inl ⟨h1,rfl,h2⟩)
   ·refine .inr (.inr ⟨hm,b,off,cap,cs,T,fz,by simp,hc,by simpa using hle,hs,hok,G,hG,hd,fun i x hx=>?_⟩)
    rw [List.getElem?_map] at hx
    cases hy:d[i]? with
    |none=>rw [hy] at hx;simp at hx
    |some y=>
     rw [hy] at hx
     simp only [Option.map_some,Option.some.injEq] at hx
     subst hx
     exact ih (he i y hy) (fun p hm=>hp p (vg (List.mem_of_getElem? hy) hm))
 |_=>intro m d vs F h _;exact h
theorem Rj{f:ay→ay}:∀{k:K}(d:k.den),aS k (sQ f k d)=(aS k d).map f:=by
 intro k
 induction k with
 |ptr=>intro d;cases d<;>rfl
 |fn=>intro d;cases d<;>simp [aS,Go.Abs.sQ]
 |pair a b iha ihb=>
  intro d
  simp only [Go.Abs.sQ]
  cases hpl:(a.plain&&b.plain) with
  |true=>
   simp only [cond_true]
   rw [bV d (by simpa [K.plain] using hpl)];rfl
  |false=>simp only [cond_false,aS,iha,ihb,List.map_append]
 |sl e ih=>
  intro d
  simp only [Go.Abs.sQ]
  cases hpl:e.plain with
  |true=>simp [aS,hpl]
  |false=>
   simp only [cond_false,aS,hpl,List.map_flatMap]
   induction d with
   |nil=>rfl
   |cons x d ihd=>simp [ih,ihd]
 |_=>intro d;simp [aS]
theorem Enc.done{θ:ay→Nat}{Z S S':BS}:∀{k:K}{m:Mask}{d:k.den}{vs:List Value}{F:BS},Enc w θ Z S k m d vs F→m.done=true→Enc w θ Z S' k m d vs F:=by
 intro k
 induction k with
 |pair a b iha ihb=>
  intro m d vs F h hm
  obtain ⟨v1,v2,F1,F2,rfl,s1,s2,dj,h1,h2⟩:=h
  exact ⟨v1,v2,F1,F2,rfl,s1,s2,dj,iha h1 (by cases m<;>simp_all [Mask.done,Mask.fst]),ihb h2 (by cases m<;>simp_all [Mask.done,Mask.snd])⟩
 |sl e ih=>
  intro m d vs F h hm
  rcases h with ⟨rfl,_⟩|h|⟨hm',b,off,cap,cs,T,fz,rfl,hc,hle,hs,hok,G,hG,hd,he⟩
  ·simp [Mask.done] at hm
  ·exact .inr (.inl h)
  ·refine .inr (.inr ⟨hm',b,off,cap,cs,T,fz,rfl,hc,hle,hs,?_,G,hG,hd,fun i x hx=>ih (he i x hx) (by cases m<;>simp_all [Mask.done,Mask.elem])⟩)
   cases m<;>simp_all [Mask.done,Og]
 |_=>intro m d vs F h _;exact h
end
end Go.Abs
namespace Go.Abs
section
variable {P : Program} {V : Env} {w0 w : World} {M0 : BS} {n : Nat} {C0 C : Ctx} {s : St} {a : Act}
variable {R' : Type} {r : R'} {o : Oper} {c : Del → Option R'}
theorem Sq{rs:RF}:∀(n i:Nat){g g':Reg},qX rs n i g=some g'→(∃t,g'=g++t)∧(g.Nodup→g'.Nodup):=by
 intro n
 induction n with
 |zero=>intro i g g' h;simp [qX] at h
 |succ n ih=>
  intro i g g' h
  simp only [qX] at h
  split at h
  ·simp only [Option.some.injEq] at h;subst h;exact ⟨⟨[],by simp⟩,id⟩
  ·split at h
   ·simp at h
   ·rename_i x hx
    cases hp:x.k.plain with
    |true=>rw [hp] at h;exact ih _ h
    |false=>
     rw [hp] at h
     simp only [cond_false] at h
     generalize hps:Reg.puts (aS x.k x.d) g=pr at h
     obtain ⟨l,g2⟩:=pr
     obtain ⟨⟨t1,h1⟩,h2,_⟩:=Y4 _ hps
     obtain ⟨⟨t2,h3⟩,h4⟩:=ih _ h
     simp only at h3 h4
     exact ⟨⟨t1++t2,by rw [h3,h1];simp⟩,fun h=>h4 (h2 h)⟩
theorem apn{l g:List ay}(h:akW l g=false):∀p∈l,p ∉ g:=by
 induction l with
 |nil=>intro p hp;cases hp
 |cons q l ih=>
  simp only [akW,Bool.or_eq_false_iff] at h
  intro p hp hg
  rcases List.mem_cons.1 hp with rfl|hp
  ·rw [BK.2 hg] at h;cases h.1
  ·exact ih h.2 p hp hg
theorem apj{l g:List ay}(h:arq l g=true):∀p∈l,p∈g:=by
 induction l with
 |nil=>intro p hp;cases hp
 |cons q l ih=>
  simp only [arq,Bool.and_eq_true] at h
  intro p hp
  rcases List.mem_cons.1 hp with rfl|hp
  ·exact BK.1 h.1
  ·exact ih h.2 p hp
theorem aeJ{rs:RF}{g:Reg}:∀(l:List ay),pQ rs g l=true→∀q∈l,∃x,rs q=some x∧∀p∈aS x.k x.d,p∈g:=by
 intro l
 induction l with
 |nil=>intro _ q hq;cases hq
 |cons q0 l ih=>
  intro h q hq
  simp only [pQ,Bool.and_eq_true] at h
  rcases List.mem_cons.1 hq with rfl|hq
  ·cases hx:rs q with
   |none=>rw [hx] at h;simp at h
   |some x=>
    rw [hx] at h
    refine ⟨x,rfl,fun p hp=>?_⟩
    simp only [Bool.or_eq_true] at h
    rcases h.1 with h1|h1
    ·rw [bV _ h1] at hp;cases hp
    ·exact apj h1 p hp
  ·exact ih h.2 q hq
theorem aiw{d:Nat}:∀(l:List ay),KN d l=false→∀q∈l,q.1≠d:=by
 intro l
 induction l with
 |nil=>intro _ q hq;cases hq
 |cons q0 l ih=>
  intro h q hq
  simp only [KN,Bool.or_eq_false_iff] at h
  rcases List.mem_cons.1 hq with rfl|hq
  ·intro he;rw [beq_iff.2 he] at h;cases h.1
  ·exact ih h.2 q hq
theorem afj{rs:RF}{g:Reg}:∀(l:List ay){ys:List Root},yH rs g l=some ys→ys.length=l.length ∧
  ∀(i:Nat)(q:ay),l[i]?=some q→∃x,rs q=some x∧ys[i]?=some ⟨x.mem,x.k,x.m,sQ (adz g) x.k x.d⟩:=by
 intro l
 induction l with
 |nil=>intro ys h;simp only [yH,Option.some.injEq] at h;subst h;exact ⟨rfl,by simp⟩
 |cons q0 l ih=>
  intro ys h
  simp only [yH] at h
  split at h
  ·simp at h
  ·rename_i x hx
   cases hr:yH rs g l with
   |none=>rw [hr] at h;simp at h
   |some ys'=>
    rw [hr] at h
    simp only [Option.map_some,Option.some.injEq] at h
    subst h
    obtain ⟨h1,h2⟩:=ih hr
    refine ⟨by simp [h1],fun i q hi=>?_⟩
    cases i with
    |zero=>simp only [List.getElem?_cons_zero,Option.some.injEq] at hi;subst hi;exact ⟨x,hx,rfl⟩
    |succ i=>simpa using h2 i q (by simpa using hi)
theorem PL{rs:RF}{g:Reg}{dst:Nat}:∀(l:List ay){ys:List Root}{u:U},nM rs g dst l ys=some u→ys.length=l.length ∧
  (∀q z,dn q u=some z→∃(i:Nat) (y x:Root),l[i]?=some q∧ys[i]?=some y∧rs q=some x∧y.k=x.k∧y.mem=x.mem∧z=some ⟨y.mem,y.k,y.m,sQ (nW g dst) y.k y.d⟩)∧(∀q,dn q u=none→q ∉ l):=by
 intro l
 induction l with
 |nil=>
  intro ys u h
  cases ys with
  |nil=>simp only [nM,Option.some.injEq] at h;subst h;exact ⟨rfl,by simp [dn],by simp⟩
  |cons _ _=>simp [nM] at h
 |cons q0 l ih=>
  intro ys u h
  cases ys with
  |nil=>simp [nM] at h
  |cons y ys=>
   simp only [nM] at h
   split at h
   ·simp at h
   ·rename_i x hx
    split at h
    case isFalse=>simp at h
    case isTrue hk=>
    cases hr:nM rs g dst l ys with
    |none=>rw [hr] at h;simp at h
    |some u'=>
     rw [hr] at h
     simp only [Option.map_some,Option.some.injEq] at h
     subst h
     obtain ⟨h1,h2,h3⟩:=ih hr
     refine ⟨by simp [h1],fun q z hz=>?_,fun q hq=>?_⟩
     ·simp only [dn] at hz
      by_cases hqq:q=q0
      ·rw [bW.2 hqq] at hz
       simp only [cond_true,Option.some.injEq] at hz
       subst hqq
       exact ⟨0,y,x,rfl,rfl,hx,hk.1,hk.2,hz.symm⟩
      ·rw [gN hqq] at hz
       obtain ⟨i,y',x',k1,k2,k3⟩:=h2 q z hz
       exact ⟨i+1,y',x',by simpa using k1,by simpa using k2,k3⟩
     ·simp only [dn] at hq
      by_cases hqq:q=q0
      ·rw [bW.2 hqq] at hq;cases hq
      ·rw [gN hqq] at hq
       simp only [List.mem_cons,not_or]
       exact ⟨hqq,h3 q hq⟩
theorem OA{g:Reg}{dst:Nat}:∀(ys:List Root)(j0:Nat)(q:ay)(z:Option Root),dn q (pU g dst j0 ys)=some z →
  ∃(j:Nat) (y:Root),q=loc dst (j0+j)∧ys[j]?=some y∧z=some ⟨y.mem,y.k,y.m,sQ (nW g dst) y.k y.d⟩:=by
 intro ys
 induction ys with
 |nil=>intro j0 q z h;simp [pU,dn] at h
 |cons y ys ih=>
  intro j0 q z h
  simp only [pU,dn] at h
  by_cases hq:q=loc dst j0
  ·rw [bW.2 hq] at h
   simp only [cond_true,Option.some.injEq] at h
   exact ⟨0,y,hq,rfl,h.symm⟩
  ·rw [gN hq] at h
   obtain ⟨j,y',h1,h2,h3⟩:=ih _ _ _ h
   exact ⟨j+1,y',by rw [h1];congr 1;omega,by simpa using h2,h3⟩
theorem Ws(q:ay)(u v:U):dn q (u++v)=match dn q u with
  |some z=>some z
  |none=>dn q v:=by
 induction u with
 |nil=>rfl
 |cons x u ih=>
  obtain ⟨q0,z⟩:=x
  simp only [List.cons_append,dn]
  cases req q q0<;>simp [ih]
theorem ajF{n m:Nat}:∀(l:List ay),LQ n m l=true→∀p∈l,(∃i,p=par i∧i<n)∨(∃j,p=fr j∧j<m):=by
 intro l
 induction l with
 |nil=>intro _ p hp;cases hp
 |cons q l ih=>
  intro h p hp
  obtain ⟨q1,q2⟩:=q
  match q1,h with
  |0,h=>
   simp only [LQ,Bool.and_eq_true] at h
   rcases List.mem_cons.1 hp with rfl|hp
   ·exact .inl ⟨q2,rfl,by have:=Nat.le_of_ble_eq_true h.1;omega⟩
   ·exact ih h.2 p hp
  |1,h=>
   simp only [LQ,Bool.and_eq_true] at h
   rcases List.mem_cons.1 hp with rfl|hp
   ·exact .inr ⟨q2,rfl,by have:=Nat.le_of_ble_eq_true h.1;omega⟩
   ·exact ih h.2 p hp
  |q1+2,h=>simp [LQ] at h
theorem adB{n m:Nat}:∀(l:List Root),rJ n m l=true→∀x∈l,∀p∈aS x.k x.d,(∃i,p=par i∧i<n)∨(∃j,p=fr j∧j<m):=by
 intro l
 induction l with
 |nil=>intro _ x hx;cases hx
 |cons y l ih=>
  intro h x hx p hp
  simp only [rJ,Bool.and_eq_true,Bool.or_eq_true] at h
  rcases List.mem_cons.1 hx with rfl|hx
  ·rcases h.1 with h1|h1
   ·rw [bV _ h1] at hp;cases hp
   ·exact ajF _ h1 p hp
  ·exact ih h.2 x hx p hp
theorem S9:∀(l:List Root),nN l=true→∀x∈l,x.m.done=true:=by
 intro l
 induction l with
 |nil=>intro _ x hx;cases hx
 |cons y l ih=>
  intro h x hx
  simp only [nN,Bool.and_eq_true] at h
  rcases List.mem_cons.1 hx with rfl|hx
  ·exact h.1
  ·exact ih h.2 x hx
theorem SY{x:Root}{p:ay}:∀(l:List Root),x∈l→p∈aS x.k x.d→p∈nL l:=by
 intro l
 induction l with
 |nil=>intro hx;cases hx
 |cons y l ih=>
  intro hx hp
  simp only [nL,List.mem_append]
  rcases List.mem_cons.1 hx with rfl|hx
  ·exact .inl hp
  ·exact .inr (ih hx hp)
theorem Ke{g:List ay}(h:g.Nodup){i j:Nat}{p:ay}(hi:g[i]?=some p)(hj:g[j]?=some p):i=j:=by
 have h1:=List.getElem?_eq_some_iff.1 hi
 have h2:=List.getElem?_eq_some_iff.1 hj
 exact (List.getElem_inj h).1 (h1.2.trans h2.2.symm)
theorem aiZ{g:Reg}(h:g.Nodup){i:Nat}{p:ay}(hi:g[i]?=some p):Reg.find p g 0=some i:=by
 cases hf:Reg.find p g 0 with
 |none=>exact absurd (List.mem_of_getElem? hi) (afY _ _ hf)
 |some j=>
  have h2:=(QM _ _ _ hf).2
  rw [Ke h hi h2];rfl
def WE{α:Type}(g:Reg)(dst:Nat)(A B:ay→α)(p:ay):α:=
 match Reg.find p g 0 with
 |some i=>A (par i)
 |none=>if p.1=dst+2 then A (fr p.2) else B p
theorem Y3{α:Type}{g:Reg}{dst:Nat}{A B:ay→α}{i:Nat}{p:ay}(h:g.Nodup)(hi:g[i]?=some p):WE g dst A B p=A (par i):=by
 unfold WE;rw [aiZ h hi]
theorem Px{α:Type}{g:Reg}{dst:Nat}{A B:ay→α}{j:Nat}(h:∀q∈g,q.1≠dst+2):WE g dst A B (loc dst j)=A (fr j):=by
 unfold WE
 cases hf:Reg.find (loc dst j) g 0 with
 |some i=>exact absurd rfl (h _ (List.mem_of_getElem? (QM _ _ _ hf).2))
 |none=>simp
theorem Y2{α:Type}{g:Reg}{dst:Nat}{A B:ay→α}{p:ay}(h:p ∉ g)(hp:p.1≠dst+2):WE g dst A B p=B p:=by
 unfold WE
 cases hf:Reg.find p g 0 with
 |some i=>exact absurd (List.mem_of_getElem? (QM _ _ _ hf).2) h
 |none=>simp [hp]
theorem AVC.back{w':World}{Cc' C':Ctx}{co:aA}{rs':RF}{g:Reg}{dst:Nat}
  (hreg:∀(i:Nat) q,g[i]?=some q→(∀z,rs' q=some z→∃y,co.roots[i]?=some y∧z.mem=y.mem∧z.k=y.k∧z.m=y.m∧∀p,cO y.k y.d y.m p→cO z.k z.d z.m p)∧C'.θ q=Cc'.θ (par i)∧C'.ρ q=Cc'.ρ (par i))
  (hfr:∀(j:Nat),(∀z,rs' (loc dst j)=some z→∃y,co.fresh[j]?=some y∧z.mem=y.mem∧z.k=y.k∧z.m=y.m∧∀p,cO y.k y.d y.m p→cO z.k z.d z.m p)∧C'.θ (loc dst j)=Cc'.θ (fr j)∧C'.ρ (loc dst j)=Cc'.ρ (fr j))
  (hS:∀{z:Bool}{k:K}{d:k.den}{vs:List Value},(AV.imm z k d).done=true∨Sub Cc'.S C'.S→k.plain=true→Enc w' Cc'.θ Cc'.Z Cc'.S k (.imm z) d vs noB→Enc w' C'.θ C'.Z C'.S k (.imm z) d vs noB) :
  ∀(av:AV)(vs:List Value),(av.done=true∨Sub Cc'.S C'.S)→AVC w' Cc' (Kh co) av vs→AVC w' C' rs' (av.back g dst) vs:=by
 have hloc:∀{q p:ay}{z y:Root}{pp:Path}{x:Option (List Value×Option (Nat×Nat))},z.mem=y.mem→z.k=y.k→C'.θ q=Cc'.θ p→C'.ρ q=Cc'.ρ p →
   eU w' y.k (Cc'.ρ p) (bK Cc' p y) pp=x→eU w' z.k (C'.ρ q) (bK C' q z) pp=x:=by
  intro q p z y pp x h1 h2 h3 h4 h
  rw [h2,h4]
  have:bK C' q z=bK Cc' p y:=by unfold bK;rw [h1,h3]
  rw [this];exact h
 intro av
 induction av with
 |pair a b iha ihb=>
  intro vs hd hv
  obtain ⟨v1,v2,rfl,h1,h2⟩:=hv
  simp only [AV.done,Bool.and_eq_true] at hd
  exact ⟨v1,v2,rfl,iha _ (hd.imp (·.1) id) h1,ihb _ (hd.imp (·.2) id) h2⟩
 |imm z k d=>intro vs hd hv;exact ⟨hv.1,hS hd hv.1 hv.2⟩
 |nilp=>intro vs _ hv;exact hv
 |nil=>intro vs _ hv;exact hv
 |tnil=>intro vs _ hv;exact hv.elim
 |tcons=>intro vs _ hv;exact hv.elim
 |ref q p=>
  intro vs _ hv
  obtain ⟨q1,q2⟩:=q
  match q1,hv with
  |0,hv=>
   simp only [AV.back]
   cases hg:g[q2]? with
   |none=>trivial
   |some q=>
    obtain ⟨v,rfl,hr⟩:=hv
    obtain ⟨h1,h2,h3⟩:=hreg q2 q hg
    refine ⟨v,rfl,fun z hz=>?_⟩
    obtain ⟨y,hy,y1,y2,y3,y4⟩:=h1 z hz
    obtain ⟨e,base,k1,k2,k3⟩:=hr y hy
    exact ⟨e,base,by rw [y2];exact k1,y4 p k2,hloc y1 y2 h2 h3 k3⟩
  |1,hv=>
   obtain ⟨v,rfl,hr⟩:=hv
   obtain ⟨h1,h2,h3⟩:=hfr q2
   refine ⟨v,rfl,fun z hz=>?_⟩
   obtain ⟨y,hy,y1,y2,y3,y4⟩:=h1 z hz
   obtain ⟨e,base,k1,k2,k3⟩:=hr y hy
   exact ⟨e,base,by rw [y2];exact k1,y4 p k2,hloc y1 y2 h2 h3 k3⟩
  |q1+2,hv=>trivial
 |slc q p lo k0=>
  intro vs _ hv
  obtain ⟨q1,q2⟩:=q
  match q1,hv with
  |0,hv=>
   simp only [AV.back]
   cases hg:g[q2]? with
   |none=>trivial
   |some q=>
    obtain ⟨v,v0,rfl,hr⟩:=hv
    obtain ⟨h1,h2,h3⟩:=hreg q2 q hg
    refine ⟨v,v0,rfl,fun z hz=>?_⟩
    obtain ⟨y,hy,y1,y2,y3,y4⟩:=h1 z hz
    obtain ⟨e,base,k1,k2,k3,k4⟩:=hr y hy
    exact ⟨e,base,by rw [y2];exact k1,y4 p k2,hloc y1 y2 h2 h3 k3,k4⟩
  |1,hv=>
   obtain ⟨v,v0,rfl,hr⟩:=hv
   obtain ⟨h1,h2,h3⟩:=hfr q2
   refine ⟨v,v0,rfl,fun z hz=>?_⟩
   obtain ⟨y,hy,y1,y2,y3,y4⟩:=h1 z hz
   obtain ⟨e,base,k1,k2,k3,k4⟩:=hr y hy
   exact ⟨e,base,by rw [y2];exact k1,y4 p k2,hloc y1 y2 h2 h3 k3,k4⟩
  |q1+2,hv=>trivial
 |ptr q p=>
  intro vs _ hv
  obtain ⟨q1,q2⟩:=q
  cases p with
  |cons _ _=>match q1,hv with
   |0,hv=>trivial
   |1,hv=>trivial
   |q1+2,hv=>trivial
  |nil=>
   match q1,hv with
   |0,hv=>
    simp only [AV.back]
    cases hg:g[q2]? with
    |none=>trivial
    |some q=>
     obtain ⟨b,off,rfl,h0,hr⟩:=hv
     obtain ⟨h1,h2,h3⟩:=hreg q2 q hg
     refine ⟨b,off,rfl,fun hh=>by rw [h2];exact h0 hh,fun z hz=>?_⟩
     obtain ⟨y,hy,y1,y2,y3,y4⟩:=h1 z hz
     obtain ⟨k',cs,k1,k2,k3⟩:=hr y hy
     exact ⟨k',cs,by rw [y2];exact k1,dP _ _ _,hloc y1 y2 h2 h3 k3⟩
   |1,hv=>
    obtain ⟨b,off,rfl,h0,hr⟩:=hv
    obtain ⟨h1,h2,h3⟩:=hfr q2
    refine ⟨b,off,rfl,fun hh=>by rw [h2];exact h0 hh,fun z hz=>?_⟩
    obtain ⟨y,hy,y1,y2,y3,y4⟩:=h1 z hz
    obtain ⟨k',cs,k1,k2,k3⟩:=hr y hy
    exact ⟨k',cs,by rw [y2];exact k1,dP _ _ _,hloc y1 y2 h2 h3 k3⟩
   |q1+2,hv=>trivial
 |dead=>intro vs _ hv;trivial
 |emp=>intro vs _ hv;trivial
 |iptr=>intro vs _ hv;trivial
 |nn=>intro vs _ hv;trivial
 |vw=>intro vs _ hv;trivial
 |fn=>intro vs _ hv;trivial
theorem aiD(g:Reg)(dst:Nat)(av:AV):av.back g dst=.dead∨(av.back g dst).agg=av.agg:=by
 cases av with
 |pair=>exact .inr rfl
 |imm=>exact .inr rfl
 |ref q p=>
  obtain ⟨q1,q2⟩:=q
  match q1 with
  |0=>simp only [AV.back];cases g[q2]?<;>simp [AV.agg]
  |1=>exact .inr rfl
  |q1+2=>exact .inl rfl
 |slc q p=>
  obtain ⟨q1,q2⟩:=q
  match q1 with
  |0=>simp only [AV.back];cases g[q2]?<;>simp [AV.agg]
  |1=>exact .inr rfl
  |q1+2=>exact .inl rfl
 |ptr q p=>
  obtain ⟨q1,q2⟩:=q
  cases p with
  |nil=>match q1 with
   |0=>simp only [AV.back];cases g[q2]?<;>simp [AV.agg]
   |1=>exact .inr rfl
   |q1+2=>exact .inl rfl
  |cons=>match q1 with
   |0=>exact .inl rfl
   |1=>exact .inl rfl
   |q1+2=>exact .inl rfl
 |nilp=>exact .inr rfl
 |tcons=>exact .inr rfl
 |tnil=>exact .inr rfl
 |dead=>exact .inl rfl
 |nil=>exact .inr rfl
 |emp=>exact .inl rfl
 |iptr=>exact .inl rfl
 |nn=>exact .inl rfl
 |vw=>exact .inl rfl
 |fn=>exact .inl rfl
theorem bH.back{w':World}{Cc' C':Ctx}{co:aA}{rs':RF}{g:Reg}{dst:Nat}{P0:AV→Prop}
  (hp:∀a b,P0 (.tcons a b)→P0 a∧P0 b)
  (h:∀(av:AV)(vs:List Value),P0 av→AVC w' Cc' (Kh co) av vs→AVC w' C' rs' (av.back g dst) vs) {v:Value} {av:AV} (h0:P0 av) (hv:bH w' Cc' (Kh co) v av):bH w' C' rs' v (av.back g dst):=by
 have h1:∀{v:Value}{av:AV},P0 av→GH w' Cc' (Kh co) v av→GH w' C' rs' v (av.back g dst):=by
  intro v av h0 hv
  rcases hv with rfl|⟨ha,vs,rfl,hv⟩|⟨ha,hv,hc⟩
  ·exact .inl rfl
  ·rcases aiD g dst av with hd|hd
   ·exact .inl hd
   ·exact .inr (.inl ⟨by rw [hd];exact ha,vs,rfl,h _ _ h0 hv⟩)
  ·rcases aiD g dst av with hd|hd
   ·exact .inl hd
   ·exact .inr (.inr ⟨by rw [hd];exact ha,h _ _ h0 hv,hc⟩)
 rcases hv with hv|⟨vs,rfl,hv⟩
 ·exact .inl (h1 h0 hv)
 ·refine .inr ⟨vs,rfl,?_⟩
  have:∀(av:AV)(vs:List Value),P0 av→XT w' Cc' (Kh co) av vs→XT w' C' rs' (av.back g dst) vs:=by
   intro av
   induction av with
   |tcons a b _ ihb=>
    intro vs h0 hv
    obtain ⟨v,l,rfl,k1,k2⟩:=hv
    exact ⟨v,l,rfl,h1 (hp _ _ h0).1 k1,ihb _ (hp _ _ h0).2 k2⟩
   |tnil=>intro vs _ hv;exact hv
   |_=>intro vs _ hv;exact hv.elim
  exact this av vs h0 hv
theorem wR{f:ay→ay}:∀(p:Path){k:K}{d:k.den}{m:Mask},cO k d m p→cO k (sQ f k d) m p:=by
 intro p
 induction p with
 |nil=>intro k d m _;exact dP _ _ _
 |cons st p ih=>
  intro k d m h
  cases st with
  |fst=>
   cases k with
   |pair a b=>
    simp only [sQ]
    cases a.plain&&b.plain with
    |true=>exact h
    |false=>exact ih (k:=a) h
   |_=>exact h.elim
  |snd=>
   cases k with
   |pair a b=>
    simp only [sQ]
    cases a.plain&&b.plain with
    |true=>exact h
    |false=>exact ih (k:=b) h
   |_=>exact h.elim
  |idx i=>
   cases k with
   |sl e=>
    simp only [sQ]
    cases e.plain with
    |true=>exact h
    |false=>
     obtain ⟨h1,x,hx,h2⟩:=h
     exact ⟨h1,sQ f e x,by simp only [cond_false];rw [List.getElem?_map,hx];rfl,ih (k:=e) h2⟩
   |_=>exact h.elim
end
end Go.Abs
