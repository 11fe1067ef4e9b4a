/- Part 4 of the proof of FnErased. -/
import Derived.Test.YtmilokkchghpjaaEr3
set_option maxRecDepth 100000
noncomputable section
namespace Go.Proofs.Ytmilokkchghpjaa
open Go Go.Abs Go.Proofs
-- shared
structure FO where
 q:Nat
 dg:Nat
 mul:Nat→Nat→Nat
 hq:1<q
 hd:1≤dg
 lt:∀a b,mul a b<q
 xlt:∀a b,a<q→b<q→a^^^b<q
 comm:∀a b,mul a b=mul b a
 assoc:∀a b c,mul (mul a b) c=mul a (mul b c)
 add:∀a b c,mul a (b^^^c)=mul a b^^^mul a c
 one:∀a,a<q→mul a 1=a
 inv:∀a,a<q→a≠0→∃b,b<q∧mul a b=1
namespace FO
variable (F : FO)
theorem mul_zero(a:Nat):F.mul a 0=0:=by
 have:=F.add a 0 0
 rw [Nat.xor_self,Nat.xor_self] at this
 exact this
theorem zero_mul(a:Nat):F.mul 0 a=0:=by rw [F.comm,F.mul_zero]
theorem asf(a b c:Nat):F.mul (a^^^b) c=F.mul a c^^^F.mul b c:=by rw [F.comm,F.add,F.comm c a,F.comm c b]
theorem nz{a b:Nat}(ha:a<F.q)(hb:b<F.q)(h:F.mul a b=0):a=0∨b=0:=by
 by_cases h0:a=0
 ·exact .inl h0
 ·right
  obtain ⟨c,hc,h1⟩:=F.inv a ha h0
  rw [←F.one b hb,←h1,F.comm,F.comm a c,F.assoc,h,F.mul_zero]
theorem zlt:0<F.q:=Nat.lt_trans Nat.zero_lt_one F.hq
def sq(a:Nat):Nat:=F.mul a a
theorem ap6(a:Nat):F.sq a<F.q:=F.lt a a
theorem E5:F.sq 0=0:=F.mul_zero 0
theorem axW(a b c:Nat):(a^^^b)^^^(b^^^c)=a^^^c:=by rw [Nat.xor_assoc,←Nat.xor_assoc b b c,Nat.xor_self,Nat.zero_xor]
theorem agl(a b:Nat):F.sq (a^^^b)=F.sq a^^^F.sq b:=by
 unfold sq
 rw [F.add,F.asf,F.asf,F.comm b a,axW]
theorem aui(a b:Nat):F.sq (F.mul a b)=F.mul (F.sq a) (F.sq b):=by
 unfold sq
 rw [F.assoc a b (F.mul a b),←F.assoc b a b,F.comm b a,F.assoc a b b,←F.assoc a a]
theorem axP{a:Nat}(ha:a<F.q)(h:F.sq a=0):a=0:=(F.nz ha ha h).elim id id
def sqn:Nat→Nat→Nat
 |0,a=>a
 |k+1,a=>sqn k (F.sq a)
theorem KE:∀(k:Nat){a:Nat},a<F.q→F.sqn k a<F.q:=by
 intro k
 induction k with
 |zero=>intro a h;exact h
 |succ k ih=>intro a _;exact ih (F.ap6 a)
theorem amP:∀(k:Nat),F.sqn k 0=0:=by
 intro k
 induction k with
 |zero=>rfl
 |succ k ih=>unfold sqn;rw [F.E5];exact ih
theorem ap7:∀(k:Nat){a:Nat},a<F.q→F.sqn k a=0→a=0:=by
 intro k
 induction k with
 |zero=>intro a _ h;exact h
 |succ k ih=>intro a ha h;exact F.axP ha (ih (F.ap6 a) h)
theorem adV:∀(i j a:Nat),F.sqn (i+j) a=F.sqn j (F.sqn i a):=by
 intro i
 induction i with
 |zero=>intro j a;rw [Nat.zero_add];rfl
 |succ i ih=>intro j a;rw [show i+1+j=(i+j)+1 by omega];exact ih j (F.sq a)
theorem amO(k a:Nat):F.sqn (k+1) a=F.sq (F.sqn k a):=F.adV k 1 a
def lp:List Nat→Nat→Nat
 |[],_=>0
 |c::p,x=>F.mul c x^^^lp p (F.sq x)
theorem NQ:∀(p:List Nat)(x y:Nat),F.lp p (x^^^y)=F.lp p x^^^F.lp p y:=by
 intro p
 induction p with
 |nil=>intro x y;simp [lp]
 |cons c p ih=>
  intro x y
  simp only [lp]
  rw [F.add,F.agl,ih]
  ac_rfl
theorem TP:∀(p:List Nat),F.lp p 0=0:=by
 intro p
 induction p with
 |nil=>rfl
 |cons c p ih=>simp only [lp];rw [F.mul_zero,F.E5,ih];rfl
theorem YI:∀(p:List Nat)(x:Nat),F.lp p x<F.q:=by
 intro p
 induction p with
 |nil=>intro x;exact F.zlt
 |cons c p ih=>intro x;exact F.xlt _ _ (F.lt _ _) (ih _)
def Ia:Nat→List Nat→List Nat×Nat
 |_,[]=>([],0)
 |_,[c]=>([],c)
 |g,c::d::ps=>((Ia (F.sq g) (d::ps)).2::(Ia (F.sq g) (d::ps)).1,c^^^F.mul (Ia (F.sq g) (d::ps)).2 g)
theorem asD:∀(p:List Nat)(g:Nat),p≠[]→(F.Ia g p).1.length+1=p.length:=by
 intro p
 induction p with
 |nil=>intro g h;exact absurd rfl h
 |cons c p ih=>
  intro g _
  cases p with
  |nil=>rfl
  |cons d ps=>
   have:=ih (F.sq g) (by simp)
   simp only [Ia,List.length_cons] at this ⊢
   omega
theorem ao8:∀(p:List Nat)(g x:Nat),F.lp p x=F.lp (F.Ia g p).1 (F.sq x^^^F.mul g x)^^^F.mul (F.Ia g p).2 x:=by
 intro p
 induction p with
 |nil=>intro g x;simp only [Ia,lp];rw [F.zero_mul];rfl
 |cons c p ih=>
  intro g x
  cases p with
  |nil=>simp only [Ia,lp];rw [Nat.xor_zero,Nat.zero_xor]
  |cons d ps=>
   have h:=ih (F.sq g) (F.sq x)
   have h1:F.sq (F.sq x^^^F.mul g x)=F.sq (F.sq x)^^^F.mul (F.sq g) (F.sq x):=by rw [F.agl,F.aui]
   show F.mul c x^^^F.lp (d::ps) (F.sq x)=(F.mul (F.Ia (F.sq g) (d::ps)).2 (F.sq x^^^F.mul g x)^^^F.lp (F.Ia (F.sq g) (d::ps)).1 (F.sq (F.sq x^^^F.mul g x)))^^^F.mul (c^^^F.mul (F.Ia (F.sq g) (d::ps)).2 g) x
   rw [h,h1,F.add,F.asf,F.assoc]
   generalize F.lp (F.Ia (F.sq g) (d::ps)).1 _=A
   generalize F.mul (F.Ia (F.sq g) (d::ps)).2 (F.sq x)=B
   generalize F.mul (F.Ia (F.sq g) (d::ps)).2 (F.mul g x)=D
   generalize F.mul c x=E
   calc E^^^(A^^^B)=(B^^^A^^^E)^^^0:=by rw [Nat.xor_zero];ac_rfl
    _=(B^^^A^^^E)^^^(D^^^D):=by rw [Nat.xor_self]
    _=B^^^D^^^A^^^(E^^^D):=by ac_rfl
theorem aqr:∀(p:List Nat)(g:Nat),(∀y∈(F.Ia g p).1,y=0)→(F.Ia g p).2=0→∀y∈p,y=0:=by
 intro p
 induction p with
 |nil=>intro g _ _ y hy;cases hy
 |cons c p ih=>
  intro g h1 h2
  cases p with
  |nil=>intro y hy;rw [List.mem_singleton.1 hy];exact h2
  |cons d ps=>
   simp only [Ia] at h1 h2
   have h3:=h1 _ (List.mem_cons_self ..)
   have h4:=ih (F.sq g) (fun y hy=>h1 y (List.mem_cons_of_mem _ hy)) h3
   rw [h3,F.zero_mul,Nat.xor_zero] at h2
   intro y hy
   rcases List.mem_cons.1 hy with rfl|hy
   ·exact h2
   ·exact h4 y hy
theorem auR:∀(p:List Nat)(g:Nat),(∀y∈p,y<F.q)→(F.Ia g p).2<F.q∧∀y∈(F.Ia g p).1,y<F.q:=by
 intro p
 induction p with
 |nil=>intro g _;exact ⟨F.zlt,fun y hy=>by cases hy⟩
 |cons c p ih=>
  intro g h
  cases p with
  |nil=>exact ⟨h c (List.mem_cons_self ..),fun y hy=>by cases hy⟩
  |cons d ps=>
   have:=ih (F.sq g) fun y hy=>h y (List.mem_cons_of_mem _ hy)
   refine ⟨F.xlt _ _ (h c (List.mem_cons_self ..)) (F.lt _ _),fun y hy=>?_⟩
   rcases List.mem_cons.1 hy with rfl|hy
   ·exact this.1
   ·exact this.2 y hy
def lI:List Bool→List Nat→Nat
 |b::bs,x::xs=>(bif b then x else 0)^^^lI bs xs
 |_,_=>0
def oK(xs:List Nat):Prop:=∀bs:List Bool,bs.length=xs.length→lI bs xs=0→∀b∈bs,b=false
theorem agf{φ:Nat→Nat}(h0:φ 0=0)(hφ:∀a b,φ (a^^^b)=φ a^^^φ b):∀(bs:List Bool)(xs:List Nat),lI bs (xs.map φ)=φ (lI bs xs):=by
 intro bs
 induction bs with
 |nil=>intro xs;cases xs<;>exact h0.symm
 |cons b bs ih=>
  intro xs
  cases xs with
  |nil=>exact h0.symm
  |cons x xs=>
   simp only [List.map_cons,lI]
   rw [ih,hφ]
   cases b
   ·simp only [cond_false];rw [h0]
   ·rfl
theorem Xr:∀(n:Nat)(xs:List Nat),lI (List.replicate n false) xs=0:=by
 intro n
 induction n with
 |zero=>intro xs;cases xs<;>rfl
 |succ n ih=>
  intro xs
  cases xs with
  |nil=>rfl
  |cons x xs=>simp only [List.replicate_succ,lI,cond_false];rw [ih];rfl
theorem avE:∀(bs:List Bool)(xs:List Nat),(∀x∈xs,x<F.q)→lI bs xs<F.q:=by
 intro bs
 induction bs with
 |nil=>intro xs _;cases xs<;>exact F.zlt
 |cons b bs ih=>
  intro xs h
  cases xs with
  |nil=>exact F.zlt
  |cons x xs=>
   simp only [lI]
   refine F.xlt _ _ ?_ (ih xs fun y hy=>h y (List.mem_cons_of_mem _ hy))
   cases b
   ·exact F.zlt
   ·exact h x (List.mem_cons_self ..)
theorem acC:∀(b1:List Bool)(x1:List Nat)(b2:List Bool)(x2:List Nat),b1.length=x1.length→lI (b1++b2) (x1++x2)=lI b1 x1^^^lI b2 x2:=by
 intro b1
 induction b1 with
 |nil=>intro x1 b2 x2 h;cases x1 with
  |nil=>simp [lI]
  |cons _ _=>simp at h
 |cons b b1 ih=>
  intro x1 b2 x2 h
  cases x1 with
  |nil=>simp at h
  |cons x x1=>
   simp only [List.cons_append,lI]
   rw [ih x1 b2 x2 (by simpa using h),Nat.xor_assoc]
theorem oK.head{g:Nat}{gs:List Nat}(h:oK (g::gs)):g≠0:=by
 intro h0
 have:=h (true::List.replicate gs.length false) (by simp) (by simp only [lI,cond_true];rw [Xr,h0];rfl) true (List.mem_cons_self ..)
 cases this
theorem oK.tail{g:Nat}{gs:List Nat}(h:oK (g::gs)):oK gs:=by
 intro bs hl hs b hb
 exact h (false::bs) (by simp [hl]) (by simp only [lI,cond_false];rw [hs];rfl) b (List.mem_cons_of_mem _ hb)
theorem aor:∀(n:Nat)(gs p:List Nat),gs.length=n→p.length≤gs.length→(∀g∈gs,g<F.q)→(∀c∈p,c<F.q)→oK gs→(∀g∈gs,F.lp p g=0)→∀c∈p,c=0:=by
 intro n
 induction n with
 |zero=>
  intro gs p hn hl _ _ _ _ c hc
  rw [List.length_eq_zero_iff.1 (show p.length=0 by omega)] at hc
  cases hc
 |succ n ih=>
  intro gs p hn hl hg hp hi hr
  cases gs with
  |nil=>simp at hn
  |cons g gs=>
  simp only [List.length_cons,Nat.add_right_cancel_iff] at hn
  by_cases hp0:p=[]
  ·subst hp0;intro c hc;cases hc
  have hlen:=F.asD p g hp0
  have hlt:=F.auR p g hp
  have hg0:=hi.head
  have hgq:=hg g (List.mem_cons_self ..)
  have h1:=F.ao8 p g g
  rw [hr g (List.mem_cons_self ..),show F.sq g^^^F.mul g g=0 from Nat.xor_self _,F.TP,Nat.zero_xor] at h1
  have hc0:(F.Ia g p).2=0:=(F.nz hlt.1 hgq h1.symm).resolve_right hg0
  have hφ0:(fun x=>F.sq x^^^F.mul g x) 0=0:=by show F.sq 0^^^F.mul g 0=0;rw [F.E5,F.mul_zero];rfl
  have hφ:∀a b,(fun x=>F.sq x^^^F.mul g x) (a^^^b)=(fun x=>F.sq x^^^F.mul g x) a^^^(fun x=>F.sq x^^^F.mul g x) b:=by
   intro a b
   show F.sq (a^^^b)^^^F.mul g (a^^^b)=(F.sq a^^^F.mul g a)^^^(F.sq b^^^F.mul g b)
   rw [F.agl,F.add]
   ac_rfl
  refine F.aqr p g (ih (gs.map fun x=>F.sq x^^^F.mul g x) (F.Ia g p).1 (by simpa using hn) ?_ ?_ hlt.2 ?_ ?_) hc0
  ·rw [List.length_map];simp only [List.length_cons] at hl;omega
  ·intro y hy
   obtain ⟨x,_,rfl⟩:=List.mem_map.1 hy
   exact F.xlt _ _ (F.ap6 x) (F.lt _ _)
  ·intro bs hbl hbs
   rw [List.length_map] at hbl
   rw [agf hφ0 hφ] at hbs
   have hS:=F.avE bs gs fun y hy=>hg y (List.mem_cons_of_mem _ hy)
   have h2:F.mul (lI bs gs^^^g) (lI bs gs)=0:=by rw [F.asf];exact hbs
   rcases F.nz (F.xlt _ _ hS hgq) hS h2 with h3|h3
   ·exfalso
    have:=hi (true::bs) (by simp [hbl]) (by simp only [lI,cond_true];rw [Nat.xor_comm];exact h3) true (List.mem_cons_self ..)
    cases this
   ·exact hi.tail bs hbl h3
  ·intro y hy
   obtain ⟨x,hx,rfl⟩:=List.mem_map.1 hy
   have h2:=F.ao8 p g x
   rw [hr x (List.mem_cons_of_mem _ hx),hc0,F.zero_mul,Nat.xor_zero] at h2
   exact h2.symm
theorem atu(gs p:List Nat)(hl:p.length≤gs.length)(hg:∀g∈gs,g<F.q)(hp:∀c∈p,c<F.q)(hi:oK gs)(h:∀g∈gs,F.lp p g=0):∀c∈p,c=0:=F.aor _ gs p rfl hl hg hp hi h
def Db(us:List Nat)(v:Nat):Prop:=∃bs:List Bool,bs.length=us.length∧v=lI bs us
theorem aub:∀(b1 b2:List Bool)(us:List Nat),b1.length=us.length→b2.length=us.length→lI (List.zipWith xor b1 b2) us=lI b1 us^^^lI b2 us:=by
 intro b1
 induction b1 with
 |nil=>intro b2 us h1 h2;cases us with
  |nil=>simp [lI]
  |cons _ _=>simp at h1
 |cons b b1 ih=>
  intro b2 us h1 h2
  cases us with
  |nil=>simp at h1
  |cons u us=>
   cases b2 with
   |nil=>simp at h2
   |cons b' b2=>
    simp only [List.zipWith_cons_cons,lI]
    rw [ih b2 us (by simpa using h1) (by simpa using h2)]
    have:(bif xor b b' then u else 0)=(bif b then u else 0)^^^(bif b' then u else 0):=by
     cases b<;>cases b'<;>simp
    rw [this]
    ac_rfl
theorem Db.add{us:List Nat}{a b:Nat}(ha:Db us a)(hb:Db us b):Db us (a^^^b):=by
 obtain ⟨b1,h1,rfl⟩:=ha
 obtain ⟨b2,h2,rfl⟩:=hb
 exact ⟨List.zipWith xor b1 b2,by simp [h1,h2],(aub b1 b2 us h1 h2).symm⟩
theorem Db.zero(us:List Nat):Db us 0:=⟨List.replicate us.length false,by simp,(Xr _ _).symm⟩
theorem Db.cons{u:Nat}{us:List Nat}{v:Nat}(h:Db (u::us) v):Db us v∨Db us (v^^^u):=by
 obtain ⟨bs,hl,rfl⟩:=h
 cases bs with
 |nil=>simp at hl
 |cons b bs=>
  simp only [List.length_cons,Nat.add_right_cancel_iff] at hl
  cases b
  ·left;exact ⟨bs,hl,by simp only [lI,cond_false];rw [Nat.zero_xor]⟩
  ·right;exact ⟨bs,hl,by simp only [lI,cond_true];rw [Nat.xor_comm u,Nat.xor_assoc,Nat.xor_self,Nat.xor_zero]⟩
theorem Db.map{φ:Nat→Nat}(h0:φ 0=0)(hφ:∀a b,φ (a^^^b)=φ a^^^φ b){us:List Nat}{v:Nat}(h:Db us v):Db (us.map φ) (φ v):=by
 obtain ⟨bs,hl,rfl⟩:=h
 exact ⟨bs,by simpa using hl,(agf h0 hφ bs us).symm⟩
theorem aoN(ψ:Nat→Prop) [∀g,Decidable (ψ g)] (g0:Nat):∀(bs:List Bool)(gs:List Nat),bs.length=gs.length→∃b:Bool,lI bs (gs.map fun g=>if ψ g then g else g^^^g0)=lI (b::bs) (g0::gs):=by
 intro bs
 induction bs with
 |nil=>intro gs h;cases gs with
  |nil=>exact ⟨false,by simp [lI]⟩
  |cons _ _=>simp at h
 |cons b bs ih=>
  intro gs h
  cases gs with
  |nil=>simp at h
  |cons g gs=>
   obtain ⟨b',hb'⟩:=ih gs (by simpa using h)
   simp only [List.map_cons,lI] at hb' ⊢
   rw [hb']
   cases b
   ·exact ⟨b',by simp only [cond_false,Nat.zero_xor]⟩
   ·simp only [cond_true]
    by_cases hg:ψ g
    ·exact ⟨b',by rw [if_pos hg];ac_rfl⟩
    ·refine ⟨!b',?_⟩
     rw [if_neg hg]
     cases b'
     ·simp only [cond_false,Bool.not_false,cond_true,Nat.zero_xor];ac_rfl
     ·simp only [cond_true,Bool.not_true,cond_false,Nat.zero_xor]
      calc g^^^g0^^^(g0^^^lI bs gs)=g^^^lI bs gs^^^(g0^^^g0):=by ac_rfl
       _=g^^^lI bs gs:=by rw [Nat.xor_self,Nat.xor_zero]
theorem avT{φ:Nat→Nat}(hφ:∀a b,φ (a^^^b)=φ a^^^φ b)(u:Nat)(us:List Nat):∀gs:List Nat,(∀g∈gs,g<F.q)→(∀g∈gs,Db (u::us) (φ g)) →
  ∃gs',gs.length≤gs'.length+1∧(∀g∈gs',g<F.q)∧(∀g∈gs',Db us (φ g))∧∀zs,oK (zs++gs)→oK (zs++gs'):=by
 intro gs
 induction gs with
 |nil=>intro _ _;exact ⟨[],by simp,fun g hg=>absurd hg List.not_mem_nil,fun g hg=>absurd hg List.not_mem_nil,fun zs h=>h⟩
 |cons g0 gs ih=>
  intro hlt hs
  have hlt2:∀g∈gs,g<F.q:=fun g hg=>hlt g (List.mem_cons_of_mem _ hg)
  by_cases h0:Db us (φ g0)
  ·obtain ⟨gs',h1,h2,h3,h4⟩:=ih hlt2 fun g hg=>hs g (List.mem_cons_of_mem _ hg)
   refine ⟨g0::gs',by simp only [List.length_cons];omega,fun g hg=>?_,fun g hg=>?_,fun zs hz=>?_⟩
   ·rcases List.mem_cons.1 hg with rfl|hg
    ·exact hlt _ (List.mem_cons_self ..)
    ·exact h2 g hg
   ·rcases List.mem_cons.1 hg with rfl|hg
    ·exact h0
    ·exact h3 g hg
   ·have:=h4 (zs++[g0]) (by simpa using hz)
    simpa using this
  ·have hu:=(hs g0 (List.mem_cons_self ..)).cons.resolve_left h0
   haveI:∀g,Decidable (Db us (φ g)):=fun g=>Classical.propDecidable _
   refine ⟨gs.map fun g=>if Db us (φ g) then g else g^^^g0,by simp,fun g hg=>?_,fun g hg=>?_,fun zs hz=>?_⟩
   ·obtain ⟨x,hx,rfl⟩:=List.mem_map.1 hg
    split
    ·exact hlt2 x hx
    ·exact F.xlt _ _ (hlt2 x hx) (hlt g0 (List.mem_cons_self ..))
   ·obtain ⟨x,hx,rfl⟩:=List.mem_map.1 hg
    split
    ·assumption
    ·rename_i hn
     have h1:=(hs x (List.mem_cons_of_mem _ hx)).cons.resolve_left hn
     rw [hφ]
     have h2:=h1.add hu
     rw [show φ x^^^u^^^(φ g0^^^u)=φ x^^^φ g0 from by
      calc φ x^^^u^^^(φ g0^^^u)=φ x^^^φ g0^^^(u^^^u):=by ac_rfl
       _=φ x^^^φ g0:=by rw [Nat.xor_self,Nat.xor_zero]] at h2
     exact h2
   ·intro bs hl hb b hbm
    simp only [List.length_append,List.length_map] at hl
    have hsp:bs=bs.take zs.length++bs.drop zs.length:=(List.take_append_drop _ _).symm
    have hl1:(bs.take zs.length).length=zs.length:=by rw [List.length_take];omega
    have hl2:(bs.drop zs.length).length=gs.length:=by rw [List.length_drop];omega
    rw [hsp,acC _ _ _ _ hl1] at hb
    obtain ⟨c,hc⟩:=aoN (fun g=>Db us (φ g)) g0 (bs.drop zs.length) gs hl2
    rw [hc,←acC _ _ _ _ hl1] at hb
    have hall:=hz _ (by simp [hl1,hl2]) hb
    rw [hsp] at hbm
    refine hall b ?_
    rcases List.mem_append.1 hbm with h|h
    ·exact List.mem_append.2 (.inl h)
    ·exact List.mem_append.2 (.inr (List.mem_cons_of_mem _ h))
theorem axO{φ:Nat→Nat}(hφ:∀a b,φ (a^^^b)=φ a^^^φ b):∀(us gs:List Nat),(∀g∈gs,g<F.q)→(∀g∈gs,Db us (φ g))→oK gs →
  ∃hs,gs.length≤hs.length+us.length∧(∀h∈hs,h<F.q)∧(∀h∈hs,φ h=0)∧oK hs:=by
 intro us
 induction us with
 |nil=>
  intro gs hlt hs hi
  refine ⟨gs,by simp,hlt,fun g hg=>?_,hi⟩
  obtain ⟨bs,_,h⟩:=hs g hg
  rw [h]
  cases bs<;>rfl
 |cons u us ih=>
  intro gs hlt hs hi
  obtain ⟨gs',h1,h2,h3,h4⟩:=F.avT hφ u us gs hlt hs
  obtain ⟨hs',k1,k2,k3,k4⟩:=ih gs' h2 h3 (h4 [] hi)
  exact ⟨hs',by simp only [List.length_cons];omega,k2,k3,k4⟩
theorem atv{us gs p:List Nat}(hl:p.length+us.length≤gs.length)(hg:∀g∈gs,g<F.q)(hp:∀c∈p,c<F.q)(hi:oK gs)(h:∀g∈gs,Db us (F.lp p g)):∀c∈p,c=0:=by
 obtain ⟨hs,h1,h2,h3,h4⟩:=F.axO (φ:=F.lp p) (F.NQ p) us gs hg h hi
 exact F.atu hs p (by omega) h2 hp h4 h3
end FO
-- shared
def cf(p:List Nat)(i:Nat):Nat:=p.getD i 0
theorem uZ(i:Nat):cf [] i=0:=by simp [cf]
theorem Bu(a:Nat)(p:List Nat):cf (a::p) 0=a:=by simp [cf]
theorem mI(a:Nat)(p:List Nat)(i:Nat):cf (a::p) (i+1)=cf p i:=by simp [cf]
theorem XD{p:List Nat}{i:Nat}(h:p.length≤i):cf p i=0:=by
 unfold cf
 rw [List.getD_eq_getElem?_getD,List.getElem?_eq_none h];rfl
theorem aso{p:List Nat}(h:∀i,cf p i=0):∀c∈p,c=0:=by
 intro c hc
 obtain ⟨i,hi⟩:=List.getElem?_of_mem hc
 have:=h i
 unfold cf at this
 rw [List.getD_eq_getElem?_getD,hi] at this
 exact this
theorem aqj{p:List Nat}(h:∀c∈p,c=0)(i:Nat):cf p i=0:=by
 unfold cf
 rw [List.getD_eq_getElem?_getD]
 cases hi:p[i]? with
 |none=>rfl
 |some c=>exact h c (List.mem_of_getElem? hi)
theorem aiS{g:Nat→Nat}(h0:g 0=0)(p:List Nat)(i:Nat):cf (p.map g) i=g (cf p i):=by
 unfold cf
 rw [List.getD_eq_getElem?_getD,List.getD_eq_getElem?_getD,List.getElem?_map]
 cases p[i]? with
 |none=>exact h0.symm
 |some c=>rfl
theorem anl:∀{p q:List Nat},p.length=q.length→(∀i,cf p i=cf q i)→p=q:=by
 intro p
 induction p with
 |nil=>intro q h _;exact (List.length_eq_zero_iff.1 h.symm).symm
 |cons a p ih=>
  intro q h hc
  cases q with
  |nil=>simp at h
  |cons b q=>
   have h0:=hc 0
   rw [Bu,Bu] at h0
   rw [h0,ih (by simpa using h) fun i=>by have:=hc (i+1);rwa [mI,mI] at this]
def lq:List Nat→List Nat→List Nat
 |[],q=>q
 |a::p,[]=>a::p
 |a::p,b::q=>(a^^^b)::lq p q
theorem akq(p:List Nat):lq p []=p:=by cases p<;>rfl
theorem Qz:∀(p q:List Nat),(lq p q).length=max p.length q.length:=by
 intro p
 induction p with
 |nil=>intro q;simp [lq]
 |cons a p ih=>
  intro q
  cases q with
  |nil=>simp [lq]
  |cons b q=>simp only [lq,List.length_cons,ih];omega
theorem vU:∀(p q:List Nat)(i:Nat),cf (lq p q) i=cf p i^^^cf q i:=by
 intro p
 induction p with
 |nil=>intro q i;rw [uZ,Nat.zero_xor];rfl
 |cons a p ih=>
  intro q i
  cases q with
  |nil=>rw [uZ,Nat.xor_zero];rfl
  |cons b q=>
   cases i with
   |zero=>rfl
   |succ i=>simp only [lq,mI];exact ih q i
def dF:List Nat→List Nat
 |[]=>[]
 |a::p=>match dF p with
  |[]=>if a=0 then [] else [a]
  |b::q=>a::b::q
theorem fQ:∀(p:List Nat)(i:Nat),cf (dF p) i=cf p i:=by
 intro p
 induction p with
 |nil=>intro i;rfl
 |cons a p ih=>
  intro i
  unfold dF
  cases ht:dF p with
  |nil=>
   rw [ht] at ih
   simp only
   split
   ·rename_i h
    subst h
    cases i with
    |zero=>rfl
    |succ i=>rw [mI,←ih i,uZ,uZ]
   ·cases i with
    |zero=>rfl
    |succ i=>rw [mI,mI,←ih i]
  |cons b q=>
   rw [ht] at ih
   simp only
   cases i with
   |zero=>rfl
   |succ i=>rw [mI,mI,←ih i]
theorem tF:∀(p:List Nat),dF p≠[]→cf (dF p) ((dF p).length-1)≠0:=by
 intro p
 induction p with
 |nil=>intro h;exact absurd rfl h
 |cons a p ih=>
  unfold dF
  cases ht:dF p with
  |nil=>
   simp only
   split
   ·intro h;exact absurd rfl h
   ·rename_i h;intro _;exact h
  |cons b q=>
   rw [ht] at ih
   intro _
   have:=ih (by simp)
   simp only [List.length_cons,Nat.add_sub_cancel] at this ⊢
   rw [mI];exact this
theorem mo:∀(p:List Nat),(dF p).length≤p.length:=by
 intro p
 induction p with
 |nil=>exact Nat.le_refl _
 |cons a p ih=>
  unfold dF
  cases ht:dF p with
  |nil=>
   simp only
   split<;>simp
  |cons b q=>rw [ht] at ih;simp only [List.length_cons] at ih ⊢;omega
theorem ar5{p:List Nat}(h:∀i,cf p i=0):dF p=[]:=by
 apply Classical.byContradiction
 intro hn
 exact tF p hn (by rw [fQ];exact h _)
theorem Mj{p q:List Nat}(hp:p≠[]→cf p (p.length-1)≠0)(hq:q≠[]→cf q (q.length-1)≠0)(h:∀i,cf p i=cf q i):p=q:=by
 have key:∀{p q:List Nat},(p≠[]→cf p (p.length-1)≠0)→(∀i,cf p i=cf q i)→p.length≤q.length:=by
  intro p q hp h
  by_cases hn:p=[]
  ·subst hn;exact Nat.zero_le _
  ·have:=hp hn
   have hl:0<p.length:=List.length_pos_iff.2 hn
   apply Classical.byContradiction
   intro hlt
   rw [h,XD (by omega)] at this
   exact this rfl
 exact anl (Nat.le_antisymm (key hp h) (key hq fun i=>(h i).symm)) h
def rU(k:Nat)(p:List Nat):List Nat:=p++List.replicate (k-p.length) 0
theorem IC(k:Nat)(p:List Nat)(i:Nat):cf (rU k p) i=cf p i:=by
 unfold rU cf
 rw [List.getD_eq_getElem?_getD,List.getD_eq_getElem?_getD]
 by_cases h:i<p.length
 ·rw [List.getElem?_append_left h]
 ·rw [List.getElem?_append_right (by omega),List.getElem?_eq_none (l:=p) (by omega),List.getElem?_replicate]
  split<;>rfl
theorem LG{k:Nat}{p:List Nat}(h:p.length≤k):(rU k p).length=k:=by simp [rU];omega
theorem GD{k:Nat}{m:List Nat}(h:m.length=k):rU k (dF m)=m:=by
 have:=mo m
 exact anl (by rw [LG (by omega),h]) fun i=>by rw [IC,fQ]
namespace FO
variable (F : FO)
theorem apv:∀(p q:List Nat)(x:Nat),F.lp (lq p q) x=F.lp p x^^^F.lp q x:=by
 intro p
 induction p with
 |nil=>intro q x;simp [lq,lp]
 |cons a p ih=>
  intro q x
  cases q with
  |nil=>simp [lq,lp]
  |cons b q=>
   simp only [lq,lp]
   rw [F.asf,ih]
   ac_rfl
def fD:List Nat→(Nat→Nat)→Nat→Nat
 |[],_,_=>0
 |v::vs,x,i=>F.mul v (x i)^^^(match i with
  |0=>0
  |i+1=>fD vs (fun j=>F.sq (x j)) i)
def jZ:List Nat→List Nat→List Nat
 |[],_=>[]
 |v::vs,m=>lq (m.map (F.mul v)) (0::jZ vs (m.map F.sq))
theorem Fv:∀(V m:List Nat)(i:Nat),cf (F.jZ V m) i=F.fD V (cf m) i:=by
 intro V
 induction V with
 |nil=>intro m i;exact uZ i
 |cons v vs ih=>
  intro m i
  simp only [jZ,fD]
  rw [vU,aiS (F.mul_zero v)]
  cases i with
  |zero=>rfl
  |succ i=>
   rw [mI,ih]
   rw [show cf (m.map F.sq)=fun j=>F.sq (cf m j) from funext fun j=>aiS F.E5 m j]
theorem AJ:∀(V m:List Nat),V≠[]→m≠[]→(F.jZ V m).length+1=V.length+m.length:=by
 intro V
 induction V with
 |nil=>intro m h;exact absurd rfl h
 |cons v vs ih=>
  intro m _ hm
  have hl:0<m.length:=List.length_pos_iff.2 hm
  simp only [jZ]
  rw [Qz,List.length_map,List.length_cons]
  by_cases hv:vs=[]
  ·subst hv;simp only [jZ,List.length_nil,List.length_cons];omega
  ·have:=ih (m.map F.sq) hv (by simpa using hm)
   rw [List.length_map] at this
   simp only [List.length_cons];omega
theorem adC:∀{p q:List Nat},(∀c∈p,c<F.q)→(∀c∈q,c<F.q)→∀c∈lq p q,c<F.q:=by
 intro p
 induction p with
 |nil=>intro q _ hq;exact hq
 |cons a p ih=>
  intro q hp hq
  cases q with
  |nil=>exact hp
  |cons b q=>
   intro c hc
   rcases List.mem_cons.1 hc with rfl|hc
   ·exact F.xlt _ _ (hp _ (List.mem_cons_self ..)) (hq _ (List.mem_cons_self ..))
   ·exact ih (fun c hc=>hp c (List.mem_cons_of_mem _ hc)) (fun c hc=>hq c (List.mem_cons_of_mem _ hc)) c hc
theorem akG:∀(V m:List Nat),∀c∈F.jZ V m,c<F.q:=by
 intro V
 induction V with
 |nil=>intro m c hc;cases hc
 |cons v vs ih=>
  intro m
  refine F.adC (fun c hc=>?_) (fun c hc=>?_)
  ·obtain ⟨x,_,rfl⟩:=List.mem_map.1 hc
   exact F.lt _ _
  ·rcases List.mem_cons.1 hc with rfl|hc
   ·exact F.zlt
   ·exact ih _ c hc
theorem ari(v:Nat):∀(m:List Nat)(x:Nat),F.lp (m.map (F.mul v)) x=F.mul v (F.lp m x):=by
 intro m
 induction m with
 |nil=>intro x;exact (F.mul_zero v).symm
 |cons c m ih=>
  intro x
  simp only [List.map_cons,lp]
  rw [ih,F.add,F.assoc]
theorem atw:∀(m:List Nat)(x:Nat),F.lp (m.map F.sq) (F.sq x)=F.sq (F.lp m x):=by
 intro m
 induction m with
 |nil=>intro x;exact F.E5.symm
 |cons c m ih=>
  intro x
  simp only [List.map_cons,lp]
  rw [ih,F.agl,F.aui]
theorem RV:∀(V m:List Nat)(x:Nat),F.lp (F.jZ V m) x=F.lp V (F.lp m x):=by
 intro V
 induction V with
 |nil=>intro m x;rfl
 |cons v vs ih=>
  intro m x
  simp only [jZ]
  rw [F.apv,F.ari]
  simp only [lp]
  rw [F.zero_mul,Nat.zero_xor,ih,F.atw]
theorem aft:∀{p q:List Nat},(∀i,cf p i=cf q i)→∀x,F.lp p x=F.lp q x:=by
 have hz:∀{q:List Nat},(∀i,cf q i=0)→∀x,F.lp q x=0:=by
  intro q
  induction q with
  |nil=>intro _ x;rfl
  |cons b q ih=>
   intro h x
   simp only [lp]
   have h0:=h 0
   rw [Bu] at h0
   rw [h0,F.zero_mul,Nat.zero_xor]
   exact ih (fun i=>by have:=h (i+1);rwa [mI] at this) _
 intro p
 induction p with
 |nil=>intro q h x;exact (hz (fun i=>(h i).symm.trans (uZ i)) x).symm
 |cons a p ih=>
  intro q h x
  cases q with
  |nil=>exact hz (fun i=>(h i).trans (uZ i)) x
  |cons b q=>
   have h0:=h 0
   rw [Bu,Bu] at h0
   simp only [lp]
   rw [h0,ih (q:=q) fun i=>by have:=h (i+1);rwa [mI,mI] at this]
theorem ZU:∀(V:List Nat)(x y:Nat→Nat)(i:Nat),F.fD V (fun j=>x j^^^y j) i=F.fD V x i^^^F.fD V y i:=by
 intro V
 induction V with
 |nil=>intro x y i;simp [fD]
 |cons v vs ih=>
  intro x y i
  simp only [fD]
  rw [F.add]
  cases i with
  |zero=>simp
  |succ i=>
   simp only
   rw [show (fun j=>F.sq (x j^^^y j))=fun j=>F.sq (x j)^^^F.sq (y j) from funext fun j=>F.agl _ _,ih]
   ac_rfl
theorem ZV:∀(V:List Nat)(d:Nat)(x:Nat→Nat)(j:Nat),V.length≤d+1→(∀i,j<i→x i=0)→F.fD V x (d+j)=F.mul (cf V d) (F.sqn d (x j)):=by
 intro V
 induction V with
 |nil=>intro d x j _ _;rw [uZ,F.zero_mul];rfl
 |cons v vs ih=>
  intro d x j hl hx
  cases d with
  |zero=>
   have:vs=[]:=by simpa using hl
   subst this
   rw [Nat.zero_add,Bu]
   simp only [fD,sqn]
   cases j with
   |zero=>simp
   |succ j=>simp
  |succ d=>
   rw [show d+1+j=d+j+1 by omega]
   simp only [fD]
   rw [hx _ (by omega),F.mul_zero,Nat.zero_xor,ih d (fun i=>F.sq (x i)) j (by simpa using hl) (fun i hi=>by rw [hx i hi,F.E5]),mI]
   rfl
theorem ZW(V:List Nat):∀(x:Nat→Nat)(j i:Nat),(∀i,j≤i→x i=0)→V.length+j≤i+1→F.fD V x i=0:=by
 induction V with
 |nil=>intro x j i _ _;rfl
 |cons v vs ih=>
  intro x j i hx hi
  simp only [List.length_cons] at hi
  simp only [fD]
  rw [hx i (by omega),F.mul_zero,Nat.zero_xor]
  cases i with
  |zero=>rfl
  |succ i=>exact ih _ j i (fun i hi=>by rw [hx i hi,F.E5]) (by omega)
theorem akH{V x:List Nat}(hV:∀c∈V,c<F.q)(hx:∀c∈x,c<F.q)(hn:V≠[])(hl:cf V (V.length-1)≠0)(h:∀i,V.length-1≤i→F.fD V (cf x) i=0):∀i,cf x i=0:=by
 have hvl:0<V.length:=List.length_pos_iff.2 hn
 have hlt:∀{l:List Nat},(∀c∈l,c<F.q)→∀i,cf l i<F.q:=by
  intro l hl i
  unfold cf
  rw [List.getD_eq_getElem?_getD]
  cases hi:l[i]? with
  |none=>exact F.zlt
  |some c=>exact hl c (List.mem_of_getElem? hi)
 have key:dF x=[]:=by
  apply Classical.byContradiction
  intro hne
  have ht:=tF x hne
  rw [fQ] at ht
  have htop:=F.ZV V (V.length-1) (cf x) ((dF x).length-1) (by omega) (fun i hi=>by rw [←fQ];exact XD (by omega))
  rw [h _ (by omega)] at htop
  rcases F.nz (hlt hV _) (F.KE _ (hlt hx _)) htop.symm with h0|h0
  ·exact hl h0
  ·exact ht (F.ap7 _ (hlt hx _) h0)
 intro i
 rw [←fQ,key,uZ]
end FO
-- shared
abbrev TN6:=TF3×Int×Int×List (List Int)×List (List Int)×Unit
def e0(e:List Int):Int:=e.getD 0 0
def e1(e:List Int):Int:=e.getD 1 0
def edgeOk(N:Int)(es:List (List Int))(i:Nat)(e:List Int):Bool:=
 decide (e.length=2)&&((inR (e0 e) 0 (N-1)&&(inR (e1 e) 0 (N-1)&&decide (e0 e<e1 e)))&&(decide (i=0)||decide (e0 (es.getD (i-1) [])≤e0 e)))
theorem anJ{N:Int}{es:List (List Int)}{i:Nat}{e:List Int}(h:edgeOk N es i e=true):e.length=2:=by
 unfold edgeOk at h
 rw [Bool.and_eq_true] at h
 exact of_decide_eq_true h.1
def ayZ(es:List (List Int))(node:Int):List Int:=atQ (fun i e=>if e1 e=node then some (i:Int) else none) 0 es
def azv(n:TN6)(node:Int):Int:=if node=0 then n.2.2.1 else ((ayZ n.2.2.2.1 node).length:Int)
def Ee(f:TF3):Int:=2 ^ f.1.toNat-1
theorem akg{f:TF3}(h:aG f=true):aF .i64 (yu .i64 1 (aF .u64 f.1)-1)=Ee f:=by
 obtain ⟨h1,h2⟩:=iH h
 obtain ⟨n,hn⟩:=Int.eq_ofNat_of_zero_le (show 0≤f.1 by omega)
 unfold Ee
 rw [hn]
 have:∀n:Nat,n<6→aF .i64 (yu .i64 1 (aF .u64 (n:Int))-1)=2 ^ (n:Int).toNat-1:=by decide
 exact this n (by omega)
theorem auq{f:TF3}(h:aG f=true):aF .i64 (yu .i64 1 f.1-1)=Ee f:=by
 obtain ⟨h1,h2⟩:=iH h
 have:=akg h
 rw [TJ (by omega) (by omega)] at this
 exact this
theorem aqb{f:TF3}(h:aG f=true):1≤Ee f∧Ee f≤31:=by
 obtain ⟨h1,h2⟩:=iH h
 obtain ⟨n,hn⟩:=Int.eq_ofNat_of_zero_le (show 0≤f.1 by omega)
 unfold Ee
 rw [hn]
 have:∀n:Nat,n<6→1≤n→(1:Int)≤2 ^ (n:Int).toNat-1∧(2:Int) ^ (n:Int).toNat-1≤31:=by decide
 exact this n (by omega) (by omega)
def nZ(f:TF3)(c:List Int):Bool:=c.all fun x=>inR x 0 (Ee f)
def aw8(n:TN6)(i:Nat)(c:List Int):Bool:=decide ((c.length:Int)=azv n (e0 (n.2.2.2.1.getD i [])))&&nZ n.1 c
structure axX(n:TN6):Prop where
 field:aG n.1=true
 nodes:2≤n.2.1∧n.2.1≤8
 mess:1≤n.2.2.1∧n.2.2.1≤3
 len:n.2.2.2.1.length≤14
 clen:n.2.2.2.2.1.length=n.2.2.2.1.length
 edges:∀i e,n.2.2.2.1[i]?=some e→edgeOk n.2.1 n.2.2.2.1 i e=true
 coefs:∀i c,n.2.2.2.2.1[i]?=some c→aw8 n i c=true
theorem axX.two{n:TN6}(h:axX n){i:Nat}{e:List Int}(he:n.2.2.2.1[i]?=some e):∃a b,e=[a,b]∧0≤a∧a<b∧b≤n.2.1-1:=by
 have:=h.edges i e he
 obtain ⟨a,b,rfl⟩:=len2 (anJ this)
 simp only [edgeOk,Bool.and_eq_true,iR,decide_eq_true_eq,e0,e1,List.getD_cons_zero,List.getD_cons_succ] at this
 exact ⟨a,b,rfl,by omega,by omega,by omega⟩
theorem tL{α:Type}{l:List α}{i:Nat}{x d:α}(h:l[i]?=some x):l.getD i d=x:=by
 rw [List.getD_eq_getElem?_getD,h];rfl
-- shared
def zR(M k:Nat):List Int:=(List.replicate M 0).set k 1
def okV(f:TF3)(M:Nat)(r:List Int):Prop:=r.length=M∧∀y∈r,inF f y
theorem Mk{f:TF3}(hf:aG f=true)(M k:Nat):okV f M (zR M k):=by
 refine ⟨by simp [zR],fun y hy=>?_⟩
 rcases List.mem_or_eq_of_mem_set hy with h|rfl
 ·rw [(List.mem_replicate.1 h).2];exact gM
 ·exact ajt hf
theorem auE{f:TF3}(M:Nat):okV f M (List.replicate M 0):=⟨by simp,fun y hy=>by rw [(List.mem_replicate.1 hy).2];exact gM⟩
def lJ(f:TF3):List Int→List Int→Int
 |x::u,y::w=>iF .i64 (iL f x y) (lJ f u w)
 |_,_=>0
theorem ED{f:TF3}(hf:aG f=true):∀{u w:List Int},(∀x∈u,inF f x)→(∀x∈w,inF f x)→inF f (lJ f u w):=by
 intro u
 induction u with
 |nil=>intro w _ _;exact gM
 |cons x u ih=>
  intro w hu hw
  cases w with
  |nil=>exact gM
  |cons y w=>exact Jt hf (tZ hf (hu x (List.mem_cons_self ..)) (hw y (List.mem_cons_self ..))) (ih (fun z hz=>hu z (List.mem_cons_of_mem _ hz)) fun z hz=>hw z (List.mem_cons_of_mem _ hz))
theorem Tq{f:TF3}(hf:aG f=true):∀{u w:List Int},(∀x∈u,inF f x)→(∀x∈w,inF f x)→lJ f u w=lJ f w u:=by
 intro u
 induction u with
 |nil=>intro w _ _;cases w<;>rfl
 |cons x u ih=>
  intro w hu hw
  cases w with
  |nil=>rfl
  |cons y w=>
   simp only [lJ]
   rw [iM hf (hu x (List.mem_cons_self ..)) (hw y (List.mem_cons_self ..)),ih (fun z hz=>hu z (List.mem_cons_of_mem _ hz)) fun z hz=>hw z (List.mem_cons_of_mem _ hz)]
theorem azz{f:TF3}(hf:aG f=true){a b c d:Int}(ha:inF f a)(hb:inF f b)(hc:inF f c)(hd:inF f d):iF .i64 (iF .i64 a b) (iF .i64 c d)=iF .i64 (iF .i64 a c) (iF .i64 b d):=by
 rw [xB hf ha hb (Jt hf hc hd),←xB hf hb hc hd,TW hf hb hc,xB hf hc hb hd,←xB hf ha hc (Jt hf hb hd)]
theorem aqB{f:TF3}(hf:aG f=true){c:Int}(hc:inF f c):∀{u v w:List Int},u.length=v.length→(∀x∈u,inF f x)→(∀x∈v,inF f x)→(∀x∈w,inF f x)→lJ f (am3 f u v c) w=iF .i64 (lJ f u w) (iL f c (lJ f v w)):=by
 intro u
 induction u with
 |nil=>
  intro v w hl _ _ _
  cases v with
  |nil=>simp only [am3,List.zip_nil_left,List.map_nil,lJ];rw [qJ hf hc,qQ hf gM]
  |cons y v=>simp at hl
 |cons x u ih=>
  intro v w hl hu hv hw
  cases v with
  |nil=>simp at hl
  |cons y v=>
   cases w with
   |nil=>simp only [lJ,am3,List.zip_cons_cons,List.map_cons];rw [qJ hf hc,qQ hf gM]
   |cons z w=>
    have hx:=hu x (List.mem_cons_self ..)
    have hy:=hv y (List.mem_cons_self ..)
    have hz:=hw z (List.mem_cons_self ..)
    have hu2:∀x∈u,inF f x:=fun z hz=>hu z (List.mem_cons_of_mem _ hz)
    have hv2:∀x∈v,inF f x:=fun z hz=>hv z (List.mem_cons_of_mem _ hz)
    have hw2:∀x∈w,inF f x:=fun z hz=>hw z (List.mem_cons_of_mem _ hz)
    have:=ih (by simpa using hl) hu2 hv2 hw2
    unfold am3 at this
    simp only [am3,List.zip_cons_cons,List.map_cons,lJ]
    rw [this]
    have hd1:=ED hf hu2 hw2
    have hd2:=ED hf hv2 hw2
    have hyc:=tZ hf hy hc
    rw [afv hf hc (tZ hf hy hz) hd2]
    rw [iM hf (Jt hf hx hyc) hz,afv hf hz hx hyc,iM hf hz hx]
    rw [show iL f z (iL f y c)=iL f c (iL f y z) from by
     rw [iM hf hy hc,←WU hf hz hc hy,iM hf hz hc,WU hf hc hz hy,iM hf hz hy]]
    exact azz hf (tZ hf hx hz) (tZ hf hc (tZ hf hy hz)) hd1 (tZ hf hc hd2)
theorem Z5{f:TF3}(hf:aG f=true):∀{w:List Int}(n:Nat),(∀x∈w,inF f x)→lJ f (List.replicate n 0) w=0:=by
 intro w n
 induction n generalizing w with
 |zero=>intro _;rfl
 |succ n ih=>
  intro hw
  cases w with
  |nil=>rfl
  |cons y w=>
   simp only [List.replicate_succ,lJ]
   rw [ih fun z hz=>hw z (List.mem_cons_of_mem _ hz),iM hf gM (hw y (List.mem_cons_self ..)),qJ hf (hw y (List.mem_cons_self ..)),qQ hf gM]
theorem Z4{f:TF3}(hf:aG f=true):∀{w:List Int}(n k:Nat),(∀x∈w,inF f x)→n=w.length→k<n→lJ f (zR n k) w=w.getD k 0:=by
 intro w
 induction w with
 |nil=>intro n k _ h1 h2;simp at h1;omega
 |cons y w ih=>
  intro n k hw h1 h2
  simp only [List.length_cons] at h1
  subst h1
  have hy:=hw y (List.mem_cons_self ..)
  have hw2:∀x∈w,inF f x:=fun z hz=>hw z (List.mem_cons_of_mem _ hz)
  cases k with
  |zero=>
   simp only [zR,List.replicate_succ,List.set_cons_zero,lJ,List.getD_cons_zero]
   rw [Z5 hf _ hw2,iM hf (ajt hf) hy,YL hf hy,Mq hf hy]
  |succ k=>
   have:=ih w.length k hw2 rfl (by omega)
   unfold zR at this
   simp only [zR,List.replicate_succ,List.set_cons_succ,lJ,List.getD_cons_succ]
   rw [this,iM hf gM hy,qJ hf hy]
   refine qQ hf ?_
   rw [List.getD_eq_getElem?_getD,List.getElem?_eq_getElem (by omega)]
   exact hw2 _ (List.getElem_mem _)
-- shared
def cell(L:List (List Int))(j c:Nat):Int:=(L.getD j []).getD c 0
theorem cell_of{L:List (List Int)}{j c:Nat}{r:List Int}{x:Int}(h:L[j]?=some r)(hx:r[c]?=some x):cell L j c=x:=by
 unfold cell;rw [tL h,tL hx]
theorem akE{L:List (List Int)}{j c:Nat}{r:List Int}(h:L[j]?=some r):cell L j c=r.getD c 0:=by
 unfold cell;rw [tL h]
theorem IB{f:TF3}{n:Nat}{L:List (List Int)}(h:GR f n L)(j c:Nat):inF f (cell L j c):=by
 unfold cell
 cases hj:L[j]? with
 |none=>rw [List.getD_eq_getElem?_getD (l:=L),hj];exact gM
 |some r=>
  rw [tL hj,List.getD_eq_getElem?_getD]
  cases hc:r[c]? with
  |none=>exact gM
  |some x=>exact (Iw h hj).2 x (List.mem_of_getElem? hc)
theorem aio{f:TF3}{n:Nat}{L:List (List Int)}(h:GR f n L){j c:Nat}(hc:c<n){r:List Int}(hr:L[j]?=some r):Oa c r = !decide (cell L j c=0):=by
 have hx:=List.getElem?_eq_getElem (show c<r.length by rw [(Iw h hr).1];exact hc)
 rw [cell_of hr hx]
 unfold Oa
 rw [hx]
theorem aly{α:Type}(p:α→Bool):∀(l:List α)(i:Nat){k:Nat},qA p i l=((i+k:Nat):Int)→∀j,j<k→∀x,l[j]?=some x→p x=false:=by
 intro l
 induction l with
 |nil=>intro i k h j hj x hx;simp at hx
 |cons y l ih=>
  intro i k h j hj x hx
  rcases Bool.eq_false_or_eq_true (p y) with hp|hp
  ·simp only [qA,hp,cond_true] at h;omega
  ·simp only [qA,hp,cond_false] at h
   cases j with
   |zero=>simp only [List.getElem?_cons_zero,Option.some.injEq] at hx;subst hx;exact hp
   |succ j=>exact ih (i+1) (k:=k-1) (by rw [h];congr 1;omega) j (by omega) x (by simpa using hx)
theorem UY{f:TF3}(hf:aG f=true){n c:Nat}(hc:c<n){a:Nat}{L:List (List Int)}(h:GR f n L) :
  ((∀j,a≤j→j<L.length→cell L j c=0)∧kH f c (a,L)=(a,L)) ∨
  ∃(k:Nat) (G:List (List Int)),a≤k∧k<L.length∧cell L k c≠0∧(∀j,a≤j→j<k→cell L j c=0)∧kH f c (a,L)=(a+1,G)∧GR f n G∧G.length=L.length ∧
   (∀e,e<n→cell G a e=iL f (cell L k e) (DZ f (cell L k c))) ∧
   ∀j,j<L.length→j≠a→∀e,e<n→cell G j e=iF .i64 (cell L (if j=k then a else j) e) (iL f (cell L (if j=k then a else j) c) (cell G a e)):=by
 have hok:=MG (c:=c) (s:=(a,L)) hf h
 rcases Bl (Oa c) (L.drop a) a with ⟨h1,h2⟩|⟨k,row,h1,h2,h3⟩
 ·left
  refine ⟨fun j hj hl=>?_,?_⟩
  ·have hr:=List.getElem?_eq_getElem hl
   have hm:L[j]∈L.drop a:=by
    refine List.mem_of_getElem? (i:=j-a) ?_
    rw [List.getElem?_drop,show a+(j-a)=j by omega]
    exact hr
   have:=h2 _ hm
   rw [aio h hc hr] at this
   simpa using this
  ·unfold kH
   dsimp only
   rw [h1]
   rfl
 ·right
  have hak:L[a+k]?=some row:=by rw [←h1,List.getElem?_drop]
  have hlt:=(List.getElem?_eq_some_iff.1 hak).1
  obtain ⟨r0,hr0⟩:∃r0,L[a]?=some r0:=⟨_,List.getElem?_eq_getElem (by omega)⟩
  obtain ⟨x,hx,hx0⟩:=apV h2
  have hxf:=(Iw h hak).2 x (List.mem_of_getElem? hx)
  have hrl:=(Iw h hak).1
  have hst:kH f c (a,L)=(a+1,Fw f c a (Uv f c (a+k) a L)):=by
   unfold kH
   dsimp only
   rw [h3,decide_eq_false (by omega),cond_false,Int.toNat_natCast]
  have hp:Uv f c (a+k) a L=(L.set (a+k) r0).set a (row.map fun y=>iL f y (DZ f x)):=by
   unfold Uv aby
   rw [hak,hr0]
   simp only [hx]
  have hpg:=ajK (c:=c) (k:=a+k) (a:=a) hf h
  have hpa:(Uv f c (a+k) a L)[a]?=some (row.map fun y=>iL f y (DZ f x)):=by rw [hp];exact List.getElem?_set_self (by simp;omega)
  have hcl:Fw f c a (Uv f c (a+k) a L)=(Uv f c (a+k) a L).mapIdx (wH f c a (row.map fun y=>iL f y (DZ f x))):=by
   unfold Fw;rw [hpa]
  have hcg:=ahM (c:=c) (a:=a) hf hpg.1
  have hkc:cell L (a+k) c=x:=cell_of hak hx
  have hone:iL f x (DZ f x)=1:=(wT hf hxf).2 hx0
  have hownc:(row.map fun y=>iL f y (DZ f x))[c]?=some 1:=by rw [List.getElem?_map,hx,Option.map_some,hone]
  have hga:(Fw f c a (Uv f c (a+k) a L))[a]?=some (row.map fun y=>iL f y (DZ f x)):=by
   rw [hcl,List.getElem?_mapIdx,hpa,Option.map_some]
   unfold wH
   rw [hownc]
   simp
  refine ⟨a+k,Fw f c a (Uv f c (a+k) a L),by omega,hlt,by rw [hkc];exact hx0,fun j h4 h5=>?_,hst,hcg.1,by rw [hcg.2,hpg.2],fun e he=>?_,fun j hj hja e he=>?_⟩
  ·-- those before the pivot
   have hr:=List.getElem?_eq_getElem (show j<L.length by omega)
   have hb:=aly (Oa c) (L.drop a) a h3 (j-a) (by omega) L[j] (by rw [List.getElem?_drop,show a+(j-a)=j by omega];exact hr)
   rw [aio h hc hr] at hb
   simpa using hb
  ·have hy:=List.getElem?_eq_getElem (show e<row.length by omega)
   rw [cell_of hak hy,hkc]
   exact cell_of hga (by rw [List.getElem?_map,hy];rfl)
  ·have hj0:(Uv f c (a+k) a L)[j]?=L[if j=a+k then a else j]?:=by
    rw [hp,List.getElem?_set_ne (Ne.symm hja),List.getElem?_set]
    by_cases hjk:j=a+k
    ·rw [if_pos hjk.symm,if_pos hlt,if_pos hjk,hr0]
    ·rw [if_neg (Ne.symm hjk),if_neg hjk]
   obtain ⟨r,hr⟩:∃r,L[if j=a+k then a else j]?=some r:=⟨_,List.getElem?_eq_getElem (by split<;>omega)⟩
   rw [hr] at hj0
   obtain ⟨hrl2,hrf2⟩:=Iw h hr
   have hz:=List.getElem?_eq_getElem (show c<r.length by omega)
   have hy:=List.getElem?_eq_getElem (show e<r.length by omega)
   have hye:=List.getElem?_eq_getElem (show e<(row.map fun y=>iL f y (DZ f x)).length by simp;omega)
   have hyf:=hrf2 _ (List.mem_of_getElem? hy)
   have hown:=(Iw hpg.1 hpa).2
   rw [cell_of hr hy,cell_of hr hz,cell_of hga hye]
   have hgj:(Fw f c a (Uv f c (a+k) a L))[j]?=some (wH f c a (row.map fun y=>iL f y (DZ f x)) j r):=by
    rw [hcl,List.getElem?_mapIdx,hj0,Option.map_some]
   have hwe:=hown _ (List.mem_of_getElem? hye)
   unfold wH at hgj
   rw [hz] at hgj
   dsimp only at hgj
   rw [decide_eq_false hja,Bool.false_or] at hgj
   by_cases h0:r[c]=0
   ·rw [decide_eq_true h0,cond_true] at hgj
    rw [cell_of hgj hy,h0,iM hf gM hwe,qJ hf hwe,Mq hf hyf]
   ·rw [decide_eq_false h0,cond_false] at hgj
    refine cell_of hgj ?_
    rw [List.getElem?_map]
    rw [show (r.zip (row.map fun y=>iL f y (DZ f x)))[e]?=some (r[e],(row.map fun y=>iL f y (DZ f x))[e]'(by simp;omega)) from List.getElem?_zip_eq_some.2 ⟨hy,hye⟩]
    rfl
-- shared
structure yw(f:TF3)(n c a:Nat)(L:List (List Int))(p:List Nat):Prop where
 gr:GR f n L
 ac:a≤c
 al:a≤L.length
 pl:p.length=a
 plt:∀q∈p,q<c
 pinc:p.Pairwise (· < ·)
 low:∀j,a≤j→j<L.length→∀e,e<c→cell L j e=0
 dia:∀i q,p[i]?=some q→∀j,j<L.length→cell L j q=if j=i then 1 else 0
 lead:∀i q,p[i]?=some q→∀e,e<q→cell L i e=0
 full:a=c→p=List.range c
theorem yw.start{f:TF3}{n:Nat}{L:List (List Int)}(h:GR f n L):yw f n 0 0 L []:=
 ⟨h,Nat.le_refl _,Nat.zero_le _,rfl,fun _ h=>absurd h List.not_mem_nil,List.Pairwise.nil,fun _ _ _ _ h=>absurd h (Nat.not_lt_zero _),fun i q h=>absurd h (by simp),fun i q h=>absurd h (by simp),fun _=>rfl⟩
theorem yw.step{f:TF3}(hf:aG f=true){n c a:Nat}{L:List (List Int)}{p:List Nat}(h:yw f n c a L p)(hc hn:c<n):∃p',yw f n (c+1) (kH f c (a,L)).1 (kH f c (a,L)).2 p'∧(kH f c (a,L)).2.length=L.length:=by
 rcases UY hf hc (a:=a) h.gr with ⟨h1,h2⟩|⟨k,G,hak,hk,hx,_,h2,hg,hgl,hga,hgj⟩
 ·rw [h2]
  refine ⟨p,⟨h.gr,by have:=h.ac;omega,h.al,h.pl,fun q hq=>by have:=h.plt q hq;omega,h.pinc,fun j hj hl e he=>?_,h.dia,h.lead,fun hh=>by have:=h.ac;dsimp only at hh;omega⟩,rfl⟩
  by_cases hec:e=c
  ·subst hec;exact h1 j hj hl
  ·exact h.low j hj hl e (by omega)
 ·rw [h2]
  have hin:=IB h.gr
  have hgin:=IB hg
  have hxi:=wT hf (hin k c)
  have g1:cell G a c=1:=by rw [hga c hc];exact hxi.2 hx
  have g0:∀e,e<c→cell G a e=0:=by
   intro e he
   rw [hga e (by omega),h.low k hak hk e he,iM hf gM hxi.1,qJ hf hxi.1]
  have gj0:∀j,j<L.length→j≠a→∀e,e<c→cell G j e=cell L (if j=k then a else j) e:=by
   intro j hj hja e he
   rw [hgj j hj hja e (by omega),g0 e he,qJ hf (hin _ _),Mq hf (hin _ _)]
  have gjc:∀j,j<L.length→j≠a→cell G j c=0:=by
   intro j hj hja
   rw [hgj j hj hja c hc,g1,YL hf (hin _ _),Ml hf (hin _ _)]
  have hpa:∀i q,(p++[c])[i]?=some q→(p[i]?=some q∧i<a)∨(i=a∧q=c):=by
   intro i q hi
   rw [List.getElem?_append,h.pl] at hi
   by_cases hia:i<a
   ·rw [if_pos hia] at hi;exact .inl ⟨hi,hia⟩
   ·rw [if_neg hia] at hi
    have:=(List.getElem?_eq_some_iff.1 hi).1
    simp only [List.length_cons,List.length_nil] at this
    have hia2:i=a:=by omega
    subst hia2
    rw [Nat.sub_self] at hi
    exact .inr ⟨rfl,(Option.some.inj hi).symm⟩
  refine ⟨p++[c],⟨hg,by have:=h.ac;dsimp only;omega,by dsimp only;rw [hgl];omega,by simp [h.pl],fun q hq=>?_,?_,fun j hj hl e he=>?_,fun i q hi j hj=>?_,fun i q hi e he=>?_,fun hh=>?_⟩,hgl⟩
  ·rcases List.mem_append.1 hq with hq|hq
   ·have:=h.plt q hq;omega
   ·simp only [List.mem_singleton] at hq;omega
  ·refine List.pairwise_append.2 ⟨h.pinc,List.pairwise_singleton _ _,fun z hz y hy=>?_⟩
   rw [List.mem_singleton.1 hy];exact h.plt z hz
  ·rw [hgl] at hl
   dsimp only at hj
   by_cases hec:e=c
   ·subst hec;exact gjc j hl (by omega)
   ·rw [gj0 j hl (by omega) e (by omega)]
    exact h.low _ (by split<;>omega) (by split<;>omega) e (by omega)
  ·rw [hgl] at hj
   rcases hpa i q hi with ⟨hi,hia⟩|⟨rfl,rfl⟩
   ·have hqc:=h.plt q (List.mem_of_getElem? hi)
    by_cases hja:j=a
    ·subst hja;rw [g0 q hqc,if_neg (by omega)]
    ·rw [gj0 j hj hja q hqc,h.dia i q hi _ (by split<;>omega)]
     by_cases hjk:j=k
     ·rw [if_pos hjk,if_neg (by omega),if_neg (by omega)]
     ·rw [if_neg hjk]
   ·by_cases hja:j=i
    ·subst hja;rw [g1,if_pos rfl]
    ·rw [gjc j hj hja,if_neg hja]
  ·rcases hpa i q hi with ⟨hi,hia⟩|⟨rfl,rfl⟩
   ·have hqc:=h.plt q (List.mem_of_getElem? hi)
    rw [gj0 i (by have:=h.al;omega) (by omega) e (by omega),if_neg (by omega)]
    exact h.lead i q hi e he
   ·exact g0 e he
  ·dsimp only at hh
   rw [h.full (by omega),←List.range_succ]
theorem yw.from{f:TF3}(hf:aG f=true){n:Nat}:∀(m c a:Nat)(L:List (List Int))(p:List Nat),c+m≤n→yw f n c a L p→∃p',yw f n (c+m) (jQ f c m (a,L)).1 (jQ f c m (a,L)).2 p'∧(jQ f c m (a,L)).2.length=L.length:=by
 intro m
 induction m with
 |zero=>intro c a L p _ h;exact ⟨p,h,rfl⟩
 |succ m ih=>
  intro c a L p hc h
  obtain ⟨p1,h1,hl1⟩:=h.step hf (by omega) (by omega)
  obtain ⟨p2,h2,hl2⟩:=ih (c+1) _ _ p1 (by omega) h1
  rw [show c+1+m=c+(m+1) by omega] at h2
  exact ⟨p2,h2,by rw [←hl1];exact hl2⟩
theorem yw.all{f:TF3}(hf:aG f=true){n m:Nat}{L:List (List Int)}(hm:m≤n)(h:GR f n L):∃p,yw f n m (jQ f 0 m (0,L)).1 (jQ f 0 m (0,L)).2 p∧(jQ f 0 m (0,L)).2.length=L.length:=by
 have:=yw.from hf m 0 0 L [] (by omega) (yw.start h)
 rw [Nat.zero_add] at this
 exact this
section
variable {f : TF3} (hf : aG f = true) {n c : Nat} (hc : c < n) {x : List Int} (hx : ∀ y ∈ x, inF f y)
include hc
include hf hx
end
theorem arf{l:List Int}(h:∀e,e<l.length→l.getD e 0=0):l=List.replicate l.length 0:=by
 apply List.ext_getElem?
 intro e
 rw [List.getElem?_replicate]
 by_cases he:e<l.length
 ·rw [if_pos he]
  have:=h e he
  rw [List.getD_eq_getElem?_getD,List.getElem?_eq_getElem he] at this
  rw [List.getElem?_eq_getElem he]
  exact congrArg some this
 ·rw [if_neg he,List.getElem?_eq_none (by omega)]
-- shared
theorem adO{f:TF3}(hf:aG f=true){b:Int}(hb:inF f b):iL f 0 b=0:=by rw [iM hf gM hb,qJ hf hb]
theorem aos{f:TF3}(hf:aG f=true){a b:Int}(ha:inF f a)(hb:inF f b)(h0:a≠0)(h:iL f b (DZ f a)=0):b=0:=by
 obtain ⟨h1,h2⟩:=wT hf ha
 rw [←YL hf hb,←h2 h0,iM hf ha h1,←WU hf hb h1 ha,h,adO hf ha]
theorem am4{f:TF3}{n:Nat}{u v w:List Int}{c:Int}(hu:okV f n u)(hv:okV f n v)(hw:okV f n w)(hf:aG f=true)(hc:inF f c)(h:∀e,e<n→w.getD e 0=iF .i64 (u.getD e 0) (iL f c (v.getD e 0))):w=am3 f u v c:=by
 apply List.ext_getElem?
 intro e
 unfold am3
 rw [List.getElem?_map]
 by_cases he:e<n
 ·have h1:=List.getElem?_eq_getElem (show e<w.length by rw [hw.1];exact he)
  have h2:=List.getElem?_eq_getElem (show e<u.length by rw [hu.1];exact he)
  have h3:=List.getElem?_eq_getElem (show e<v.length by rw [hv.1];exact he)
  have:=h e he
  rw [tL h1,tL h2,tL h3] at this
  rw [h1,(List.getElem?_zip_eq_some (z:=(u[e]'(by rw [hu.1];exact he),v[e]'(by rw [hv.1];exact he)))).2 ⟨h2,h3⟩,this,iM hf hc (hv.2 _ (List.mem_of_getElem? h3))]
  rfl
 ·rw [List.getElem?_eq_none (by rw [hw.1];omega),List.getElem?_eq_none (l:=u.zip v) (by rw [List.length_zip,hu.1];omega)]
  rfl
theorem aen{f:TF3}{n:Nat}{u v w x:List Int}{c:Int}(hf:aG f=true)(hu:okV f n u)(hv:okV f n v)(hw:okV f n w)(hc:inF f c)(hx:∀y∈x,inF f y)(h:∀e,e<n→w.getD e 0=iF .i64 (u.getD e 0) (iL f c (v.getD e 0))):lJ f w x=iF .i64 (lJ f u x) (iL f c (lJ f v x)):=by
 rw [am4 hu hv hw hf hc h,aqB hf hc (hu.1.trans hv.1.symm) hu.2 hv.2 hx]
theorem akX{f:TF3}(hf:aG f=true){n c:Nat}(hc:c<n){a:Nat}{L:List (List Int)}(h:GR f n L)(ha:a≤L.length){x:List Int}(hx:∀y∈x,inF f y) :
  (∀r∈(kH f c (a,L)).2,lJ f r x=0) ↔ ∀r∈L,lJ f r x=0:=by
 rcases UY hf hc (a:=a) h with ⟨_,h2⟩|⟨k,G,hak,hk,hnz,_,h2,hg,hgl,hga,hgj⟩
 ·rw [h2]
 rw [h2]
 dsimp only
 have hrow:∀{M:List (List Int)},GR f n M→∀{j:Nat},j<M.length→okV f n (M.getD j [])∧M.getD j []∈M:=by
  intro M hM j hj
  have:=List.getElem?_eq_getElem hj
  rw [tL this]
  exact ⟨Iw hM this,List.mem_of_getElem? this⟩
 have hal:a<G.length:=by omega
 have hkc:=IB h k c
 obtain ⟨hi1,hi2⟩:=wT hf hkc
 have hGa:lJ f (G.getD a []) x=iL f (lJ f (L.getD k []) x) (DZ f (cell L k c)):=by
  have h0:=aen (u:=List.replicate n 0) hf (auE n) (hrow h hk).1 (hrow hg hal).1 hi1 hx (fun e he=>by
   have:(G.getD a []).getD e 0=iL f (cell L k e) (DZ f (cell L k c)):=hga e he
   rw [this,iM hf (IB h k e) hi1]
   rw [List.getD_eq_getElem?_getD (l:=List.replicate n (0:Int)),List.getElem?_replicate,if_pos he]
   simp only [Option.getD_some]
   exact (qQ hf (tZ hf hi1 (IB h k e))).symm)
  rw [h0,Z5 hf n hx,qQ hf (tZ hf hi1 (ED hf (hrow h hk).1.2 hx)),iM hf hi1 (ED hf (hrow h hk).1.2 hx)]
 have hGj:∀j,j<L.length→j≠a→lJ f (G.getD j []) x=iF .i64 (lJ f (L.getD (if j=k then a else j) []) x) (iL f (cell L (if j=k then a else j) c) (lJ f (G.getD a []) x)):=by
  intro j hj hja
  have hj':(if j=k then a else j)<L.length:=by split<;>omega
  exact aen hf (hrow h hj').1 (hrow hg hal).1 (hrow hg (by omega)).1 (IB h _ c) hx fun e he=>hgj j hj hja e he
 constructor
 ·intro hk0 r hr
  have h1:lJ f (G.getD a []) x=0:=hk0 _ (hrow hg hal).2
  have h2:lJ f (L.getD k []) x=0:=aos hf hkc (ED hf (hrow h hk).1.2 hx) hnz (hGa ▸ h1)
  obtain ⟨i,hi⟩:=List.getElem?_of_mem hr
  have hil:=(List.getElem?_eq_some_iff.1 hi).1
  rw [←tL (d:=[]) hi]
  by_cases hik:i=k
  ·subst hik;exact h2
  ·obtain ⟨j,hj,hja,hji⟩:∃j,j<L.length∧j≠a∧(if j=k then a else j)=i:=by
    by_cases hia:i=a
    ·exact ⟨k,hk,by omega,by rw [if_pos rfl,hia]⟩
    ·exact ⟨i,hil,hia,by rw [if_neg hik]⟩
   have h3:=hGj j hj hja
   rw [hji,h1,qJ hf (IB h _ c),hk0 _ (hrow hg (by omega)).2] at h3
   rw [Mq hf (ED hf (hrow h hil).1.2 hx)] at h3
   exact h3.symm
 ·intro hL r hr
  have h1:lJ f (G.getD a []) x=0:=by rw [hGa,hL _ (hrow h hk).2,adO hf hi1]
  obtain ⟨i,hi⟩:=List.getElem?_of_mem hr
  have hil:=(List.getElem?_eq_some_iff.1 hi).1
  rw [←tL (d:=[]) hi]
  by_cases hia:i=a
  ·subst hia;exact h1
  ·have hj':(if i=k then a else i)<L.length:=by split<;>omega
   rw [hGj i (by omega) hia,h1,qJ hf (IB h _ c),hL _ (hrow h hj').2,Ml hf gM]
theorem akV{f:TF3}(hf:aG f=true){n:Nat}{x:List Int}(hx:∀y∈x,inF f y):∀(m c a:Nat)(L:List (List Int)),c+m≤n→GR f n L→a≤L.length →
  ((∀r∈(jQ f c m (a,L)).2,lJ f r x=0) ↔ ∀r∈L,lJ f r x=0):=by
 intro m
 induction m with
 |zero=>intro c a L _ _ _;exact Iff.rfl
 |succ m ih=>
  intro c a L hc h ha
  have h1:=MG (c:=c) (s:=(a,L)) hf h ha
  unfold jQ
  rw [show kH f c (a,L)=((kH f c (a,L)).1,(kH f c (a,L)).2) from rfl,ih (c+1) _ _ (by omega) h1.1 (by rw [h1.2.1];exact h1.2.2)]
  exact akX hf (by omega) h ha hx
theorem XF{f:TF3}(hf:aG f=true){n:Nat}{L:List (List Int)}(h:GR f n L){x:List Int}(hx:∀y∈x,inF f y):(∀r∈JW f n L,lJ f r x=0) ↔ ∀r∈L,lJ f r x=0:=by
 rw [←akV hf hx n 0 0 L (by omega) h (Nat.zero_le _)]
 obtain ⟨p,hI,hl⟩:=yw.all hf (Nat.le_refl n) h
 unfold JW
 generalize hs:jQ f 0 n (0,L)=s at hI hl
 obtain ⟨a,G⟩:=s
 dsimp only at hI hl ⊢
 constructor
 ·intro h0 r hr
  obtain ⟨i,hi⟩:=List.getElem?_of_mem hr
  have hil:=(List.getElem?_eq_some_iff.1 hi).1
  by_cases hia:i<a
  ·exact h0 r (List.mem_of_getElem? (i:=i) (by rw [List.getElem?_take_of_lt hia];exact hi))
  ·have hz:r=List.replicate n 0:=by
    have hrl:=(Iw hI.gr hi).1
    have:=arf (l:=r) fun e he=>by
     have:=hI.low i (by omega) hil e (by omega)
     rwa [akE hi] at this
    rwa [hrl] at this
   rw [hz,Z5 hf n hx]
 ·intro h0 r hr
  exact h0 r (List.mem_of_mem_take hr)
theorem akS{f:TF3}(hf:aG f=true):∀{r x:List Int}{q:Nat}{v:Int},(∀y∈r,inF f y)→(∀y∈x,inF f y)→inF f v→r.length=x.length→lJ f r (x.set q v)=iF .i64 (lJ f r x) (iL f (r.getD q 0) (iF .i64 (x.getD q 0) v)):=by
 intro r
 induction r with
 |nil=>
  intro x q v _ hx hv hl
  have:x=[]:=List.length_eq_zero_iff.1 hl.symm
  subst this
  simp only [lJ,List.getD_nil]
  rw [qQ hf hv,adO hf hv,Ml hf gM]
 |cons a r ih=>
  intro x q v hr hx hv hl
  cases x with
  |nil=>simp at hl
  |cons b x=>
   have ha:=hr a (List.mem_cons_self ..)
   have hb:=hx b (List.mem_cons_self ..)
   have hr':∀y∈r,inF f y:=fun y hy=>hr y (List.mem_cons_of_mem _ hy)
   have hx':∀y∈x,inF f y:=fun y hy=>hx y (List.mem_cons_of_mem _ hy)
   cases q with
   |zero=>
    simp only [List.set_cons_zero,lJ,List.getD_cons_zero]
    have h1:=tZ hf ha hb
    have h2:=tZ hf ha hv
    have h3:=ED hf hr' hx'
    rw [afv hf ha hb hv,TW hf h1 h3,xB hf h3 h1 (Jt hf h1 h2),←xB hf h1 h1 h2,Ml hf h1,qQ hf h2,TW hf h2 h3]
   |succ q=>
    simp only [List.set_cons_succ,lJ,List.getD_cons_succ]
    have h3:=ED hf hr' hx'
    have hq:∀{l:List Int},(∀y∈l,inF f y)→inF f (l.getD q 0):=fun {l} hl=>by
     rw [List.getD_eq_getElem?_getD]
     cases hc:l[q]? with
     |none=>exact gM
     |some y=>exact hl y (List.mem_of_getElem? hc)
    have h4:=tZ hf (hq hr') (Jt hf (hq hx') hv)
    rw [ih hr' hx' hv (by simpa using hl),xB hf (tZ hf ha hb) h3 h4]
def kT(c:Nat):List Int→List (Nat×List Int)→List Int
 |out,[]=>out
 |out,(q,row)::l=>kT c (out.set q (row.getD c 0)) l
theorem N9{f:TF3}{n c:Nat}:∀(l:List (Nat×List Int)){out:List Int},okV f n out→(∀p∈l,okV f n p.2)→okV f n (kT c out l):=by
 intro l
 induction l with
 |nil=>intro out h _;exact h
 |cons p l ih=>
  intro out h hp
  obtain ⟨q,row⟩:=p
  refine ih ⟨by rw [List.length_set];exact h.1,fun y hy=>?_⟩ fun p hp'=>hp p (List.mem_cons_of_mem _ hp')
  rcases List.mem_or_eq_of_mem_set hy with hy|rfl
  ·exact h.2 y hy
  ·have hrow:=hp _ (List.mem_cons_self ..)
   rw [List.getD_eq_getElem?_getD]
   cases hc:row[c]? with
   |none=>exact gM
   |some z=>exact hrow.2 z (List.mem_of_getElem? hc)
theorem YR{c:Nat}:∀(l:List (Nat×List Int)){out:List Int}{e:Nat},(∀p∈l,p.1≠e)→(kT c out l).getD e 0=out.getD e 0:=by
 intro l
 induction l with
 |nil=>intro out e _;rfl
 |cons p l ih=>
  intro out e h
  obtain ⟨q,row⟩:=p
  unfold kT
  rw [ih fun p hp=>h p (List.mem_cons_of_mem _ hp),List.getD_eq_getElem?_getD,List.getElem?_set_ne (h _ (List.mem_cons_self ..)),←List.getD_eq_getElem?_getD]
theorem YQ{f:TF3}(hf:aG f=true){n c:Nat}{r:List Int}(hr:okV f n r):∀(l:List (Nat×List Int)){out:List Int},okV f n out→(∀p∈l,okV f n p.2∧r.getD p.1 0=0)→lJ f r (kT c out l)=lJ f r out:=by
 intro l
 induction l with
 |nil=>intro out _ _;rfl
 |cons p l ih=>
  intro out h hp
  obtain ⟨q,row⟩:=p
  have h1:=hp _ (List.mem_cons_self ..)
  have ho:=N9 (c:=c) [(q,row)] h fun p hp=>by rw [List.mem_singleton.1 hp];exact h1.1
  show lJ f r (kT c (out.set q (row.getD c 0)) l)=_
  have ho:okV f n (out.set q (row.getD c 0)):=ho
  rw [ih ho fun p hp'=>hp p (List.mem_cons_of_mem _ hp')]
  have hrow:inF f (row.getD c 0):=by
   rw [List.getD_eq_getElem?_getD]
   cases hc:row[c]? with
   |none=>exact gM
   |some z=>exact h1.1.2 z (List.mem_of_getElem? hc)
  have hoq:inF f (out.getD q 0):=by
   rw [List.getD_eq_getElem?_getD]
   cases hc:out[q]? with
   |none=>exact gM
   |some z=>exact h.2 z (List.mem_of_getElem? hc)
  rw [akS hf hr.2 h.2 hrow (hr.1.trans h.1.symm),h1.2,adO hf (Jt hf hoq hrow),Mq hf (ED hf hr.2 h.2)]
-- shared
theorem ab7(c:Nat):∀(l1 l2:List (Nat×List Int))(out:List Int),kT c out (l1++l2)=kT c (kT c out l1) l2:=by
 intro l1
 induction l1 with
 |nil=>intro l2 out;rfl
 |cons p l1 ih=>intro l2 out;obtain ⟨q,row⟩:=p;exact ih l2 _
theorem getD_in{f:TF3}{l:List Int}(h:∀y∈l,inF f y)(i:Nat):inF f (l.getD i 0):=by
 rw [List.getD_eq_getElem?_getD]
 cases hc:l[i]? with
 |none=>exact gM
 |some y=>exact h y (List.mem_of_getElem? hc)
theorem agt(n c e:Nat):(zR n c).getD e 0=if c=e∧e<n then 1 else 0:=by
 unfold zR
 rw [List.getD_eq_getElem?_getD,List.getElem?_set,List.length_replicate]
 split
 ·rename_i h;subst h
  split
  ·rename_i h;rw [if_pos ⟨rfl,h⟩];rfl
  ·rename_i h;rw [if_neg fun hh=>h hh.2];rfl
 ·rename_i h
  rw [if_neg fun hh=>h hh.1,List.getElem?_replicate]
  split<;>rfl
def YS(n c:Nat)(p:List Nat)(E:List (List Int)):List Int:=kT c (zR n c) (p.zip E)
section
variable {f : TF3} {n a : Nat} {G : List (List Int)} {p : List Nat}
theorem yw.row(h:yw f n n a G p){i:Nat}(hi:i<a):∃r,(G.take a)[i]?=some r∧okV f n r∧(∀e,r.getD e 0=cell G i e):=by
 have:=h.al
 have hr:=List.getElem?_eq_getElem (show i<G.length by omega)
 exact ⟨G[i],by rw [List.getElem?_take_of_lt hi];exact hr,Iw h.gr hr,fun e=>(akE hr).symm⟩
theorem yw.piv(h:yw f n n a G p){i:Nat}(hi:i<a):∃q,p[i]?=some q∧q<n:=by
 have hl:=h.pl
 have hq:=List.getElem?_eq_getElem (show i<p.length by omega)
 exact ⟨_,hq,h.plt _ (List.mem_of_getElem? hq)⟩
theorem yw.pne(h:yw f n n a G p){i j q q':Nat}(hi:p[i]?=some q)(hj:p[j]?=some q')(hij:i≠j):q≠q':=by
 obtain ⟨h1,rfl⟩:=List.getElem?_eq_some_iff.1 hi
 obtain ⟨h2,rfl⟩:=List.getElem?_eq_some_iff.1 hj
 rcases Nat.lt_or_gt_of_ne hij with hlt|hlt
 ·have:=List.pairwise_iff_getElem.1 h.pinc i j h1 h2 hlt;omega
 ·have:=List.pairwise_iff_getElem.1 h.pinc j i h2 h1 hlt;omega
theorem amc(hf:aG f=true)(h:yw f n n a G p)(c:Nat):okV f n (YS n c p (G.take a)):=by
 refine N9 _ (Mk hf n c) fun x hx=>?_
 have:=List.of_mem_zip (a:=x.1) (b:=x.2) hx
 exact h.gr _ (List.mem_of_mem_take this.2)
theorem atK(_:yw f n n a G p){c:Nat}(hc:c<n)(hp:c ∉ p):(YS n c p (G.take a)).getD c 0=1:=by
 unfold YS
 rw [YR _ fun x hx he=>hp (by have:=List.of_mem_zip (a:=x.1) (b:=x.2) hx;rw [←he];exact this.1),agt,if_pos ⟨rfl,hc⟩]
theorem ars(hf:aG f=true)(h:yw f n n a G p){c:Nat}(hc:c<n)(hp:c ∉ p):∀r∈G.take a,lJ f r (YS n c p (G.take a))=0:=by
 intro r hr
 have hal:=h.al
 have hpl:=h.pl
 obtain ⟨i,hi⟩:=List.getElem?_of_mem hr
 have hia:i<a:=by have:=(List.getElem?_eq_some_iff.1 hi).1;rw [List.length_take] at this;omega
 obtain ⟨r',hr',hrok,hcell⟩:=h.row hia
 rw [hi] at hr'
 obtain rfl:=Option.some.inj hr'
 obtain ⟨q,hq,hqn⟩:=h.piv hia
 have hz:(p.zip (G.take a))[i]?=some (q,r):=List.getElem?_zip_eq_some.2 ⟨hq,hi⟩
 obtain ⟨hzl,hzi⟩:=List.getElem?_eq_some_iff.1 hz
 have hsp:p.zip (G.take a)=(p.zip (G.take a)).take i++(q,r)::(p.zip (G.take a)).drop (i+1):=by
  rw [←hzi,←List.drop_eq_getElem_cons hzl,List.take_append_drop]
 have hel:∀{j:Nat}{x:Nat×List Int},(p.zip (G.take a))[j]?=some x→j≠i→okV f n x.2∧r.getD x.1 0=0∧x.1≠q:=by
  intro j x hx hj
  obtain ⟨x1,x2⟩:=x
  obtain ⟨h1,h2⟩:=List.getElem?_zip_eq_some.1 hx
  have hja:j<a:=by have:=(List.getElem?_eq_some_iff.1 h1).1;omega
  refine ⟨h.gr _ (List.mem_of_mem_take (List.mem_of_getElem? h2)),?_,h.pne h1 hq hj⟩
  rw [hcell,h.dia j x1 h1 i (by omega),if_neg fun hh=>hj hh.symm]
 have h1:∀x∈(p.zip (G.take a)).take i,okV f n x.2∧r.getD x.1 0=0∧x.1≠q:=by
  intro x hx
  obtain ⟨j,hj⟩:=List.getElem?_of_mem hx
  have hjl:=(List.getElem?_eq_some_iff.1 hj).1
  rw [List.length_take] at hjl
  rw [List.getElem?_take_of_lt (by omega)] at hj
  exact hel hj (by omega)
 have h2:∀x∈(p.zip (G.take a)).drop (i+1),okV f n x.2∧r.getD x.1 0=0∧x.1≠q:=by
  intro x hx
  obtain ⟨j,hj⟩:=List.getElem?_of_mem hx
  rw [List.getElem?_drop] at hj
  exact hel hj (by omega)
 have hu:=Mk hf n c
 have hcq:c≠q:=fun hh=>hp (hh ▸ List.mem_of_getElem? hq)
 unfold YS
 rw [hsp,ab7]
 show lJ f r (kT c ((kT c (zR n c) ((p.zip (G.take a)).take i)).set q (r.getD c 0)) _)=0
 have ho1:=N9 (c:=c) _ hu fun x hx=>(h1 x hx).1
 have ho2:okV f n ((kT c (zR n c) ((p.zip (G.take a)).take i)).set q (r.getD c 0)):=by
  refine ⟨by rw [List.length_set];exact ho1.1,fun y hy=>?_⟩
  rcases List.mem_or_eq_of_mem_set hy with hy|rfl
  ·exact ho1.2 y hy
  ·exact getD_in hrok.2 c
 have hrq:r.getD q 0=1:=by rw [hcell,h.dia i q hq i (by omega),if_pos rfl]
 have hoq:(kT c (zR n c) ((p.zip (G.take a)).take i)).getD q 0=0:=by
  rw [YR _ fun x hx=>(h1 x hx).2.2,agt,if_neg fun hh=>hcq hh.1]
 rw [YQ hf hrok _ ho2 fun x hx=>⟨(h2 x hx).1,(h2 x hx).2.1⟩,akS hf hrok.2 ho1.2 (getD_in hrok.2 c) (hrok.1.trans ho1.1.symm),YQ hf hrok _ hu fun x hx=>⟨(h1 x hx).1,(h1 x hx).2.1⟩,hrq,hoq,
  qQ hf (getD_in hrok.2 c),iM hf (ajt hf) (getD_in hrok.2 c),YL hf (getD_in hrok.2 c),Tq hf hrok.2 hu.2,Z4 hf n c hrok.2 hrok.1.symm hc,Ml hf (getD_in hrok.2 c)]
theorem yw.aps(h:yw f n n a G p){i:Nat}(hi:i<a){r:List Int}(hr:(G.take a)[i]?=some r){q:Nat}(hq:p[i]?=some q):r[q]?=some 1∧∀e,e<q→r[e]?=some 0:=by
 obtain ⟨r',hr',hrok,hcell⟩:=h.row hi
 rw [hr] at hr'
 obtain rfl:=Option.some.inj hr'
 have hqn:=h.plt q (List.mem_of_getElem? hq)
 have hal:=h.al
 have hget:∀e,e<n→r[e]?=some (r.getD e 0):=fun e he=>by
  have:=List.getElem?_eq_getElem (show e<r.length by rw [hrok.1];exact he)
  rw [tL this];exact this
 exact ⟨by rw [hget q hqn,hcell,h.dia i q hq i (by omega),if_pos rfl],fun e he=>by rw [hget e (by omega),hcell,h.lead i q hq e he]⟩
end
def aiG(f:TF3)(n:Nat)(L:List (List Int))(x:List Int):Prop:=okV f n x∧(∃q,x.getD q 0≠0)∧∀r∈L,lJ f r x=0
theorem aiG.axE{f:TF3}(hf:aG f=true){n:Nat}{L:List (List Int)}(h:GR f n L){x:List Int}(hx:aiG f n (JW f n L) x):aiG f n L x:=⟨hx.1,hx.2.1,(XF hf h hx.1.2).1 hx.2.2⟩
theorem avq{f:TF3}(hf:aG f=true){n:Nat}{E D:List (List Int)}(hE:GR f n E)(hD:GR f n D)(h:∀r∈E,∀y∈D,lJ f r y=0){c:Nat}(hc:c<n){d:List Int}(hd:d∈D)(hdc:d.getD c 0=1):∃x,(JW f n D)[0]?=some x∧aiG f n E x:=by
 obtain ⟨p,hI,hl⟩:=yw.all hf (Nat.le_refl n) hD
 have hlen:=aeo hf (m:=n) hD
 have hgr:=auT hf (m:=n) hD
 have hpos:0<(JW f n D).length:=by
  apply Classical.byContradiction
  intro hn
  have he:JW f n D=[]:=List.length_eq_zero_iff.1 (by omega)
  have:=(XF hf hD (Mk hf n c).2).1 (by rw [he];intro r hr;cases hr) d hd
  rw [Tq hf (hD d hd).2 (Mk hf n c).2,Z4 hf n c (hD d hd).2 (hD d hd).1.symm hc,hdc] at this
  cases this
 have h0:=List.getElem?_eq_getElem hpos
 refine ⟨_,h0,hgr _ (List.mem_of_getElem? h0),?_,fun r hr=>?_⟩
 ·obtain ⟨q,hq,_⟩:=hI.piv (i:=0) (by omega)
  have:=(hI.aps (i:=0) (by omega) (r:=(JW f n D)[0]) h0 hq).1
  exact ⟨q,by rw [tL this];decide⟩
 ·have hrok:=hE r hr
  have h2:=(XF hf hD hrok.2).2 (fun y hy=>by rw [Tq hf (hD y hy).2 hrok.2];exact h r hr y hy) _ (List.mem_of_getElem? h0)
  rw [Tq hf hrok.2 (hgr _ (List.mem_of_getElem? h0)).2];exact h2
theorem asV{n:Nat}{p:List Nat}(_:p.Pairwise (· < ·))(hl:p.length<n):∃c,c<n∧c ∉ p:=by
 apply Classical.byContradiction
 intro hn
 have hall:∀c,c<n→c∈p:=fun c hc=>Classical.byContradiction fun h=>hn ⟨c,hc,h⟩
 have hsub:List.range n ⊆ p:=fun c hc=>hall c (List.mem_range.1 hc)
 have hd:(List.range n).Nodup:=List.nodup_range
 have:=List.Nodup.length_le_of_subset hd hsub
 rw [List.length_range] at this
 omega
theorem dZ{σ β:Type}{step:σ→Tre (σ ⊕ β)}(st:Nat→σ)(n:Nat)(b:β)(hs:∀i,i<n→(step (st i)).run some=some (.inl (st (i+1))))(he:(step (st n)).run some=some (.inr b)):aO step (st 0)=some b:=by
 have key:∀m i,i+m=n→aO step (st i)=some b:=by
  intro m
  induction m with
  |zero=>intro i hi;have hi:i=n:=hi;subst hi;exact dY he
  |succ m ih=>intro i hi;rw [gy (hs i (by omega))];exact ih (i+1) (by omega)
 exact key n 0 (by omega)
def aR(l:List Nat):List Int:=l.map fun x:Nat=>(x:Int)
theorem aN(l:List Nat):(aR l).length=l.length:=by unfold aR;exact List.length_map _
theorem fT{l:List Nat}{i x:Nat}(h:l[i]?=some x):(aR l)[i]?=some (x:Int):=by
 unfold aR;rw [List.getElem?_map,h];rfl
theorem aou{c:Nat}{E:List (List Int)}{out:List Int}{q:Nat}{row:List Int}{p:List Nat}{i:Nat}(h1:p[i]?=some q)(h2:E[i]?=some row):kT c out ((p.zip E).take (i+1))=(kT c out ((p.zip E).take i)).set q (row.getD c 0):=by
 rw [List.take_add_one,List.getElem?_zip_eq_some.2 (show p[i]?=some (q,row).1∧E[i]?=some (q,row).2 from ⟨h1,h2⟩),ab7]
 rfl
-- shared
def avU(p:Nat):Nat→Nat→Nat
 |0,a=>a
 |k+1,a=>avU p k (mulN p a a)
def ayY(d p:Nat):Bool:=(List.range (2 ^ d)).all fun a=>Nat.beq (avU p d a) a
theorem aqL:(iW.all fun q=>ayY q.1 q.2)=true:=by kernel_rfl
theorem ajv{d p a:Nat}(hq:(d,p)∈iW)(ha:a<2 ^ d)(h0:a≠0):Gx d p a<2 ^ d∧mulN p a (Gx d p a)=1:=by
 have h:=List.all_eq_true.1 (List.all_eq_true.1 Yy (d,p) hq) a (List.mem_range.2 ha)
 rw [Bool.and_eq_true,Bool.or_eq_true] at h
 exact ⟨by simpa [Nat.blt_eq] using h.1,(h.2.resolve_left fun h=>h0 (Nat.eq_of_beq_eq_true h)) |> Nat.eq_of_beq_eq_true⟩
theorem Jv{a d:Nat}:a%2 ^ d<2 ^ d:=Nat.mod_lt _ (Nat.two_pow_pos d)
theorem one_mod{d:Nat}(hd:1≤d):1%2 ^ d=1:=Nat.mod_eq_of_lt (Nat.lt_of_lt_of_le (by decide:1<2 ^ 1) (Nat.pow_le_pow_right (by decide) hd))
theorem VY{d p:Nat}(hq:(d,p)∈iW):1≤d∧d≤5:=by
 have:∀q∈iW,1≤q.1∧q.1≤5:=by decide
 exact this _ hq
def foN(d p:Nat)(hq:(d,p)∈iW):FO where
 q:=2 ^ d
 dg:=d
 mul:=fun a b=>mulN p (a%2 ^ d) (b%2 ^ d)
 hq:=Nat.lt_of_lt_of_le (by decide:1<2 ^ 1) (Nat.pow_le_pow_right (by decide) (VY hq).1)
 hd:=(VY hq).1
 lt:=fun a b=>(nM hq Jv Jv).1
 xlt:=fun a b ha hb=>Nat.xor_lt_two_pow ha hb
 comm:=fun a b=>(nM hq Jv Jv).2
 assoc:=fun a b c=>by rw [Nat.mod_eq_of_lt (nM hq Jv Jv).1,Nat.mod_eq_of_lt (nM hq (a:=b%2 ^ d) (b:=c%2 ^ d) Jv Jv).1];exact afw hq Jv Jv Jv
 add:=fun a b c=>by rw [Nat.xor_mod_two_pow];exact Di hq Jv _ _ Jv Jv
 one:=fun a ha=>by rw [Nat.mod_eq_of_lt ha,one_mod (VY hq).1];exact (YM hq ha).1
 inv:=fun a ha h0=>⟨Gx d p a,(ajv hq ha h0).1,by rw [Nat.mod_eq_of_lt ha,Nat.mod_eq_of_lt (ajv hq ha h0).1];exact (ajv hq ha h0).2⟩
theorem aes{f:TF3}(hf:aG f=true):(f.1.toNat,f.2.1.toNat)∈iW∧f=((f.1.toNat:Int),(f.2.1.toNat:Int),()):=by
 obtain ⟨d,p,hq,rfl⟩:=AP hf
 exact ⟨hq,rfl⟩
def FOf(f:TF3)(hf:aG f=true):FO:=foN f.1.toNat f.2.1.toNat (aes hf).1
section
variable {f : TF3} (hf : aG f = true)
theorem Iu:(FOf f hf).q=2 ^ f.1.toNat:=rfl
theorem Yw{x:Int}:inF f x ↔ ∃n:Nat,x=(n:Int)∧n<(FOf f hf).q:=by
 unfold inF
 rw [Iu]
 constructor
 ·intro h;exact ⟨x.toNat,by omega,by omega⟩
 ·rintro ⟨n,rfl,h⟩;exact ⟨by omega,by exact_mod_cast h⟩
theorem F63{n:Nat}(h:n<(FOf f hf).q):n<2 ^ 63:=by
 rw [Iu] at h
 have:=Nat.pow_le_pow_right (show 0<2 by decide) (show f.1.toNat≤63 by have:=(rA hf).2;omega)
 omega
theorem ajH{a b:Nat}(ha:a<(FOf f hf).q)(hb:b<(FOf f hf).q):iL f (a:Int) (b:Int)=(((FOf f hf).mul a b:Nat):Int):=by
 rw [Iu] at ha hb
 unfold iL FOf foN
 simp only [Int.toNat_natCast]
 rw [Nat.mod_eq_of_lt ha,Nat.mod_eq_of_lt hb]
theorem OI{a b:Nat}(ha:a<(FOf f hf).q)(hb:b<(FOf f hf).q):iF .i64 (a:Int) (b:Int)=((a^^^b:Nat):Int):=lH (F63 hf ha) (F63 hf hb)
theorem axj{a:Nat}(ha:a<(FOf f hf).q):∃b:Nat,DZ f (a:Int)=(b:Int)∧b<(FOf f hf).q∧(a≠0→(FOf f hf).mul a b=1):=by
 obtain ⟨h1,h2⟩:=wT hf ((Yw hf).2 ⟨a,rfl,ha⟩)
 obtain ⟨b,hb,hbl⟩:=(Yw hf).1 h1
 refine ⟨b,hb,hbl,fun h0=>?_⟩
 have:=h2 (by omega)
 rw [hb,ajH hf ha hbl] at this
 omega
theorem auk{d p:Nat}(hq:(d,p)∈iW):∀(k:Nat){a:Nat},a<2 ^ d→(foN d p hq).sqn k a=avU p k a:=by
 intro k
 induction k with
 |zero=>intro a _;rfl
 |succ k ih=>
  intro a ha
  have hs:(foN d p hq).sq a=mulN p a a:=by
   show mulN p (a%2 ^ d) (a%2 ^ d)=_
   rw [Nat.mod_eq_of_lt ha]
  show (foN d p hq).sqn k ((foN d p hq).sq a)=avU p k (mulN p a a)
  rw [hs,ih (nM hq ha ha).1]
theorem asX{a:Nat}(ha:a<(FOf f hf).q):(FOf f hf).sqn f.1.toNat a=a:=by
 have hq:=(aes hf).1
 rw [Iu] at ha
 unfold FOf
 rw [auk hq _ ha]
 exact Nat.eq_of_beq_eq_true (List.all_eq_true.1 (List.all_eq_true.1 aqL _ hq) a (List.mem_range.2 ha))
theorem asY{a:Nat}(ha:a<(FOf f hf).q):∀j:Nat,(FOf f hf).sqn (f.1.toNat*j) a=a:=by
 intro j
 induction j with
 |zero=>rfl
 |succ j ih=>rw [Nat.mul_succ,FO.adV,ih];exact asX hf ha
theorem adU{a:Nat}(ha:a<(FOf f hf).q)(k:Nat):(FOf f hf).sqn (k%f.1.toNat) a=(FOf f hf).sqn k a:=by
 have h:=Nat.div_add_mod k f.1.toNat
 have h2:(FOf f hf).sqn (f.1.toNat*(k/f.1.toNat)+k%f.1.toNat) a=(FOf f hf).sqn (k%f.1.toNat) a:=by
  rw [FO.adV,asY hf ha]
 rw [h] at h2
 exact h2.symm
end
def inL(F:FO)(l:List Nat):Prop:=∀x∈l,x<F.q
theorem adL{f:TF3}(hf:aG f=true){l:List Int}(h:∀x∈l,inF f x):∃L,l=aR L∧inL (FOf f hf) L:=by
 induction l with
 |nil=>exact ⟨[],rfl,fun x hx=>absurd hx List.not_mem_nil⟩
 |cons x l ih=>
  obtain ⟨L,rfl,hL⟩:=ih fun y hy=>h y (List.mem_cons_of_mem _ hy)
  obtain ⟨n,rfl,hn⟩:=(Yw hf).1 (h x (List.mem_cons_self ..))
  refine ⟨n::L,rfl,fun y hy=>?_⟩
  rcases List.mem_cons.1 hy with rfl|hy
  ·exact hn
  ·exact hL y hy
theorem apn{f:TF3}(hf:aG f=true){L:List Nat}(h:inL (FOf f hf) L):∀x∈aR L,inF f x:=by
 intro x hx
 obtain ⟨n,hn,rfl⟩:=List.mem_map.1 hx
 exact (Yw hf).2 ⟨n,rfl,h n hn⟩
theorem zu{F:FO}{a b:List Nat}(ha:inL F a)(hb:inL F b):inL F (a++b):=fun x hx=>(List.mem_append.1 hx).elim (ha x) (hb x)
theorem sJ{F:FO}{l:List Nat}(h:inL F l):inL F (dF l):=by
 intro x hx
 obtain ⟨i,hi⟩:=List.getElem?_of_mem hx
 have hc:=fQ l i
 unfold cf at hc
 rw [List.getD_eq_getElem?_getD,hi,List.getD_eq_getElem?_getD] at hc
 cases hl:l[i]? with
 |none=>rw [hl] at hc;simp at hc;rw [hc];exact F.zlt
 |some y=>rw [hl] at hc;simp at hc;rw [hc];exact h y (List.mem_of_getElem? hl)
theorem vH{F:FO}{l:List Nat}(h:inL F l)(i:Nat):cf l i<F.q:=by
 unfold cf
 rw [List.getD_eq_getElem?_getD]
 cases hi:l[i]? with
 |none=>exact F.zlt
 |some c=>exact h c (List.mem_of_getElem? hi)
theorem jH{l:List Nat}{i:Nat}(h:i<l.length):l[i]?=some (cf l i):=by
 unfold cf
 rw [List.getD_eq_getElem?_getD,List.getElem?_eq_getElem h];rfl
theorem ar6{l:List Nat}{n:Nat}(hn:n≤l.length)(hz:∀i,n≤i→cf l i=0)(h:n=0∨cf l (n-1)≠0):l.take n=dF l:=by
 have hcf:∀i,cf (l.take n) i=cf l i:=by
  intro i
  by_cases hi:i<n
  ·unfold cf
   rw [List.getD_eq_getElem?_getD,List.getD_eq_getElem?_getD,List.getElem?_take_of_lt hi]
  ·rw [hz i (by omega),XD (by rw [List.length_take];omega)]
 refine Mj (fun hne=>?_) (tF l) fun i=>by rw [hcf,fQ]
 have hl:(l.take n).length=n:=by rw [List.length_take];omega
 rw [hl,hcf]
 rcases h with h|h
 ·exact absurd (List.length_eq_zero_iff.1 (by rw [hl,h])) hne
 ·exact h
-- shared
theorem ai0{b:Nat}{xs:List Int}(hb:b≤62)(h:Bp b xs=true):iG (xs.map Int.toNat) (ech (xs.map Int.toNat)):=by
 obtain ⟨ns,rfl,hlen,hn,he⟩:=aa4 h
 obtain ⟨E,_,h2⟩:=JM b hb ns b 0 [] ns (by omega) (Inv.start ns) (Nat.zero_le _) hlen hn (fun a ha=>by cases ha)
 rw [he,Z6 h2];exact h2
theorem akW(xs:List Int):(JV xs).length=(ech (xs.map Int.toNat)).length:=by unfold JV;rw [fC]
theorem agk:∀(l:List (Nat×Nat))(lo b:Nat),(l.Pairwise fun a b=>a.1<b.1)→(∀a∈l,lo≤a.1∧a.1<b)→l.length≤b-lo:=by
 intro l
 induction l with
 |nil=>intro lo b _ _;exact Nat.zero_le _
 |cons a l ih=>
  intro lo b h hb
  obtain ⟨h1,h2⟩:=List.pairwise_cons.1 h
  have:=ih (a.1+1) b h2 fun x hx=>⟨h1 x hx,(hb x (.tail _ hx)).2⟩
  have h0:=hb a (.head _)
  simp only [List.length_cons]
  omega
theorem aug{l:List Nat}{b v:Nat}(h:∀x∈l,x<2 ^ b)(hv:Sp l v):v<2 ^ b:=by
 induction hv with
 |zero=>exact Nat.two_pow_pos b
 |add hr _ ih=>exact Nat.xor_lt_two_pow (h _ hr) ih
-- shared
theorem atj{us:List Nat}{r:Nat}(h:r∈us):FO.Db us r:=by
 induction us with
 |nil=>cases h
 |cons u us ih=>
  rcases List.mem_cons.1 h with rfl|h
  ·exact ⟨true::List.replicate us.length false,by simp,by simp only [FO.lI,cond_true];rw [FO.Xr,Nat.xor_zero]⟩
  ·obtain ⟨bs,h1,h2⟩:=ih h
   exact ⟨false::bs,by simp [h1],by simp only [FO.lI,cond_false];rw [Nat.zero_xor];exact h2⟩
theorem avm{us:List Nat}{v:Nat}(h:Sp us v):FO.Db us v:=by
 induction h with
 |zero=>exact FO.Db.zero us
 |add hr _ ih=>exact (atj hr).add ih
theorem axJ:∀(bs:List Bool)(us:List Nat),Sp us (FO.lI bs us):=by
 intro bs
 induction bs with
 |nil=>intro us;cases us<;>exact Sp.zero
 |cons b bs ih=>
  intro us
  cases us with
  |nil=>exact Sp.zero
  |cons u us=>
   have h:=Sp.trans (fun r hr=>Sp.mem (List.mem_cons_of_mem u hr)) (ih us)
   simp only [FO.lI]
   cases b
   ·rw [cond_false,Nat.zero_xor];exact h
   ·rw [cond_true];exact (Sp.mem (List.mem_cons_self ..)).xor h
theorem ap5{g:Nat}{a b:List Nat}(h:∀v,Sp a v→Sp b v){v:Nat}(hv:Sp (g::a) v):Sp (g::b) v:=by
 refine Sp.trans (fun r hr=>?_) hv
 rcases List.mem_cons.1 hr with rfl|hr
 ·exact Sp.mem (List.mem_cons_self ..)
 ·exact Sp.trans (fun r hr=>Sp.mem (List.mem_cons_of_mem _ hr)) (h r (Sp.mem hr))
theorem asB:∀(pts:List Nat),¬FO.oK pts→∃pts':List Nat,pts'.length<pts.length∧∀v,Sp pts v↔Sp pts' v:=by
 intro pts
 induction pts with
 |nil=>intro h;exact absurd (fun bs hl _ b hb=>by rw [List.length_eq_zero_iff.1 hl] at hb;cases hb) h
 |cons g gs ih=>
  intro h
  by_cases hg:Sp gs g
  ·exact ⟨gs,by simp,fun v=>⟨fun hv=>Sp.trans (fun r hr=>(List.mem_cons.1 hr).elim (fun e=>e ▸ hg) Sp.mem) hv,fun hv=>Sp.trans (fun r hr=>Sp.mem (List.mem_cons_of_mem _ hr)) hv⟩⟩
  ·have hgs:¬FO.oK gs:=by
    intro hi
    apply h
    intro bs hl hs
    cases bs with
    |nil=>simp at hl
    |cons b bs=>
     simp only [List.length_cons,Nat.add_right_cancel_iff] at hl
     cases b with
     |false=>
      simp only [FO.lI,cond_false] at hs
      rw [Nat.zero_xor] at hs
      intro b hb
      rcases List.mem_cons.1 hb with rfl|hb
      ·rfl
      ·exact hi bs hl hs b hb
     |true=>
      exfalso
      simp only [FO.lI,cond_true] at hs
      apply hg
      have:g=FO.lI bs gs:=by
       calc g=(g^^^FO.lI bs gs)^^^FO.lI bs gs:=by rw [Nat.xor_assoc,Nat.xor_self,Nat.xor_zero]
        _=FO.lI bs gs:=by rw [hs,Nat.zero_xor]
      rw [this];exact axJ bs gs
   obtain ⟨gs',h1,h2⟩:=ih hgs
   exact ⟨g::gs',by simp only [List.length_cons];omega,fun v=>⟨ap5 fun v=>(h2 v).1,ap5 fun v=>(h2 v).2⟩⟩
theorem alC{pts E:List Nat}(h:iG pts E)(hl:E.length=pts.length):FO.oK pts:=by
 apply Classical.byContradiction
 intro hn
 obtain ⟨pts',h1,h2⟩:=asB pts hn
 obtain ⟨P,c,hr,rfl,hs⟩:=h
 have h':iG pts' (P.map (·.2)):=⟨P,c,hr,rfl,fun v=>(h2 v).symm.trans (hs v)⟩
 have:=h'.le
 omega
theorem asP{E B:List Nat}(h:iG E B){e:Nat}(he:e∈E):FO.Db B e:=by
 obtain ⟨P,c,hr,rfl,hs⟩:=h
 exact avm ((hs e).1 (Sp.mem he))
theorem adM(l:List Nat):aR l=up l:=rfl
theorem alE(l:List Nat):(aR l).map Int.toNat=l:=up_toNat l
theorem aju{f:TF3}(hf:aG f=true){L:List Nat}(h:inL (FOf f hf) L)(hl:L.length≤1000){b:Nat}(hb:f.1.toNat≤b):Bp b (aR L)=true:=by
 rw [adM]
 exact LD (by omega) fun n hn=>Nat.lt_of_lt_of_le (h n hn) (Nat.pow_le_pow_right (by decide) hb)
def rkN (L:List Nat):Nat:=(ech L).length
theorem ap1(L:List Nat):(JV (aR L)).length=rkN L:=by rw [akW,alE];rfl
theorem GI{f:TF3}(hf:aG f=true){L:List Nat}(h:inL (FOf f hf) L)(hl:L.length≤1000):iG L (ech L):=by
 have h5:=(rA hf).2
 have:=ai0 (b:=62) (by omega) (aju hf h hl (by omega))
 rwa [alE] at this
-- shared
theorem amY{p q:List Nat}(h:∀i,cf p i=cf q i):dF p=dF q:=Mj (tF p) (tF q) fun i=>by rw [fQ,fQ,h]
theorem MC{l:List Nat}{i:Nat}(h:(dF l).length≤i):cf l i=0:=by rw [←fQ];exact XD h
theorem ZH(l:List Nat):(dF l).length=0∨cf l ((dF l).length-1)≠0:=by
 by_cases h:dF l=[]
 ·left;rw [h];rfl
 ·right;rw [←fQ];exact tF l h
theorem akh(l:List Nat):l.take (dF l).length=dF l:=ar6 (mo l) (fun _ hi=>MC hi) (ZH l)
theorem ah8(l:List Nat)(n:Nat):aR (l.take n)=(aR l).take n:=by unfold aR;rw [List.map_take]
theorem nK(a b:List Nat):aR (a++b)=aR a++aR b:=by unfold aR;rw [List.map_append]
theorem wS(n:Nat):aR (List.replicate n 0)=List.replicate n (0:Int):=by unfold aR;rw [List.map_replicate];rfl
theorem LA(l:List Nat)(i x:Nat):aR (l.set i x)=(aR l).set i (x:Int):=by unfold aR;rw [List.map_set]
theorem akr:∀(B A:List Nat)(y:Nat),B.length<A.length→(lq A B)[B.length]?=some (cf A B.length)∧(lq A B).set B.length (cf A B.length^^^y)=lq A (B++[y]):=by
 intro B
 induction B with
 |nil=>
  intro A y h
  cases A with
  |nil=>simp at h
  |cons a A=>exact ⟨rfl,by simp only [List.nil_append,lq,List.length_nil,List.set_cons_zero,Bu,akq]⟩
 |cons b B ih=>
  intro A y h
  cases A with
  |nil=>simp at h
  |cons a A=>
   obtain ⟨h1,h2⟩:=ih A y (by simpa using h)
   simp only [lq,List.length_cons,List.cons_append,List.getElem?_cons_succ,List.set_cons_succ,mI]
   exact ⟨h1,by rw [h2]⟩
theorem ao5{A B:List Nat}(h:B.length≤A.length):(lq A B).length=A.length:=by rw [Qz];omega
theorem asq(i:Nat)(l:List Nat)(s:Nat):cf (List.replicate i 0++l) s=if i≤s then cf l (s-i) else 0:=by
 unfold cf
 rw [List.getD_eq_getElem?_getD,List.getD_eq_getElem?_getD]
 by_cases h:i≤s
 ·rw [if_pos h,List.getElem?_append_right (by rw [List.length_replicate];exact h),List.length_replicate]
 ·rw [if_neg h,List.getElem?_append_left (by rw [List.length_replicate];omega),List.getElem?_replicate,if_pos (by omega)];rfl
theorem akF(n i:Nat):cf (List.replicate n 0) i=0:=by
 unfold cf
 rw [List.getD_eq_getElem?_getD,List.getElem?_replicate]
 split<;>rfl
theorem ase(M:Nat)(P Q:List Nat):dF (lq (rU M P) Q)=dF (lq P Q):=amY fun i=>by rw [vU,vU,IC]
namespace FO
variable (F : FO)
theorem ano:∀(V:List Nat)(c:Nat)(x:Nat→Nat)(s:Nat),F.fD (V++[c]) x s=F.fD V x s^^^(if V.length≤s then F.mul c (F.sqn V.length (x (s-V.length))) else 0):=by
 intro V
 induction V with
 |nil=>
  intro c x s
  simp only [List.nil_append,fD,List.length_nil,Nat.zero_le,if_true,Nat.sub_zero,sqn]
  cases s<;>simp
 |cons v vs ih=>
  intro c x s
  simp only [List.cons_append,fD,List.length_cons]
  cases s with
  |zero=>simp
  |succ s=>
   simp only
   rw [ih]
   by_cases h:vs.length≤s
   ·rw [if_pos h,if_pos (by omega),show s+1-(vs.length+1)=s-vs.length by omega]
    simp only [sqn]
    ac_rfl
   ·rw [if_neg h,if_neg (by omega),Nat.xor_zero,Nat.xor_zero]
def ahe(i c:Nat)(q:List Nat):List Nat:=q.map fun d=>F.mul c (F.sqn i d)
def R8(p q:List Nat):Nat→List Nat
 |0=>List.replicate (p.length+q.length-1) 0
 |i+1=>lq (R8 p q i) (List.replicate i 0++F.ahe i (cf p i) q)
theorem atM(p q:List Nat)(hq:q≠[]):∀i,i≤p.length→(F.R8 p q i).length=p.length+q.length-1:=by
 have hl:0<q.length:=List.length_pos_iff.2 hq
 intro i
 induction i with
 |zero=>intro _;exact List.length_replicate
 |succ i ih=>
  intro h
  unfold R8
  rw [ao5 (by rw [ih (by omega),List.length_append,List.length_replicate];unfold ahe;rw [List.length_map];omega),ih (by omega)]
theorem avt(p q:List Nat):∀i,i≤p.length→∀s,cf (F.R8 p q i) s=F.fD (p.take i) (cf q) s:=by
 intro i
 induction i with
 |zero=>intro _ s;unfold R8;rw [akF];simp [fD]
 |succ i ih=>
  intro h s
  unfold R8
  rw [vU,ih (by omega),List.take_add_one,jH (show i<p.length by omega),Option.toList_some,F.ano,List.length_take,Nat.min_eq_left (by omega),asq]
  unfold ahe
  rw [aiS (by rw [F.amP,F.mul_zero])]
theorem aru(p q:List Nat):dF (F.R8 p q p.length)=dF (F.jZ p q):=amY fun s=>by rw [F.avt p q _ (Nat.le_refl _),List.take_length,F.Fv]
theorem avu(p q:List Nat):∀i,inL F (F.R8 p q i):=by
 intro i
 induction i with
 |zero=>intro x hx;rw [(List.mem_replicate.1 hx).2];exact F.zlt
 |succ i ih=>
  unfold R8
  refine F.adC ih fun x hx=>?_
  rcases List.mem_append.1 hx with hx|hx
  ·rw [(List.mem_replicate.1 hx).2];exact F.zlt
  ·obtain ⟨d,_,rfl⟩:=List.mem_map.1 hx
   exact F.lt _ _
theorem agF{V m:List Nat}(hV:inL F V)(hm:inL F m)(h1:V≠[])(h2:m≠[])(hv:cf V (V.length-1)≠0)(hc:cf m (m.length-1)≠0):(dF (F.jZ V m)).length=V.length+m.length-1:=by
 have hl1:0<V.length:=List.length_pos_iff.2 h1
 have hl2:0<m.length:=List.length_pos_iff.2 h2
 have htop:=F.ZV V (V.length-1) (cf m) (m.length-1) (by omega) fun i hi=>XD (by omega)
 have hne:cf (F.jZ V m) (V.length-1+(m.length-1))≠0:=by
  rw [F.Fv,htop]
  intro h0
  rcases F.nz (vH hV _) (F.KE _ (vH hm _)) h0 with h|h
  ·exact hv h
  ·exact hc (F.ap7 _ (vH hm _) h)
 have hle:=F.AJ V m h1 h2
 have hlt:=mo (F.jZ V m)
 apply Classical.byContradiction
 intro hn
 exact hne (MC (by omega))
end FO
-- shared
def afK(d k:Nat):Nat:=(d-k%d)%d
theorem auj{f:TF3}(hf:aG f=true){x:Nat}(hx:x<(FOf f hf).q)(k:Nat):(FOf f hf).sqn k ((FOf f hf).sqn (afK f.1.toNat k) x)=x:=by
 have h3:1≤f.1.toNat:=by have:=iH hf;omega
 unfold afK
 rw [adU hf hx,←adU hf ((FOf f hf).KE _ hx) k,←FO.adV]
 have hk:k%f.1.toNat<f.1.toNat:=Nat.mod_lt _ (by omega)
 rw [show f.1.toNat-k%f.1.toNat+k%f.1.toNat=f.1.toNat by omega]
 exact asX hf hx
def Fu(l:List Nat):Prop:=l≠[]→cf l (l.length-1)≠0
theorem qx(l:List Nat):Fu (dF l):=tF l
theorem av4{l:List Nat}{n:Nat}(h:∀i,n≤i→cf l i=0):(dF l).length≤n:=by
 apply Classical.byContradiction
 intro hn
 rcases ZH l with h0|h0
 ·omega
 ·exact h0 (h _ (by omega))
structure Ms(F:FO)(N V A R:List Nat):Prop where
 ia:inL F A
 ir:inL F R
 ta:Fu A
 tr:Fu R
 eq:∀i,cf N i=F.fD V (cf A) i^^^cf R i
def tC(k c:Nat):List Nat:=(List.replicate (k+1) 0).set k c
theorem TV(k c:Nat):(tC k c).length=k+1:=by unfold tC;rw [List.length_set,List.length_replicate]
theorem agn(k c i:Nat):cf (tC k c) i=if k=i then c else 0:=by
 unfold tC cf
 rw [List.getD_eq_getElem?_getD,List.getElem?_set,List.length_replicate]
 by_cases h:k=i
 ·rw [if_pos h,if_pos h,if_pos (by omega)];rfl
 ·rw [if_neg h,if_neg h,List.getElem?_replicate];split<;>rfl
theorem agp{F:FO}{k c:Nat}(hc:c<F.q):inL F (tC k c):=by
 intro x hx
 rcases List.mem_or_eq_of_mem_set hx with hx|rfl
 ·rw [(List.mem_replicate.1 hx).2];exact F.zlt
 ·exact hc
theorem RP{F:FO}(V m:List Nat):inL F (F.jZ V m):=F.akG V m
theorem adK{F:FO}{p q:List Nat}(hp:inL F p)(hq:inL F q):inL F (lq p q):=F.adC hp hq
theorem asE{f:TF3}(hf:aG f=true){N V A R:List Nat}(_:inL (FOf f hf) V)(h:Ms (FOf f hf) N V A R)(hn:V≠[])(hl:V.length≤R.length){iv:Nat}(_:iv<(FOf f hf).q)(hinv:(FOf f hf).mul (cf V (V.length-1)) iv=1) :
  let c:=(FOf f hf).sqn (afK f.1.toNat (V.length-1)) ((FOf f hf).mul (cf R (R.length-1)) iv)
  c<(FOf f hf).q∧Ms (FOf f hf) N V (dF (lq A (tC (R.length-V.length) c))) (dF (lq R (dF ((FOf f hf).jZ V (tC (R.length-V.length) c))))) ∧
  (dF (lq R (dF ((FOf f hf).jZ V (tC (R.length-V.length) c))))).length<R.length:=by
 intro c
 have hvl:0<V.length:=List.length_pos_iff.2 hn
 have hrl:=vH h.ir (R.length-1)
 have hml:=(FOf f hf).lt (cf R (R.length-1)) iv
 have hc:c<(FOf f hf).q:=(FOf f hf).KE _ hml
 have hcf:∀i,cf (lq R (dF ((FOf f hf).jZ V (tC (R.length-V.length) c)))) i=cf R i^^^(FOf f hf).fD V (cf (tC (R.length-V.length) c)) i:=fun i=>by
  rw [vU,fQ,FO.Fv]
 refine ⟨hc,⟨sJ (adK h.ia (agp hc)),sJ (adK h.ir (sJ (RP _ _))),qx _,qx _,fun i=>?_⟩,?_⟩
 ·rw [fQ,hcf,h.eq i,show cf (dF (lq A (tC (R.length-V.length) c)))=fun j=>cf A j^^^cf (tC (R.length-V.length) c) j from funext fun j=>by rw [fQ,vU],FO.ZU]
  generalize (FOf f hf).fD V (cf A) i=a
  generalize (FOf f hf).fD V (cf (tC (R.length-V.length) c)) i=t
  calc a^^^cf R i=(a^^^cf R i)^^^(t^^^t):=by rw [Nat.xor_self,Nat.xor_zero]
   _=(a^^^t)^^^(cf R i^^^t):=by ac_rfl
 ·have hlt:(dF (lq R (dF ((FOf f hf).jZ V (tC (R.length-V.length) c))))).length≤R.length-1:=by
   refine av4 fun i hi=>?_
   rw [hcf]
   by_cases he:i=R.length-1
   ·have htop:=(FOf f hf).ZV V (V.length-1) (cf (tC (R.length-V.length) c)) (R.length-V.length) (by omega) (fun i hi=>by rw [agn,if_neg (by omega)])
    rw [show V.length-1+(R.length-V.length)=i by omega,agn,if_pos rfl] at htop
    rw [htop]
    show cf R i^^^(FOf f hf).mul (cf V (V.length-1)) ((FOf f hf).sqn (V.length-1) ((FOf f hf).sqn (afK f.1.toNat (V.length-1)) ((FOf f hf).mul (cf R (R.length-1)) iv)))=0
    rw [auj hf hml,FO.comm _ (cf R (R.length-1)) iv,←FO.assoc,hinv,FO.comm,FO.one _ _ hrl,he,Nat.xor_self]
   ·rw [XD (by omega),FO.ZW _ _ _ (R.length-V.length+1) _ (fun j hj=>by rw [agn,if_neg (by omega)]) (by omega)];rfl
  omega
theorem aeh{F:FO}:∀{V:List Nat}{x:Nat→Nat}{i:Nat},(∀j,x j=0)→F.fD V x i=0:=by
 intro V
 induction V with
 |nil=>intro x i _;simp [FO.fD]
 |cons v vs ih=>
  intro x i h
  simp only [FO.fD]
  rw [h,F.mul_zero,Nat.zero_xor]
  cases i with
  |zero=>rfl
  |succ i=>exact ih fun j=>by rw [h,F.E5]
theorem Ms.uniq{F:FO}{N V A R m:List Nat}(h:Ms F N V A R)(hV:inL F V)(hn:V≠[])(ht:Fu V)(hR:R.length<V.length)(hm:inL F m)(he:∀i,cf N i=F.fD V (cf m) i):A=dF m∧R=[]:=by
 have h1:∀i,F.fD V (cf (lq A m)) i=cf R i:=by
  intro i
  rw [show cf (lq A m)=fun j=>cf A j^^^cf m j from funext fun j=>vU A m j,F.ZU,←he i,h.eq i]
  generalize F.fD V (cf A) i=a
  rw [←Nat.xor_assoc,Nat.xor_self,Nat.zero_xor]
 have h2:=F.akH hV (adK h.ia hm) hn (ht hn) fun i hi=>by rw [h1];exact XD (by omega)
 have h3:∀i,cf R i=0:=fun i=>by rw [←h1,aeh];exact h2
 have h4:R=[]:=by
  apply Classical.byContradiction
  intro hne
  exact h.tr hne (h3 _)
 refine ⟨Mj h.ta (tF m) fun i=>?_,h4⟩
 have:=h2 i
 rw [vU] at this
 rw [fQ]
 calc cf A i=(cf A i^^^cf m i)^^^cf m i:=by rw [Nat.xor_assoc,Nat.xor_self,Nat.xor_zero]
  _=cf m i:=by rw [this,Nat.zero_xor]
theorem Ms.azm{F:FO}{N V A R A' R':List Nat}(h:Ms F N V A R)(h':Ms F N V A' R')(hV:inL F V)(hn:V≠[])(ht:Fu V)(hR:R.length<V.length)(hR':R'.length<V.length):A=A'∧R=R':=by
 have hx:∀{a b:Nat},a^^^b=0→a=b:=fun {a b} h=>by
  calc a=(a^^^b)^^^b:=by rw [Nat.xor_assoc,Nat.xor_self,Nat.xor_zero]
   _=b:=by rw [h,Nat.zero_xor]
 have h1:∀i,F.fD V (cf (lq A A')) i=cf R i^^^cf R' i:=by
  intro i
  rw [show cf (lq A A')=fun j=>cf A j^^^cf A' j from funext fun j=>vU A A' j,F.ZU]
  have e:=(h.eq i).symm.trans (h'.eq i)
  generalize F.fD V (cf A) i=a at e ⊢
  generalize F.fD V (cf A') i=b at e ⊢
  have e2:a=b^^^(cf R' i^^^cf R i):=by
   calc a=(a^^^cf R i)^^^cf R i:=by rw [Nat.xor_assoc,Nat.xor_self,Nat.xor_zero]
    _=b^^^(cf R' i^^^cf R i):=by rw [e,Nat.xor_assoc]
  calc a^^^b=(b^^^b)^^^(cf R i^^^cf R' i):=by rw [e2];ac_rfl
   _=cf R i^^^cf R' i:=by rw [Nat.xor_self,Nat.zero_xor]
 have h2:=F.akH hV (adK h.ia h'.ia) hn (ht hn) fun i hi=>by rw [h1,XD (by omega),XD (by omega)];rfl
 have h3:∀i,cf A i=cf A' i:=fun i=>hx (by rw [←vU];exact h2 i)
 refine ⟨Mj h.ta h'.ta h3,Mj h.tr h'.tr fun i=>hx ?_⟩
 rw [←h1,aeh]
 exact h2
-- shared
namespace FO
variable (F : FO)
theorem IE:∀(V V':List Nat)(x:Nat→Nat)(i:Nat),(∀i,cf V i=cf V' i)→F.fD V x i=F.fD V' x i:=by
 have hz:∀(V:List Nat)(x:Nat→Nat)(i:Nat),(∀i,cf V i=0)→F.fD V x i=0:=by
  intro V
  induction V with
  |nil=>intro x i _;simp [fD]
  |cons v vs ih=>
   intro x i h
   have h0:=h 0
   rw [Bu] at h0
   simp only [fD]
   rw [h0,F.zero_mul,Nat.zero_xor]
   cases i with
   |zero=>rfl
   |succ i=>exact ih _ i fun j=>by have:=h (j+1);rwa [mI] at this
 intro V
 induction V with
 |nil=>intro V' x i h;rw [hz V' x i fun j=>(h j).symm.trans (uZ j)];simp [fD]
 |cons v vs ih=>
  intro V' x i h
  cases V' with
  |nil=>rw [hz (v::vs) x i fun j=>(h j).trans (uZ j)];simp [fD]
  |cons v' vs'=>
   have h0:=h 0
   rw [Bu,Bu] at h0
   simp only [fD]
   rw [h0]
   cases i with
   |zero=>rfl
   |succ i=>
    simp only
    rw [ih vs' (fun j=>F.sq (x j)) i fun j=>by have:=h (j+1);rwa [mI,mI] at this]
def VW:List Nat→List Nat→Nat
 |a::u,b::v=>F.mul a b^^^VW u v
 |_,_=>0
theorem akR:∀(a c b d:List Nat),a.length=c.length→F.VW (a++b) (c++d)=F.VW a c^^^F.VW b d:=by
 intro a
 induction a with
 |nil=>intro c b d h;have:c=[]:=List.length_eq_zero_iff.1 h.symm;subst this;simp [VW]
 |cons x a ih=>
  intro c b d h
  cases c with
  |nil=>simp at h
  |cons y c=>simp only [List.cons_append,VW];rw [ih c b d (by simpa using h),Nat.xor_assoc]
def KF(n x:Nat):List Nat:=(List.range n).map fun j=>F.sqn j x
theorem Hz(n x:Nat):(F.KF n x).length=n:=by simp [KF]
theorem arW(n x:Nat):F.KF (n+1) x=x::F.KF n (F.sq x):=by
 unfold KF
 rw [List.range_succ_eq_map,List.map_cons,List.map_map]
 rfl
theorem aiX:∀(p:List Nat)(x:Nat),F.VW (F.KF p.length x) p=F.lp p x:=by
 intro p
 induction p with
 |nil=>intro x;rfl
 |cons c p ih=>
  intro x
  rw [List.length_cons,arW]
  simp only [VW,lp]
  rw [ih,F.comm]
def MH(pts w m:List Nat):List Nat:=(pts.zip w).map fun p=>p.2^^^F.lp m p.1
theorem adF{pts w m:List Nat}(hw:inL F w):inL F (F.MH pts w m):=by
 intro e he
 obtain ⟨p,hp,rfl⟩:=List.mem_map.1 he
 have:=List.of_mem_zip (a:=p.1) (b:=p.2) hp
 exact F.xlt _ _ (hw _ this.2) (F.YI _ _)
theorem QF{pts w m:List Nat}(h:w.length=pts.length):(F.MH pts w m).length=pts.length:=by
 unfold MH
 rw [List.length_map,List.length_zip,h,Nat.min_self]
theorem asA{pts w V N m us:List Nat}{k t:Nat}(hi:oK pts)(hp:inL F pts)(hl:w.length=pts.length)(hk:1≤k)(hm:m.length=k)(_:inL F m)
  (hV:V.length=t+1) (hN:N.length=t+k) (hNi:inL F N) (h2:2*t+k≤pts.length) (hus:us.length≤t) (hsp:∀e∈F.MH pts w m,Db us e) (ho:∀p∈pts.zip w,F.lp V p.2=F.lp N p.1) :
  ∀i,cf N i=F.fD V (cf m) i:=by
 have hmn:m≠[]:=by intro h;rw [h] at hm;simp at hm;omega
 have hVn:V≠[]:=by intro h;rw [h] at hV;simp at hV
 have hcl:=F.AJ V m hVn hmn
 have hz:=F.atv (us:=us.map (F.lp V)) (gs:=pts) (p:=lq N (F.jZ V m)) (by rw [Qz,List.length_map];omega) hp (F.adC hNi (F.akG V m)) hi (by
  intro g hg
  obtain ⟨j,hj⟩:=List.getElem?_of_mem hg
  have hjl:=(List.getElem?_eq_some_iff.1 hj).1
  have hwj:=List.getElem?_eq_getElem (show j<w.length by omega)
  have hz:(pts.zip w)[j]?=some (g,w[j]):=List.getElem?_zip_eq_some.2 ⟨hj,hwj⟩
  have hmem:=List.mem_of_getElem? hz
  have h1:=ho _ hmem
  have h3:=(hsp _ (List.mem_map.2 ⟨_,hmem,rfl⟩)).map (F.TP V) (F.NQ V)
  rw [F.apv,F.RV]
  dsimp only at h1 h3
  rw [F.NQ,h1] at h3
  exact h3)
 intro i
 have:=aqj hz i
 rw [vU,F.Fv] at this
 calc cf N i=(cf N i^^^F.fD V (cf m) i)^^^F.fD V (cf m) i:=by rw [Nat.xor_assoc,Nat.xor_self,Nat.xor_zero]
  _=F.fD V (cf m) i:=by rw [this,Nat.zero_xor]
theorem auQ{V N m:List Nat}(hVi:inL F V)(hmi:inL F m)(he:∀i,cf N i=F.fD V (cf m) i)(hx:∃c∈V++N,c≠0) :
  dF V≠[]∧∀A R,Ms F (dF N) (dF V) A R→R.length<(dF V).length→A=dF m∧R=[]:=by
 have he':∀i,cf (dF N) i=F.fD (dF V) (cf m) i:=fun i=>by rw [fQ,he,F.IE V (dF V) _ _ fun j=>(fQ V j).symm]
 have hn:dF V≠[]:=by
  intro h0
  obtain ⟨c,hc,hc0⟩:=hx
  have hV0:∀i,cf V i=0:=fun i=>by rw [←fQ,h0,uZ]
  have hN0:∀i,cf N i=0:=fun i=>by rw [he,F.IE V [] _ _ fun j=>by rw [hV0,uZ]];simp [fD]
  rcases List.mem_append.1 hc with hc|hc
  ·exact hc0 (aso hV0 c hc)
  ·exact hc0 (aso hN0 c hc)
 exact ⟨hn,fun A R h hR=>h.uniq (sJ hVi) hn (qx V) hR hmi he'⟩
end FO
section
variable {f : TF3} (hf : aG f = true)
def OJ(pts w:List Nat)(k t:Nat)(m:List Nat):Prop:=m.length=k∧inL (FOf f hf) m∧rkN ((FOf f hf).MH pts w m)≤t
def ajP(t k g x:Nat):List Nat:=(FOf f hf).KF (t+1) x++(FOf f hf).KF (t+k) g
def Pd(t k:Nat)(pts w:List Nat):List (List Int):=(pts.zip w).map fun p=>aR (ajP hf t k p.1 p.2)
theorem TU(n:Nat){x:Nat}(hx:x<(FOf f hf).q):inL (FOf f hf) ((FOf f hf).KF n x):=by
 intro y hy
 obtain ⟨j,_,rfl⟩:=List.mem_map.1 hy
 exact (FOf f hf).KE j hx
theorem amj{t k:Nat}{pts w:List Nat}(hp:inL (FOf f hf) pts)(hw:inL (FOf f hf) w):GR f (2*t+1+k) (Pd hf t k pts w):=by
 intro r hr
 obtain ⟨p,hp',rfl⟩:=List.mem_map.1 hr
 have:=List.of_mem_zip (a:=p.1) (b:=p.2) hp'
 refine ⟨?_,apn hf (zu (TU hf _ (hw _ this.2)) (TU hf _ (hp _ this.1)))⟩
 rw [aN]
 unfold ajP
 rw [List.length_append,FO.Hz,FO.Hz]
 omega
theorem asN:∀{a b:List Nat},inL (FOf f hf) a→inL (FOf f hf) b→lJ f (aR a) (aR b)=(((FOf f hf).VW a b:Nat):Int)∧(FOf f hf).VW a b<(FOf f hf).q:=by
 intro a
 induction a with
 |nil=>intro b _ _;exact ⟨by simp [aR,lJ,FO.VW],by simp only [FO.VW];exact FO.zlt _⟩
 |cons x a ih=>
  intro b ha hb
  cases b with
  |nil=>exact ⟨by simp [aR,lJ,FO.VW],by simp only [FO.VW];exact FO.zlt _⟩
  |cons y b=>
   obtain ⟨h1,h2⟩:=ih (b:=b) (fun z hz=>ha z (List.mem_cons_of_mem _ hz)) (fun z hz=>hb z (List.mem_cons_of_mem _ hz))
   have hx:=ha x (List.mem_cons_self ..)
   have hy:=hb y (List.mem_cons_self ..)
   refine ⟨?_,(FOf f hf).xlt _ _ ((FOf f hf).lt _ _) h2⟩
   show iF .i64 (iL f (x:Int) (y:Int)) (lJ f (aR a) (aR b))=_
   rw [h1,ajH hf hx hy,OI hf ((FOf f hf).lt _ _) h2]
   rfl
theorem aq6{t k:Nat}{pts w:List Nat}(hp:inL (FOf f hf) pts)(hw:inL (FOf f hf) w){x:List Int}(h:aiG f (2*t+1+k) (Pd hf t k pts w) x) :
  ∃V N,x=aR (V++N)∧V.length=t+1∧N.length=t+k∧inL (FOf f hf) V∧inL (FOf f hf) N∧(∃c∈V++N,c≠0)∧∀p∈pts.zip w,(FOf f hf).lp V p.2=(FOf f hf).lp N p.1:=by
 obtain ⟨⟨hl,hin⟩,⟨q,hq⟩,ho⟩:=h
 obtain ⟨X,rfl,hX⟩:=adL hf hin
 rw [aN] at hl
 have hsp:X.take (t+1)++X.drop (t+1)=X:=List.take_append_drop _ _
 have h1:(X.take (t+1)).length=t+1:=by rw [List.length_take];omega
 have h2:(X.drop (t+1)).length=t+k:=by rw [List.length_drop];omega
 have hVi:inL (FOf f hf) (X.take (t+1)):=fun y hy=>hX y (List.mem_of_mem_take hy)
 have hNi:inL (FOf f hf) (X.drop (t+1)):=fun y hy=>hX y (List.mem_of_mem_drop hy)
 refine ⟨X.take (t+1),X.drop (t+1),by rw [hsp],h1,h2,hVi,hNi,?_,fun p hp'=>?_⟩
 ·rw [hsp]
  rw [List.getD_eq_getElem?_getD] at hq
  cases hx:(aR X)[q]? with
  |none=>rw [hx] at hq;exact absurd rfl hq
  |some y=>
   rw [hx] at hq
   obtain ⟨c,hc,rfl⟩:=List.mem_map.1 (List.mem_of_getElem? hx)
   exact ⟨c,hc,fun h0=>hq (by rw [h0];rfl)⟩
 ·have hz:=List.of_mem_zip (a:=p.1) (b:=p.2) hp'
  have hd:=ho _ (List.mem_map.2 ⟨p,hp',rfl⟩)
  have hri:inL (FOf f hf) (ajP hf t k p.1 p.2):=zu (TU hf _ (hw _ hz.2)) (TU hf _ (hp _ hz.1))
  rw [(asN hf hri hX).1] at hd
  have hd:(FOf f hf).VW (ajP hf t k p.1 p.2) X=0:=by omega
  rw [←hsp] at hd
  unfold ajP at hd
  rw [FO.akR _ _ _ _ _ (by rw [FO.Hz,h1])] at hd
  have e1:=(FOf f hf).aiX (X.take (t+1)) p.2
  have e2:=(FOf f hf).aiX (X.drop (t+1)) p.1
  rw [h1] at e1
  rw [h2] at e2
  rw [e1,e2] at hd
  calc (FOf f hf).lp (X.take (t+1)) p.2=((FOf f hf).lp (X.take (t+1)) p.2^^^(FOf f hf).lp (X.drop (t+1)) p.1)^^^(FOf f hf).lp (X.drop (t+1)) p.1:=by rw [Nat.xor_assoc,Nat.xor_self,Nat.xor_zero]
   _=(FOf f hf).lp (X.drop (t+1)) p.1:=by rw [hd,Nat.zero_xor]
theorem ao7{t k:Nat}{pts w V N m:List Nat}(hi:FO.oK pts)(hp:inL (FOf f hf) pts)(hw:inL (FOf f hf) w)(hl:w.length=pts.length)(hpl:pts.length≤1000)(hk:1≤k)(h2:2*t+k≤pts.length)(hm:OJ hf pts w k t m)
  (hV:V.length=t+1) (hN:N.length=t+k) (hVi:inL (FOf f hf) V) (hNi:inL (FOf f hf) N) (hx:∃c∈V++N,c≠0) (ho:∀p∈pts.zip w,(FOf f hf).lp V p.2=(FOf f hf).lp N p.1) :
  dF V≠[]∧∀A R,Ms (FOf f hf) (dF N) (dF V) A R→R.length<(dF V).length→A=dF m∧R=[]:=by
 obtain ⟨hm1,hm2,hm3⟩:=hm
 have hE:=GI hf ((FOf f hf).adF (pts:=pts) (m:=m) hw) (by rw [FO.QF _ hl];exact hpl)
 exact (FOf f hf).auQ hVi hm2 ((FOf f hf).asA hi hp hl hk hm1 hm2 hV hN hNi h2 hm3 (fun e he=>asP hE he) ho) hx
end
-- shared
def Ib (g:TF3×List Int×Int×Unit):Bool:=aG g.1&&(inR (g.2.1.length:Int) 1 5&&(nZ g.1 g.2.1&&(decide (((JV g.2.1).length:Int)=(g.2.1.length:Int))&&inR g.2.2.1 1 (g.2.1.length:Int))))
theorem ahQ{f:TF3}{c:List Int}(h:nZ f c=true):∀x∈c,inF f x:=by
 intro x hx
 have:=iR.1 (List.all_eq_true.1 h x hx)
 unfold Ee at this
 have h2:((2 ^ f.1.toNat:Nat):Int)=(2:Int) ^ f.1.toNat:=by rw [Int.natCast_pow];rfl
 exact ⟨this.1,by omega⟩
theorem aey{g:TF3×List Int×Int×Unit}(h:Ib g=true):∃(hf:aG g.1=true) (P:List Nat) (k:Nat),g=(g.1,aR P,(k:Int),())∧inL (FOf g.1 hf) P∧FO.oK P∧P.length≤5∧1≤k∧k≤P.length:=by
 unfold Ib at h
 simp only [Bool.and_eq_true,iR,decide_eq_true_eq] at h
 obtain ⟨hf,hl,he,hr,hk⟩:=h
 obtain ⟨P,hP,hPi⟩:=adL hf (ahQ he)
 have hlen:g.2.1.length=P.length:=by rw [hP,aN]
 refine ⟨hf,P,g.2.2.1.toNat,?_,hPi,?_,by omega,by omega,by omega⟩
 ·rw [←hP,show ((g.2.2.1.toNat:Nat):Int)=g.2.2.1 by omega]
 ·rw [hP,ap1,aN] at hr
  exact alC (GI hf hPi (by omega)) (by unfold rkN at hr;omega)
def XL (g:TF3×List Int×Int×Unit) (w:List Int):Int:=if Ib g=true then (if w.length=g.2.1.length∧nZ g.1 w=true then 0 else 2) else 1
-- shared
theorem aot{α:Type} [DecidableEq α] {l l':List α} (hl:l.Nodup) (hs:∀x∈l,x∈l') (hle:l'.length≤l.length):∀x∈l',x∈l:=by
 intro x hx
 refine Classical.byContradiction fun hn=>?_
 have:=YP (l:=x::l) (l':=l') (List.nodup_cons.2 ⟨hn,hl⟩) (fun y hy=>by
  rcases List.mem_cons.1 hy with rfl|hy
  ·exact hx
  ·exact hs y hy)
 simp only [List.length_cons] at this
 omega
def aov(m:Int×List Int×Unit):Bool:=inR m.1 1 10&&(decide (m.2.1.length≤10)&&m.2.1.all (inP m.1))
def abC (m:Int×List Int×Unit):Bool:=aov m&&decide (JV m.2.1=m.2.1)
theorem apW{m:Int×List Int×Unit}(h:aov m=true):∃(c:Nat) (ns:List Nat),m=((c:Int),up ns,())∧1≤c∧c≤10∧ns.length≤10∧∀n∈ns,n<2 ^ c:=by
 obtain ⟨a,xs,_⟩:=m
 simp only [aov,Bool.and_eq_true,iR,decide_eq_true_eq,List.all_eq_true] at h
 obtain ⟨⟨h1,h2⟩,h3,h4⟩:=h
 obtain ⟨c,rfl⟩:=Int.eq_ofNat_of_zero_le (show 0≤a by omega)
 have hc:c≤62:=by omega
 refine ⟨c,xs.map Int.toNat,?_,by omega,by omega,by simpa using h3,fun n hn=>?_⟩
 ·have:up (xs.map Int.toNat)=xs:=by
   unfold up
   rw [List.map_map]
   refine (List.map_congr_left fun x hx=>?_).trans (List.map_id xs)
   obtain ⟨n,rfl,_⟩:=apm hc (h4 x hx)
   simp
  rw [this]
 ·obtain ⟨x,hx,rfl⟩:=List.mem_map.1 hn
  obtain ⟨k,rfl,hk⟩:=apm hc (h4 x hx)
  simpa using hk
theorem aa3{c b:Nat}{ns:List Nat}(hc:c≤b)(hl:ns.length≤1048576)(hn:∀n∈ns,n<2 ^ c):Bp b (up ns)=true:=
 LD hl fun n h=>Nat.lt_of_lt_of_le (hn n h) (ajL hc)
theorem adT{m:Int×List Int×Unit}(h:abC m=true):∃(c:Nat) (ns:List Nat),m=((c:Int),up ns,())∧1≤c∧c≤10∧ns.length≤10∧(∀n∈ns,n<2 ^ c)∧iG ns ns:=by
 unfold abC at h
 rw [Bool.and_eq_true] at h
 obtain ⟨c,ns,rfl,h1,h2,h3,h4⟩:=apW h.1
 refine ⟨c,ns,rfl,h1,h2,h3,h4,?_⟩
 have he:=of_decide_eq_true h.2
 have hi:=ai0 (b:=62) (by omega) (aa3 (b:=62) (by omega) (by omega) h4)
 rw [up_toNat] at hi
 unfold JV at he
 rw [up_toNat] at he
 have:ech ns=ns:=by
  have:=congrArg (List.map Int.toNat) he
  rwa [up_toNat,up_toNat] at this
 rw [this] at hi
 exact hi
theorem YA{k:Nat}(h:k≤10):yu .i64 1 (k:Int)=((2 ^ k:Nat):Int):=by
 have:∀k:Nat,k<11→yu .i64 1 (k:Int)=((2 ^ k:Nat):Int):=by decide
 exact this k (by omega)
theorem arC{k:Nat}(h:k≤10):2 ^ k≤1024:=Nat.pow_le_pow_right (n:=2) (by decide) h
def eU (aQ:Int) (cZ:(Int×(Int×Unit))):(Int×aY×(List Int))→Tre ((Int×aY×(List Int)) ⊕ (aY×(List Int))):=fun s3=>
 .cond (decide (s3.1<aQ))
  (.mat (iO cZ) fun r1=>
  .mat (dn r1 s3.2.1) fun r2=>
  .ite ((s3.2.2.length+1)*8≤bE∧1≤8)<|
  .ret (.inl (aF .i64 (s3.1+1),r2.2,s3.2.2++([r2.1]))))
  (.ret (.inr (s3.2.1,s3.2.2)))
def xq (p0:(Int×(Int×Unit))) (p1:Int) (p2:aY):Tre (aY×(List Int)):=
 .mat (aO (eU p1 p0) (0,p2,[])) fun l3=>
 .cond (decide (p1>1))
  (.mat (jr 3 l3.1) fun r4=>
  .cond r4.1
   (.ite (0≤(0:Int)∧(0:Int)<(l3.2.length:Int))<|
   .mat (l3.2[0]?) fun x5=>
   .ite (0≤aF .i64 (p1-1)∧aF .i64 (p1-1)<(l3.2.length:Int))<|
   .mat (l3.2[(aF .i64 (p1-1)).toNat]?) fun _=>
   let v7:=l3.2.set ((aF .i64 (p1-1)).toNat) x5
   .ret (r4.2,v7))
   (.ret (r4.2,l3.2)))
  (.ret (l3.1,l3.2))
def nO (p0:(Int×(Int×Unit))) (p1:Int) (p2:aY):Option (aY×(List Int)):=(xq p0 p1 p2).run some
-- more
theorem ap4{f:TF3}(hf:aG f=true):iO f=some (Ee f+1):=by
 have h1:=iH hf
 have h2:=akg hf
 have h3:=aqb hf
 have h4:iO f=some (yu .i64 1 (aF .u64 f.1)):=by
  unfold iO TS
  rw [Tre.run_ite,if_pos (LB _)]
  rfl
 have h5:-9223372036854775808≤yu .i64 1 (aF .u64 f.1)-1∧yu .i64 1 (aF .u64 f.1)-1≤9223372036854775807:=by
  obtain ⟨n,hn⟩:=Int.eq_ofNat_of_zero_le (show 0≤f.1 by omega)
  rw [hn]
  have:∀n:Nat,n<6→-9223372036854775808≤yu .i64 1 (aF .u64 (n:Int))-1∧yu .i64 1 (aF .u64 (n:Int))-1≤9223372036854775807:=by decide
  exact this n (by omega)
 rw [dG h5.1 h5.2] at h2
 rw [h4]
 congr 1
 omega
theorem avl{f:TF3}{x:Int}(h0:0≤x)(h:x≤Ee f):inF f x:=by
 unfold Ee at h
 refine ⟨h0,?_⟩
 push_cast
 omega
theorem agM{f:TF3}(hf:aG f=true){M:Nat}(hM:M≤1000):∀(m i:Nat){c:Nat}{s:Src}{l:List Int},i+m=M→lg c s→c+2*m≤80000→l.length=i→(∀x∈l,inF f x) →
  ∃r,aO (eU (M:Int) f) ((i:Int),s,l)=some r∧(lg (c+2*m) r.1∧r.2.length=M∧∀x∈r.2,inF f x):=by
 intro m
 have ht:=aqb hf
 induction m with
 |zero=>
  intro i c s l hi hs _ hl ha
  have hi:i=M:=hi
  refine ⟨(s,l),dY ?_,hs,by show l.length=M;omega,ha⟩
  subst hi
  unfold eU
  rw [Tre.aB,decide_eq_false (by omega),cond_false,Tre.aI]
 |succ m ih=>
  intro i c s l hi hs hc hl ha
  obtain ⟨r,hr,⟨hr0,hr1⟩,hr2⟩:=zA (n:=Ee f+1) hs (by omega)
  have hstep:(eU (M:Int) f ((i:Int),s,l)).run some=some (.inl (((i+1:Nat):Int),r.2,l++[r.1])):=by
   unfold eU
   rw [Tre.aB,decide_eq_true (by show (i:Int)<(M:Int);omega),cond_true,ah (ap4 hf)]
   dsimp only
   rw [ah hr,Tre.run_ite,if_pos (by unfold bE;omega),Tre.aI,aU (by omega)]
  rw [gy hstep]
  obtain ⟨q,hq1,hq2,hq3⟩:=ih (i+1) (l:=l++[r.1]) (by omega) hr2 (by omega) (by simp;omega) (fun x hx=>by
   rcases List.mem_append.1 hx with hx|hx
   ·exact ha x hx
   ·simp only [List.mem_singleton] at hx;subst hx;exact avl hr0 (by omega))
  exact ⟨q,hq1,hq2.mono (by omega),hq3⟩
theorem akT{f:TF3}(hf:aG f=true){M:Nat}(h1:1≤M)(hM:M≤1000){c:Nat}{s:Src}(hs:lg c s)(hc:c+2*M≤70000):∃r,nO f (M:Int) s=some r∧(lg (c+2*M+2) r.1∧r.2.length=M∧∀x∈r.2,inF f x):=by
 obtain ⟨r,hr,h2,h3,h4⟩:=agM hf hM M 0 (l:=[]) (by omega) hs (by omega) rfl (fun x hx=>by cases hx)
 unfold nO xq
 have hr:aO (eU (M:Int) f) (0,s,[])=some r:=hr
 refine eX.run (eX.get hr (eX.ahN (fun hgt=>eX.mat (aow h2 (by omega)) fun b hb=>eX.cond (fun _=>eX.ite ⟨Int.le_refl _,by omega⟩ fun _=>eX.at0 (by omega) fun x hx=>?_) (fun _=>.ret ⟨hb,h3,h4⟩)) (fun _=>.ret ⟨h2.mono (by omega),h3,h4⟩)))
 have hw:aF .i64 ((M:Int)-1)=(M:Int)-1:=dG (by omega) (by omega)
 rw [hw]
 refine eX.ite (by omega) fun hi=>eX.at hi fun y hy=>.ret ⟨hb,by simp [h3],fun z hz=>?_⟩
 rcases List.mem_or_eq_of_mem_set hz with hz|rfl
 ·exact h4 z hz
 ·exact h4 _ hx
def nP:Env:=⟨tau,[(29,xZ),(22,fF),(36,oF)],[]⟩
def Du:Code:=(Try.f18.body).getD .skip
def vS (dQ:Bool) (aQ:Int) (cZ:(Int×(Int×Unit))):(Int×aY×(List Int))→St:=fun x=>bX [(0,(.ptr (0,0) [])),(2,(.i aQ)),(4,(.ptr (6,0) [])),(7,(.ref (9,0) [])),(8,(.i x.1))] [((0,0),some ⟨true,dz,(.imm dQ),x.2.1⟩),((6,0),some ⟨true,aL,.own,cZ⟩),((9,0),some ⟨false,.il,.own,x.2.2⟩)]
def uS (dQ:Bool) (aQ:Int) (_:(Int×(Int×Unit))):(aY×(List Int))→Ex×St:=fun x=>(.exit 0,bX [(0,(.ptr (0,0) [])),(2,(.i aQ)),(7,(.ref (9,0) []))] [((0,0),some ⟨true,dz,(.imm dQ),x.1⟩),((9,0),some ⟨false,.il,.own,x.2⟩)])
def L8 (s:St):Tre (Ex×St):=
 dH (0,0) [] (s.tmps 0)<|
 aA true .n (s.tmps 2) fun d3=>
 dH (6,0) [] (s.tmps 4)<|
 dW (9,0) [] (s.tmps 7)<|
 aA true .n (s.tmps 8) fun d7=>
 aX true dz (s.roots (0,0)) fun m9 d10=>
 fB m9 fun z11=>
 aX true aL (s.roots (6,0)) fun m13 d14=>
 asM .own m13<|
 aX false .il (s.roots (9,0)) fun m16 d17=>
 asM .own m16<|
 .mat (aO (eU d3 d14) (d7,d10,d17)) fun x=>.ret (uS z11 d3 d14 x)
def kW:bD:=⟨([0,2,4,7,8],[(0,0),(6,0),(9,0)]),([0,2,7],[(0,0),(9,0)]),L8⟩
def sW:List (Nat×bD):=[(3,kW)]
theorem G6:∀(dQ:Bool)(aQ:Int)(cZ:(Int×(Int×Unit)))(x:(Int×aY×(List Int)))(c:St→Option (Ex×St)),den nP sW (aV Du 0) (vS dQ aQ cZ x) (cu kW.kp kW.kx c)=(eU aQ cZ x).run (cB (vS dQ aQ cZ) (uS dQ aQ cZ) c):=fun _ _ _ _ _=>by
 kernel_rfl
theorem Kw:bU nP sW (aV Du 0) kW:=dh fun _ _ _=>fJ<|aH fun _=>fJ<|jk<|aH fun _=>bN fun _ _=>ku fun _=>bN fun _ _=>tM<|bN fun _ _=>tM<|fun h _ e15 _ e12 _ e8 e6 e5 e4 e2 e1=>bS (G6 _ _ _) h (by subst_vars;exact aP rfl rfl ⟨e1,e2,e4,e5,e6,trivial⟩ ⟨e8,e12,e15,trivial⟩)
def S9:FnI:=fnI Try.f18 sW
def zN (zp0:Bool) (_:(Int×(Int×Unit))) (_:Int) (_:aY):(aY×(List Int))→ay:=fun r=>⟨(.ref (1,0) []),[⟨true,dz,(.imm zp0),r.1⟩],[⟨false,.il,.own,r.2⟩]⟩
theorem Qm:∀(zp0:Bool)(p0:(Int×(Int×Unit)))(p1:Int)(p2:aY),bR nP S9 ⟨[(.ptr (0,0) []),(.imm true aL p0),(.i p1)],[⟨true,dz,(.imm zp0),p2⟩]⟩=(xq p0 p1 p2).run fun r=>some (zN zp0 p0 p1 p2 r):=fun _ _ _ _=>by kernel_rfl
def SY (av:List AV) (rs:List Root):Tre ay:=
 aD av fun a0_ av0=>
 aD av0 fun a1_ av1=>
 aD av1 fun a2_ av2=>
 aM av2<|
 aD rs fun r0_ rs0=>
 aM rs0<|
 dH (0,0) [] a0_<|
 aA true aL a1_ fun d1=>
 aA true .n a2_ fun d2=>
 yx true dz r0_ fun m3 d4=>
 fB m3 fun z5=>
 .mat (nO d1 d2 d4) fun r=>.ret (zN z5 d1 d2 d4 r)
def Dv:Ctr:=dO [] SY
theorem Qn:Contract Try.prog .none 18 Dv:=aC (V:=nP) aW (ak zM akZ (ak fO aep (ak sV asQ aJ))) Try.func18 (bL (n:=1) fun k hk=>by
 match k,hk with
 |0,_=>exact bO (id:=3) Kw) fun _ _ _=>aK fun _ _=>aK fun _ _=>aK fun _ _=>bA<|aK fun _ _=>bA<|fJ<|aH fun _=>aH fun _=>tRt fun _ _=>ku fun _=>fun h=>by intros;subst_vars;exact bB (Qm _ _ _ _) h
def ji (FH:(Int×(Int×Unit))) (FI:List Int):Int→Tre (Int ⊕ Int):=fun s6=>
 .mat (oM FI) fun r5=>
 .ite ((r5.length+1)*8≤bE∧1≤8)<|
 .mat (afH FH.1 (r5++([s6]))) fun r6=>
 .cond (decide (r6≤(FI.length:Int)))
  (.mat (iO FH) fun r7=>
  .ifn (aF .i64 (r7-1)=0)<|
  let v8:=Int.tmod s6 (aF .i64 (r7-1))
  .ret (.inl (aF .i64 (v8+1))))
  (.ret (.inr s6))
def kX (bT:Int) (FE:(Int×(Int×Unit))):(aY×(List Int))→Tre ((aY×(List Int)) ⊕ (aY×(List Int))):=fun s4=>
 .cond (decide ((s4.2.length:Int)<bT))
  (.mat (iO FE) fun r3=>
  .mat (dn (aF .i64 (r3-1)) s4.1) fun r4=>
  .mat (aO (ji FE s4.2) (aF .i64 (1+r4.1))) fun l9=>
  .ite ((s4.2.length+1)*8≤bE∧1≤8)<|
  .ret (.inl (r4.2,s4.2++([l9]))))
  (.ret (.inr (s4.1,s4.2)))
def G8 (p0:Int) (p1:aY):Tre ((Int×(Int×Unit))×(Int×Unit)×aY×(List Int)):=
 .mat (mR p0 p1) fun r1=>
 .mat (dn r1.1.1 r1.2) fun r2=>
 .mat (aO (kX (aF .i64 (1+r2.1)) r1.1) (r2.2,[])) fun l10=>
 .mat (dn (aF .i64 (1+r2.1)) l10.1) fun r11=>
 .ret (r1.1,(aF .i64 (1+r11.1),()),r11.2,l10.2)
def uF (p0:Int) (p1:aY):Option ((Int×(Int×Unit))×(Int×Unit)×aY×(List Int)):=(G8 p0 p1).run some
-- more
theorem Zx{f:TF3}(hf:aG f=true):iO f=some (((FOf f hf).q:Nat):Int):=by
 rw [ap4 hf]
 have h2:((2 ^ f.1.toNat:Nat):Int)=(2:Int) ^ f.1.toNat:=by rw [Int.natCast_pow];rfl
 unfold Ee
 rw [Iu,h2]
 congr 1
 omega
theorem asO{P E F:List Nat}{y:Nat}(hE:iG P E)(hF:iG (P++[y]) F)(hl:F.length≤E.length):Sp P y:=by
 obtain ⟨Q,c,hR,rfl,hs⟩:=hE
 obtain ⟨Q',c',hR',rfl,hs'⟩:=hF
 have hb:=aot (l':=lQ (Q'.map (·.2))) hR.nodup (fun x hx=>((hs' x).1 (((hs x).2 (OD hx)).trans fun r hr=>Sp.mem (List.mem_append_left _ hr))).sums) (by
  rw [xA,xA]
  exact Nat.pow_le_pow_right (by decide) hl)
 exact (hs y).2 (OD (hb y ((hs' y).1 (Sp.mem (List.mem_append_right _ (List.mem_singleton.2 rfl)))).sums))
theorem arE{f:TF3}(hf:aG f=true){P:List Nat}(hP:inL (FOf f hf) P)(hl:P.length<f.1.toNat)(hr:rkN P=P.length):∃y,1≤y∧y<(FOf f hf).q∧P.length<rkN (P++[y]):=by
 have h5:=(rA hf).2
 apply Classical.byContradiction
 intro hn
 have hall:∀y,y<(FOf f hf).q→Sp P y:=fun y hy=>by
  by_cases h0:y=0
  ·rw [h0];exact .zero
  ·have hle:¬P.length<rkN (P++[y]):=fun h=>hn ⟨y,by omega,hy,h⟩
   refine asO (GI hf hP (by omega)) (GI hf (zu hP fun x hx=>by rw [List.mem_singleton.1 hx];exact hy) (by rw [List.length_append];show P.length+1≤1000;omega)) ?_
   unfold rkN at hr hle
   omega
 have:=YP (l:=List.range (FOf f hf).q) (l':=lQ P) List.nodup_range fun x hx=>(hall x (List.mem_range.1 hx)).sums
 rw [List.length_range,xA,Iu] at this
 have:=(Nat.pow_le_pow_iff_right (a:=2) (by decide)).1 this
 omega
theorem amg{f:TF3}(hf:aG f=true){L:List Nat}(hL:inL (FOf f hf) L)(hl:L.length≤1000):afH f.1 (aR L)=some ((rkN L:Nat):Int):=by
 have hd:=iH hf
 unfold afH
 rw [kG (by rw [Bool.and_eq_true,iR];exact ⟨by omega,aju hf hL hl (Nat.le_refl _)⟩),ap1]
theorem aqC{f:TF3}(hf:aG f=true){P:List Nat}(hP:inL (FOf f hf) P)(hl:P.length≤5){y:Nat}(hy1:1≤y)(hy2:y<(FOf f hf).q)(hy:P.length<rkN (P++[y])):∀(d x:Nat),1≤x→x<(FOf f hf).q→(if x≤y then y-x else y+((FOf f hf).q-1)-x)=d →
  ∃z:Nat,aO (ji f (aR P)) (x:Int)=some (z:Int)∧1≤z∧z<(FOf f hf).q∧P.length<rkN (P++[z]):=by
 have hq:(FOf f hf).q≤32:=by rw [Iu];exact Nat.pow_le_pow_right (n:=2) (by decide) (rA hf).2
 intro d
 induction d with
 |zero=>
  intro x h1 h2 hd
  obtain rfl:x=y:=by split at hd<;>omega
  refine ⟨x,dY ?_,h1,h2,hy⟩
  have hr:=amg hf (L:=P++[x]) (zu hP fun z hz=>by rw [List.mem_singleton.1 hz];exact h2) (by rw [List.length_append];show P.length+1≤1000;omega)
  unfold ji
  rw [ah (show oM (aR P)=some (aR P) from NP (by rw [aN];omega)),Tre.run_ite,if_pos (by rw [aN];unfold bE;omega),show aR P++[(x:Int)]=aR (P++[x]) by rw [nK];rfl,ah hr,Tre.aB,decide_eq_false (by rw [aN];omega),cond_false,Tre.aI]
 |succ d ih=>
  intro x h1 h2 hd
  have hr:=amg hf (L:=P++[x]) (zu hP fun z hz=>by rw [List.mem_singleton.1 hz];exact h2) (by rw [List.length_append];show P.length+1≤1000;omega)
  by_cases hg:P.length<rkN (P++[x])
  ·refine ⟨x,dY ?_,h1,h2,hg⟩
   unfold ji
   rw [ah (show oM (aR P)=some (aR P) from NP (by rw [aN];omega)),Tre.run_ite,if_pos (by rw [aN];unfold bE;omega),show aR P++[(x:Int)]=aR (P++[x]) by rw [nK];rfl,ah hr,Tre.aB,decide_eq_false (by rw [aN];omega),cond_false,Tre.aI]
  ·have hxy:x≠y:=fun h=>hg (by rw [h];exact hy)
   have hw:aF .i64 ((((FOf f hf).q:Nat):Int)-1)=(((FOf f hf).q-1:Nat):Int):=by rw [dG (by omega) (by omega)];omega
   have ht:Int.tmod (x:Int) (((FOf f hf).q-1:Nat):Int)=((x%((FOf f hf).q-1):Nat):Int):=rfl
   have hm:x%((FOf f hf).q-1)=if x=(FOf f hf).q-1 then 0 else x:=by
    split
    ·rename_i h;rw [h,Nat.mod_self]
    ·exact Nat.mod_eq_of_lt (by omega)
   have hx':aF .i64 (((x%((FOf f hf).q-1):Nat):Int)+1)=((x%((FOf f hf).q-1)+1:Nat):Int):=aU (by rw [hm];split<;>omega)
   rw [gy (y:=((x%((FOf f hf).q-1)+1:Nat):Int)) (by
    unfold ji
    rw [ah (show oM (aR P)=some (aR P) from NP (by rw [aN];omega)),Tre.run_ite,if_pos (by rw [aN];unfold bE;omega),show aR P++[(x:Int)]=aR (P++[x]) by rw [nK];rfl,ah hr,Tre.aB,decide_eq_true (by rw [aN];omega),cond_true,ah (Zx hf),hw,Tre.Jy,if_neg (by omega)]
    dsimp only
    rw [Tre.aI,ht,hx'])]
   refine ih _ (by omega) (by rw [hm];split<;>omega) ?_
   rw [hm]
   by_cases hx:x=(FOf f hf).q-1
   ·rw [if_pos hx,if_pos (by omega)]
    rw [if_neg (by omega)] at hd
    omega
   ·rw [if_neg hx]
    split at hd
    ·rw [if_pos (by omega)];omega
    ·rw [if_neg (by omega)];omega
theorem akU{f:TF3}(hf:aG f=true){n:Nat}(hn:n≤f.1.toNat):∀(m:Nat){c:Nat}{s:Src}{P:List Nat},P.length+m=n→lg c s→c+2*m≤80000→inL (FOf f hf) P→rkN P=P.length →
  ∃r,aO (kX (n:Int) f) (s,aR P)=some r∧(lg (c+2*m) r.1∧∃P':List Nat,r.2=aR P'∧P'.length=n∧inL (FOf f hf) P'∧rkN P'=P'.length):=by
 have hq:(FOf f hf).q≤32:=by rw [Iu];exact Nat.pow_le_pow_right (n:=2) (by decide) (rA hf).2
 have hq2:=(FOf f hf).hq
 have h5:=(rA hf).2
 intro m
 induction m with
 |zero=>
  intro c s P hm hs _ hP hr
  refine ⟨(s,aR P),dY ?_,hs,P,rfl,by omega,hP,hr⟩
  unfold kX
  dsimp only
  rw [Tre.aB,decide_eq_false (by rw [aN];omega),cond_false,Tre.aI]
 |succ m ih=>
  intro c s P hm hs hc hP hr
  have hw:aF .i64 ((((FOf f hf).q:Nat):Int)-1)=(((FOf f hf).q-1:Nat):Int):=by rw [dG (by omega) (by omega)];omega
  obtain ⟨r,hr1,⟨hr2,hr3⟩,hr4⟩:=zA (n:=(((FOf f hf).q-1:Nat):Int)) hs (by omega)
  obtain ⟨a,ha⟩:∃a:Nat,r.1=(a:Int):=⟨r.1.toNat,by omega⟩
  have hw2:aF .i64 (1+r.1)=((a+1:Nat):Int):=by rw [ha,dG (by omega) (by omega)];omega
  obtain ⟨y,hy1,hy2,hy3⟩:=arE hf hP (by omega) hr
  obtain ⟨z,hz1,hz2,hz3,hz4⟩:=aqC hf hP (by omega) hy1 hy2 hy3 _ (a+1) (by omega) (by omega) rfl
  have hPz:inL (FOf f hf) (P++[z]):=zu hP fun x hx=>by rw [List.mem_singleton.1 hx];exact hz3
  rw [gy (y:=(r.2,aR (P++[z]))) (by
   unfold kX
   dsimp only
   rw [Tre.aB,decide_eq_true (by rw [aN];omega),cond_true,ah (Zx hf),hw,ah hr1,hw2,ah hz1,Tre.run_ite,if_pos (by rw [aN];unfold bE;omega),Tre.aI,nK]
   rfl)]
  have hle:=(GI hf hPz (by rw [List.length_append];show P.length+1≤1000;omega)).le
  have hlen:(P++[z]).length=P.length+1:=by rw [List.length_append];rfl
  obtain ⟨q,hq1,hq2,hq3⟩:=ih (P:=P++[z]) (by omega) hr4 (by omega) hPz (by unfold rkN at hz4 ⊢;omega)
  exact ⟨q,hq1,hq2.mono (by omega),hq3⟩
theorem anF{c:Nat}{s:Src}(hs:lg c s)(hc:c≤60000):∃r,uF 5 s=some r∧Ib (r.1,r.2.2.2,r.2.1)=true:=by
 unfold uF G8
 refine eX.run (eX.mat (aiZ (m:=5) (by omega) (by omega) hs (by omega)) fun a ha=>?_)
 obtain ⟨⟨hf,hd1,hd2⟩,hs1⟩:=ha
 refine eX.mat (zA hs1 (by omega)) fun b hb=>?_
 obtain ⟨n,hn⟩:∃n:Nat,aF .i64 (1+b.1)=(n:Int)∧1≤n∧n≤a.1.1.toNat:=⟨(1+b.1).toNat,by rw [dG (by omega) (by omega)];omega,by omega,by omega⟩
 obtain ⟨hn,hn1,hn2⟩:=hn
 have h5:=(rA hf).2
 rw [hn]
 refine eX.mat (akU hf hn2 n (P:=[]) (by simp) hb.2 (by omega) (fun x hx=>by cases hx) (by unfold rkN;rw [Z6 (E:=[]) ⟨[],0,⟨fun a h=>(by cases h),.nil⟩,rfl,fun v=>Iff.rfl⟩])) fun r hr=>?_
 obtain ⟨hr1,P,hP1,hP2,hP3,hP4⟩:=hr
 refine eX.mat (zA hr1 (by omega)) fun k hk=>.ret ?_
 have hkw:aF .i64 (1+k.1)=1+k.1:=dG (by omega) (by omega)
 show Ib (a.1,r.2,aF .i64 (1+k.1),())=true
 unfold Ib
 simp only [Bool.and_eq_true,iR,decide_eq_true_eq]
 rw [hP1,aN,ap1,hkw]
 refine ⟨hf,by omega,?_,by omega,by omega⟩
 refine List.all_eq_true.2 fun x hx=>?_
 obtain ⟨y,hy,rfl⟩:=List.mem_map.1 hx
 have hyq:=hP3 y hy
 have h2:((2 ^ a.1.1.toNat:Nat):Int)=(2:Int) ^ a.1.1.toNat:=by rw [Int.natCast_pow];rfl
 rw [Iu] at hyq
 rw [iR]
 unfold Ee
 omega
def mh:Env:=⟨tau,[(37,Ao),(22,fF),(29,xZ),(39,Xf),(38,SX)],[]⟩
def uG:Code:=(Try.f16.body).getD .skip
def Dx (abE:Bool) (u6:Int) (V3:aY) (qV:aS) (FH:(Int×(Int×Unit))) (FI:List Int):Int→St:=fun x=>bX [(0,(.ptr (0,0) [])),(4,(.ptr (6,0) [])),(5,(.ptr (7,0) [])),(6,(.i u6)),(7,(.ref (9,0) [])),(8,(.i x))] [((0,0),some ⟨true,dz,(.imm abE),V3⟩),((6,0),some ⟨true,bJ,.own,qV⟩),((7,0),some ⟨true,aL,.own,FH⟩),((9,0),some ⟨false,.il,.own,FI⟩)]
def Ar (abE:Bool) (u6:Int) (V3:aY) (qV:aS) (FH:(Int×(Int×Unit))) (FI:List Int):Int→Ex×St:=fun x=>(.exit 2,bX [(0,(.ptr (0,0) [])),(4,(.ptr (6,0) [])),(5,(.ptr (7,0) [])),(6,(.i u6)),(7,(.ref (9,0) [])),(8,(.i x))] [((0,0),some ⟨true,dz,(.imm abE),V3⟩),((6,0),some ⟨true,bJ,.own,qV⟩),((7,0),some ⟨true,aL,.own,FH⟩),((9,0),some ⟨false,.il,.own,FI⟩)])
def UN (s:St):Tre (Ex×St):=
 dH (0,0) [] (s.tmps 0)<|
 dH (6,0) [] (s.tmps 4)<|
 dH (7,0) [] (s.tmps 5)<|
 aA true .n (s.tmps 6) fun d5=>
 dW (9,0) [] (s.tmps 7)<|
 aA true .n (s.tmps 8) fun d8=>
 aX true dz (s.roots (0,0)) fun m10 d11=>
 fB m10 fun z12=>
 aX true bJ (s.roots (6,0)) fun m14 d15=>
 asM .own m14<|
 aX true aL (s.roots (7,0)) fun m17 d18=>
 asM .own m17<|
 aX false .il (s.roots (9,0)) fun m20 d21=>
 asM .own m20<|
 .mat (aO (ji d18 d21) d8) fun x=>.ret (Ar z12 d5 d11 d15 d18 d21 x)
def oI:bD:=⟨([0,4,5,6,7,8],[(0,0),(6,0),(7,0),(9,0)]),([0,4,5,6,7,8],[(0,0),(6,0),(7,0),(9,0)]),UN⟩
def Dw (nY:Bool) (bT:Int) (eP:aS) (FE:(Int×(Int×Unit))):(aY×(List Int))→St:=fun x=>bX [(0,(.ptr (0,0) [])),(4,(.ptr (6,0) [])),(5,(.ptr (7,0) [])),(6,(.i bT)),(7,(.ref (9,0) []))] [((0,0),some ⟨true,dz,(.imm nY),x.1⟩),((6,0),some ⟨true,bJ,.own,eP⟩),((7,0),some ⟨true,aL,.own,FE⟩),((9,0),some ⟨false,.il,.own,x.2⟩)]
def Aq (nY:Bool) (bT:Int) (eP:aS) (FE:(Int×(Int×Unit))):(aY×(List Int))→Ex×St:=fun x=>(.exit 0,bX [(0,(.ptr (0,0) [])),(4,(.ptr (6,0) [])),(5,(.ptr (7,0) [])),(6,(.i bT)),(7,(.ref (9,0) []))] [((0,0),some ⟨true,dz,(.imm nY),x.1⟩),((6,0),some ⟨true,bJ,.own,eP⟩),((7,0),some ⟨true,aL,.own,FE⟩),((9,0),some ⟨false,.il,.own,x.2⟩)])
def UM (s:St):Tre (Ex×St):=
 dH (0,0) [] (s.tmps 0)<|
 dH (6,0) [] (s.tmps 4)<|
 dH (7,0) [] (s.tmps 5)<|
 aA true .n (s.tmps 6) fun d5=>
 dW (9,0) [] (s.tmps 7)<|
 aX true dz (s.roots (0,0)) fun m8 d9=>
 fB m8 fun z10=>
 aX true bJ (s.roots (6,0)) fun m12 d13=>
 asM .own m12<|
 aX true aL (s.roots (7,0)) fun m15 d16=>
 asM .own m15<|
 aX false .il (s.roots (9,0)) fun m18 d19=>
 asM .own m18<|
 .mat (aO (kX d5 d16) (d9,d19)) fun x=>.ret (Aq z10 d5 d13 d16 x)
def oH:bD:=⟨([0,4,5,6,7],[(0,0),(6,0),(7,0),(9,0)]),([0,4,5,6,7],[(0,0),(6,0),(7,0),(9,0)]),UM⟩
def pE:List (Nat×bD):=[(6,oI),(4,oH)]
theorem Ot:∀(abE:Bool)(u6:Int)(V3:aY)(qV:aS)(FH:(Int×(Int×Unit)))(FI:List Int)(x:Int)(c:St→Option (Ex×St)),den mh pE (aV uG 1) (Dx abE u6 V3 qV FH FI x) (cu oI.kp oI.kx c)=(ji FH FI x).run (cB (Dx abE u6 V3 qV FH FI) (Ar abE u6 V3 qV FH FI) c):=fun _ _ _ _ _ _ _ _=>by
 kernel_rfl
theorem Tc:bU mh pE (aV uG 1) oI:=dh fun _ _ _=>fJ<|fJ<|fJ<|aH fun _=>jk<|aH fun _=>bN fun _ _=>ku fun _=>bN fun _ _=>tM<|bN fun _ _=>tM<|bN fun _ _=>tM<|fun h _ e19 _ e16 _ e13 _ e9 e7 e6 e4 e3 e2 e1=>bS (Ot _ _ _ _ _ _) h (by subst_vars;exact aP rfl rfl ⟨e1,e2,e3,e4,e6,e7,trivial⟩ ⟨e9,e13,e16,e19,trivial⟩)
theorem Oq:∀(nY:Bool)(bT:Int)(eP:aS)(FE:(Int×(Int×Unit)))(x:(aY×(List Int)))(c:St→Option (Ex×St)),den mh pE (aV uG 0) (Dw nY bT eP FE x) (cu oH.kp oH.kx c)=(kX bT FE x).run (cB (Dw nY bT eP FE) (Aq nY bT eP FE) c):=fun _ _ _ _ _ _=>by
 kernel_rfl
theorem Ta:bU mh pE (aV uG 0) oH:=dh fun _ _ _=>fJ<|fJ<|fJ<|aH fun _=>jk<|bN fun _ _=>ku fun _=>bN fun _ _=>tM<|bN fun _ _=>tM<|bN fun _ _=>tM<|fun h _ e17 _ e14 _ e11 _ e7 e6 e4 e3 e2 e1=>bS (Oq _ _ _ _) h (by subst_vars;exact aP rfl rfl ⟨e1,e2,e3,e4,e6,trivial⟩ ⟨e7,e11,e14,e17,trivial⟩)
def abu:FnI:=fnI Try.f16 pE
def G9 (zp0:Bool) (_:Int) (_:aY):((Int×(Int×Unit))×(Int×Unit)×aY×(List Int))→ay:=fun r=>⟨(.pair (.imm true aL r.1) (.pair (.ref (1,0) []) (.imm true (.pair .n .unit) r.2.1))),[⟨true,dz,(.imm zp0),r.2.2.1⟩],[⟨false,.il,.own,r.2.2.2⟩]⟩
theorem Zq:∀(zp0:Bool)(p0:Int)(p1:aY),bR mh abu ⟨[(.ptr (0,0) []),(.i p0)],[⟨true,dz,(.imm zp0),p1⟩]⟩=(G8 p0 p1).run fun r=>some (G9 zp0 p0 p1 r):=fun _ _ _=>by kernel_rfl
def abt (av:List AV) (rs:List Root):Tre ay:=
 aD av fun a0_ av0=>
 aD av0 fun a1_ av1=>
 aM av1<|
 aD rs fun r0_ rs0=>
 aM rs0<|
 dH (0,0) [] a0_<|
 aA true .n a1_ fun d1=>
 yx true dz r0_ fun m2 d3=>
 fB m2 fun z4=>
 .mat (uF d1 d3) fun r=>.ret (G9 z4 d1 d3 r)
def Mc:Ctr:=dO [] abt
theorem Zr:Contract Try.prog .none 16 Mc:=aC (V:=mh) aW (ak Ol ayl (ak fO aep (ak zM akZ (ak acn awl (ak Zp awk aJ))))) Try.func16 (bL (n:=2) fun k hk=>by
 match k,hk with
 |0,_=>exact bO (id:=4) Ta
 |1,_=>exact bO (id:=6) Tc) fun _ _ _=>aK fun _ _=>aK fun _ _=>bA<|aK fun _ _=>bA<|fJ<|aH fun _=>tRt fun _ _=>ku fun _=>fun h=>by intros;subst_vars;exact bB (Zq _ _ _) h
def Kq (p0:List Int) (p1:Int):Tre ((Int×(Int×Unit))×(Int×Unit)×(List Int)):=
 .mat (uF p1 (p0,(0,(0,())))) fun r1=>
 .ret (r1.1,r1.2.1,r1.2.2.2)
def wu (p0:List Int) (p1:Int):Option ((Int×(Int×Unit))×(Int×Unit)×(List Int)):=(Kq p0 p1).run some
-- more
theorem atN{code:List Int}(hl:code.length≤5000)(hc:∀x∈code,0≤x∧x≤255):∃r,wu code 5=some r∧Ib (r.1,r.2.2,r.2.1)=true:=by
 have h0:lg 0 (code,0,0,()):=⟨hl,hc,Int.le_refl _,Int.le_refl _⟩
 unfold wu Kq
 exact eX.run (eX.mat (anF h0 (by omega)) fun a ha=>.ret ha)
def Pf:Env:=⟨tau,[(17,sU),(16,Mc)],[]⟩
def adp:FnI:=fnI Try.f5 []
def JB (_:Bool) (_:List Int) (_:Int):((Int×(Int×Unit))×(Int×Unit)×(List Int))→ay:=fun r=>⟨(.pair (.imm true aL r.1) (.pair (.ref (1,0) []) (.imm true (.pair .n .unit) r.2.1))),[],[⟨false,.il,.own,r.2.2⟩]⟩
theorem abd:∀(zp0:Bool)(p0:List Int)(p1:Int),bR Pf adp ⟨[(.imm zp0 (.sl (.int .u8)) p0),(.i p1)],[]⟩=(Kq p0 p1).run fun r=>some (JB zp0 p0 p1 r):=fun _ _ _=>by kernel_rfl
def ado (av:List AV) (rs:List Root):Tre ay:=
 aD av fun a0_ av0=>
 aD av0 fun a1_ av1=>
 aM av1<|
 aM rs<|
 bG (.sl (.int .u8)) a0_ fun z2 d1=>
 aA true .n a1_ fun d3=>
 .mat (wu d1 d3) fun r=>.ret (JB z2 d1 d3 r)
def Pg:Ctr:=dO [] ado
theorem abe:Contract Try.prog .none 5 Pg:=aC (V:=Pf) aW (ak uy ahR (ak Zr ayd aJ)) Try.func5 bP fun _ _ _=>aK fun _ _=>aK fun _ _=>bA<|bA<|dM fun _ _=>aH fun _=>fun h=>by intros;subst_vars;exact bB (abd _ _ _) h
def afQ (p0:List Int) (p1:(Int×(Int×Unit))) (p2:Int):Tre (List Int):=
 .mat (nO p1 p2 (p0,(0,(0,())))) fun r1=>
 .ret r1.2
def Oc (p0:List Int) (p1:(Int×(Int×Unit))) (p2:Int):Option (List Int):=(afQ p0 p1 p2).run some
-- more
theorem arv{code:List Int}(hl:code.length≤5000)(hc:∀x∈code,0≤x∧x≤255){f:TF3}(hf:aG f=true){M:Nat}(h1:1≤M)(hM:M≤1000):∃r,Oc code f (M:Int)=some r∧(r.length=M∧∀x∈r,inF f x):=by
 have h0:lg 0 (code,0,0,()):=⟨hl,hc,Int.le_refl _,Int.le_refl _⟩
 unfold Oc afQ
 exact eX.run (eX.mat (akT hf h1 hM h0 (by omega)) fun a ha=>.ret ha.2)
def afR:Env:=⟨tau,[(17,sU),(18,Dv)],[]⟩
def aoC:FnI:=fnI Try.f6 []
def Zc (_:Bool) (_:List Int) (_:(Int×(Int×Unit))) (_:Int):(List Int)→ay:=fun r=>⟨(.ref (1,0) []),[],[⟨false,.il,.own,r⟩]⟩
theorem ams:∀(zp0:Bool)(p0:List Int)(p1:(Int×(Int×Unit)))(p2:Int),bR afR aoC ⟨[(.imm zp0 (.sl (.int .u8)) p0),(.imm true aL p1),(.i p2)],[]⟩=(afQ p0 p1 p2).run fun r=>some (Zc zp0 p0 p1 p2 r):=fun _ _ _ _=>by kernel_rfl
def aoB (av:List AV) (rs:List Root):Tre ay:=
 aD av fun a0_ av0=>
 aD av0 fun a1_ av1=>
 aD av1 fun a2_ av2=>
 aM av2<|
 aM rs<|
 bG (.sl (.int .u8)) a0_ fun z2 d1=>
 aA true aL a1_ fun d3=>
 aA true .n a2_ fun d4=>
 .mat (Oc d1 d3 d4) fun r=>.ret (Zc z2 d1 d3 d4 r)
def afS:Ctr:=dO [] aoB
theorem amt:Contract Try.prog .none 6 afS:=aC (V:=afR) aW (ak uy ahR (ak Qn aye aJ)) Try.func6 bP fun _ _ _=>aK fun _ _=>aK fun _ _=>aK fun _ _=>bA<|bA<|dM fun _ _=>aH fun _=>aH fun _=>fun h=>by intros;subst_vars;exact bB (ams _ _ _ _) h
def aj1 (p0:Int) (p1:Int) (p2:Int):Tre Bool:=
 .cond (decide (p0 ≥ p1))
  (.ret (decide (p0≤p2)))
  (.ret false)
def aiv (p0:Int) (p1:Int) (p2:Int):Option Bool:=(aj1 p0 p1 p2).run some
theorem aj2(n a b:Int):aiv n a b=some (inR n a b):=by
 unfold aiv aj1 inR
 by_cases h:a≤n
 ·simp [Tre.aB,Tre.aI,h]
 ·simp [Tre.aB,Tre.aI,h]
def aiw:Env:=⟨tau,[],[]⟩
def arQ:FnI:=fnI Try.f42 []
def acj (_:Int) (_:Int) (_:Int):Bool→ay:=fun r=>⟨(.imm true .bool r),[],[]⟩
theorem aoD:∀(p0 p1 p2:Int),bR aiw arQ ⟨[(.i p0),(.i p1),(.i p2)],[]⟩=(aj1 p0 p1 p2).run fun r=>some (acj p0 p1 p2 r):=fun _ _ _=>by kernel_rfl
def arP (av:List AV) (rs:List Root):Tre ay:=
 aD av fun a0_ av0=>
 aD av0 fun a1_ av1=>
 aD av1 fun a2_ av2=>
 aM av2<|
 aM rs<|
 aA true .n a0_ fun d1=>
 aA true .n a1_ fun d2=>
 aA true .n a2_ fun d3=>
 .ret (acj d1 d2 d3 (inR d1 d2 d3))
def LW:Ctr:=dO [] arP
theorem Od:Contract Try.prog .none 42 LW:=aC (V:=aiw) aW aJ Try.func42 bP fun _ _ _=>aK fun _ _=>aK fun _ _=>aK fun _ _=>bA<|bA<|aH fun _=>aH fun _=>aH fun _=>fun h=>by intros;subst_vars;exact Bw (aoD _ _ _) (aj2 _ _ _) h
def D7 (p0:Int):Tre Bool:=
 .cond (decide (p0>0))
  (.cond (decide (p0<64))
   (.mat (w9 p0) fun r1=>
   .ret r1)
   (.ret false))
  (.ret false)
def rO (p0:Int):Option Bool:=(D7 p0).run some
def Jz:Env:=⟨tau,[(84,xg)],[]⟩
def Y8:FnI:=fnI Try.f65 []
def Es (_:Int):Bool→ay:=fun r=>⟨(.imm true .bool r),[],[]⟩
theorem WY:∀(p0:Int),bR Jz Y8 ⟨[(.i p0)],[]⟩=(D7 p0).run fun r=>some (Es p0 r):=fun _=>by kernel_rfl
def Y7 (av:List AV) (rs:List Root):Tre ay:=
 aD av fun a0_ av0=>
 aM av0<|
 aM rs<|
 aA true .n a0_ fun d1=>
 .mat (rO d1) fun r=>.ret (Es d1 r)
def JA:Ctr:=dO [] Y7
theorem WZ:Contract Try.prog .none 65 JA:=aC (V:=Jz) aW (ak Eu aww aJ) Try.func65 bP fun _ _ _=>aK fun _ _=>bA<|bA<|aH fun _=>fun h=>by intros;subst_vars;exact bB (WY _) h
def adS (p0:(Int×(Int×Unit))):Tre Bool:=
 .cond (inR p0.1 1 5)
  (.mat (rO p0.2.1) fun r1=>
  .cond r1
   (.mat (nW p0.2.1) fun r2=>
   .ret (decide (r2=p0.1)))
   (.ret false))
  (.ret false)
def LY (p0:(Int×(Int×Unit))):Option Bool:=(adS p0).run some
-- more
theorem aoJ(f:Int×Int×Unit):LY f=some (aG f):=by
 refine ak2 ?_ ?_ (by kernel_rfl) f
 ·intro f h
  unfold LY adS
  rw [Tre.aB,h];rfl
 ·intro f h
  unfold LY adS
  rw [Tre.aB]
  have:rO f.2.1=some false:=by
   unfold rO D7
   rw [Tre.aB]
   by_cases h1:f.2.1>0
   ·rw [decide_eq_true h1,cond_true,Tre.aB,decide_eq_false (by omega)];rfl
   ·rw [decide_eq_false h1];rfl
  rw [ah this]
  cases inR f.1 1 5<;>rfl
def aix:Env:=⟨tau,[(42,LW),(65,JA),(66,BX)],[]⟩
def arS:FnI:=fnI Try.f40 []
def acs (_:(Int×(Int×Unit))):Bool→ay:=fun r=>⟨(.imm true .bool r),[],[]⟩
theorem aoI:∀(p0:(Int×(Int×Unit))),bR aix arS ⟨[(.imm true aL p0)],[]⟩=(adS p0).run fun r=>some (acs p0 r):=fun _=>by kernel_rfl
def arR (av:List AV) (rs:List Root):Tre ay:=
 aD av fun a0_ av0=>
 aM av0<|
 aM rs<|
 aA true aL a0_ fun d1=>
 .mat (LY d1) fun r=>.ret (acs d1 r)
def aiy:Ctr:=dO [] arR
theorem aoK:Contract Try.prog .none 40 aiy:=aC (V:=aix) aW (ak Od apc (ak WZ ayC (ak GN asR aJ))) Try.func40 bP fun _ _ _=>aK fun _ _=>bA<|bA<|aH fun _=>fun h=>by intros;subst_vars;exact bB (aoI _) h
def mg (bC:List Int) (dA:(Int×(Int×Unit))):Int→Tre (Int ⊕ (Bool ⊕ Unit)):=fun s2=>
 .cond (decide (s2<(bC.length:Int)))
  (.ite (0≤s2∧s2<(bC.length:Int))<|
  .mat (bC[s2.toNat]?) fun x1=>
  .mat (iO dA) fun r2=>
  let v3:=inR x1 0 (aF .i64 (r2-1))
  .cond (!v3)
   (.ret (.inr (.inl false)))
   (.ret (.inl (aF .i64 (s2+1)))))
  (.ret (.inr (.inr ())))
def Ky (p0:(Int×(Int×Unit))) (p1:List Int):Tre Bool:=
 .mat (aO (mg p1 p0) 0) fun l4=>
 .alt l4
  (fun a5=>
   .ret a5)
  (fun _=>
   .ret true)
def qC (p0:(Int×(Int×Unit))) (p1:List Int):Option Bool:=(Ky p0 p1).run some
-- more
theorem aj5{f:TF3}(hf:aG f=true):iO f=some (yu .i64 1 (aF .u64 f.1)):=by
 have:=iH hf
 unfold iO TS
 rw [Tre.run_ite,if_pos (LB _)]
 rfl
theorem L9{f:TF3}(hf:aG f=true)(c:List Int)(hc:c.length<4611686018427387904):qC f c=some (nZ f c):=by
 unfold qC Ky nZ
 rw [Tre.oC,ahD (xs:=c) (fun x=>inR x 0 (Ee f)) (.inl false) (.inr ())]
 ·generalize List.all _ _=z
  cases z<;>rfl
 ·intro i x hx
  have hi:i<c.length:=(List.getElem?_eq_some_iff.1 hx).1
  unfold mg
  rw [fU hx,ah (aj5 hf),akg hf]
  dsimp only
  rw [Tre.aB]
  cases inR x 0 (Ee f)
  ·rfl
  ·simp only [Bool.not_true,cond_false,cond_true,Tre.aI,aU (show i<4611686018427387904 by omega)]
 ·unfold mg
  exact eY
def wE:Env:=⟨tau,[(29,xZ),(42,LW)],[]⟩
def Pt:Code:=(Try.f20.body).getD .skip
def vD (kC:Bool) (bC:List Int) (dA:(Int×(Int×Unit))):Int→St:=fun x=>bX [(1,(.imm kC .il bC)),(2,(.ptr (4,0) [])),(5,(.i x))] [((4,0),some ⟨true,aL,.own,dA⟩)]
def nQ (_:Bool) (_:List Int) (_:(Int×(Int×Unit))):(Bool ⊕ Unit)→Ex×St
 |.inl x=>(.ret,bX [(4,(.imm true .bool x))] [])
 |.inr _=>(.exit 0,bX [(4,.dead)] [])
def G7 (s:St):Tre (Ex×St):=
 bG .il (s.tmps 1) fun z3 d2=>
 dH (4,0) [] (s.tmps 2)<|
 aA true .n (s.tmps 5) fun d6=>
 aX true aL (s.roots (4,0)) fun m8 d9=>
 asM .own m8<|
 .mat (aO (mg d2 d9) d6) fun x=>.alt x (fun a0=>.ret (nQ z3 d2 d9 (.inl a0))) (fun b0=>.ret (nQ z3 d2 d9 (.inr b0)))
def mH:bD:=⟨([1,2,5],[(4,0)]),([4],[]),G7⟩
def D8:List (Nat×bD):=[(2,mH)]
theorem Qo:∀(kC:Bool)(bC:List Int)(dA:(Int×(Int×Unit)))(x:Int)(c:St→Option (Ex×St)),den wE D8 (aV Pt 0) (vD kC bC dA x) (cu mH.kp mH.kx c)=(mg bC dA x).run (cB (vD kC bC dA) (nQ kC bC dA) c):=fun _ _ _ _ _=>by
 kernel_rfl
theorem UL:bU wE D8 (aV Pt 0) mH:=kS fun s e s' h=>by
 generalize hs:restrict mH.kp s=s1 at h
 have h:(G7 s1).run some=some (e,s'):=h
 obtain ⟨z3,d2,e1,h_0⟩:=iV h
 obtain ⟨e4,h_1⟩:=ad9 h_0
 obtain ⟨d6,e5,h_2⟩:=dJ h_1
 obtain ⟨m8,d9,e7,h_3⟩:=lT h_2
 obtain ⟨rfl,h_4⟩:=Ck h_3
 obtain ⟨y,hy,hz⟩:=mF h_4
 refine ⟨_,_,vD z3 d2 d9,nQ z3 d2 d9,mg d2 d9,d6,y,?_,hy,?_,Qo z3 d2 d9⟩
 ·subst hs;exact aP (T:=[(1,(.imm z3 .il d2)),(2,(.ptr (4,0) [])),(5,(.i d6))]) (U:=[((4,0),some ⟨true,aL,.own,d9⟩)]) rfl rfl ⟨e1,e4,e5,trivial⟩ ⟨e7,trivial⟩
 ·rcases y with x|x<;>exact Option.some.inj hz
def ady:FnI:=fnI Try.f20 D8
def JN (_:Bool) (_:(Int×(Int×Unit))) (_:List Int):Bool→ay:=fun r=>⟨(.imm true .bool r),[],[]⟩
theorem abq:∀(zp0:Bool)(p0:(Int×(Int×Unit)))(p1:List Int),bR wE ady ⟨[(.imm true aL p0),(.imm zp0 .il p1)],[]⟩=(Ky p0 p1).run fun r=>some (JN zp0 p0 p1 r):=fun _ _ _=>by kernel_rfl
def adx (av:List AV) (rs:List Root):Tre ay:=
 aD av fun a0_ av0=>
 aD av0 fun a1_ av1=>
 aM av1<|
 aM rs<|
 aA true aL a0_ fun d1=>
 bG .il a1_ fun z3 d2=>
 .mat (qC d1 d2) fun r=>.ret (JN z3 d1 d2 r)
def D9:Ctr:=dO [] adx
theorem Ma:Contract Try.prog .none 20 D9:=aC (V:=wE) aW (ak zM akZ (ak Od apc aJ)) Try.func20 (bL (n:=1) fun k hk=>by
 match k,hk with
 |0,_=>exact bO (id:=2) UL) fun _ _ _=>aK fun _ _=>aK fun _ _=>bA<|bA<|aH fun _=>dM fun _ _=>fun h=>by intros;subst_vars;exact bB (abq _ _ _) h
def abr (p0:(Int×(Int×Unit))) (p1:List Int):Tre Bool:=
 let v1:=inR (p1.length:Int) 1 5
 .cond v1
  (.mat (qC p0 p1) fun r2=>
  .ret r2)
  (.ret false)
def JO (p0:(Int×(Int×Unit))) (p1:List Int):Option Bool:=(abr p0 p1).run some
def acA:Env:=⟨tau,[(42,LW),(20,D9)],[]⟩
def amJ:FnI:=fnI Try.f41 []
def Vz (_:Bool) (_:(Int×(Int×Unit))) (_:List Int):Bool→ay:=fun r=>⟨(.imm true .bool r),[],[]⟩
theorem aj7:∀(zp0:Bool)(p0:(Int×(Int×Unit)))(p1:List Int),bR acA amJ ⟨[(.imm true aL p0),(.imm zp0 .il p1)],[]⟩=(abr p0 p1).run fun r=>some (Vz zp0 p0 p1 r):=fun _ _ _=>by kernel_rfl
def amI (av:List AV) (rs:List Root):Tre ay:=
 aD av fun a0_ av0=>
 aD av0 fun a1_ av1=>
 aM av1<|
 aM rs<|
 aA true aL a0_ fun d1=>
 bG .il a1_ fun z3 d2=>
 .mat (JO d1 d2) fun r=>.ret (Vz z3 d1 d2 r)
def acB:Ctr:=dO [] amI
theorem aj8:Contract Try.prog .none 41 acB:=aC (V:=acA) aW (ak Od apc (ak Ma awd aJ)) Try.func41 bP fun _ _ _=>aK fun _ _=>aK fun _ _=>bA<|bA<|aH fun _=>dM fun _ _=>fun h=>by intros;subst_vars;exact bB (aj7 _ _ _) h
def Ou (p0:aS):Tre Bool:=
 .mat (LY p0.1) fun r1=>
 .cond r1
  (.mat (JO p0.1 p0.2.1) fun r2=>
  .cond r2
   (.mat (afH p0.1.1 p0.2.1) fun r3=>
   .cond (decide (r3=(p0.2.1.length:Int)))
    (let v4:=inR p0.2.2.1 1 (p0.2.1.length:Int)
    .ret v4)
    (.ret false))
   (.ret false))
  (.ret false)
def zO (p0:aS):Option Bool:=(Ou p0).run some
def Td:Env:=⟨tau,[(40,aiy),(41,acB),(38,SX),(42,LW)],[]⟩
def agd:FnI:=fnI Try.f19 []
def Md (zp0:Bool) (p0:aS):Bool→ay:=fun r=>⟨(.imm true .bool r),[⟨true,bJ,(.imm zp0),p0⟩],[]⟩
theorem adz:∀(zp0:Bool)(p0:aS),bR Td agd ⟨[(.ptr (0,0) [])],[⟨true,bJ,(.imm zp0),p0⟩]⟩=(Ou p0).run fun r=>some (Md zp0 p0 r):=fun _ _=>by kernel_rfl
def agc (av:List AV) (rs:List Root):Tre ay:=
 aD av fun a0_ av0=>
 aM av0<|
 aD rs fun r0_ rs0=>
 aM rs0<|
 dH (0,0) [] a0_<|
 yx true bJ r0_ fun m1 d2=>
 fB m1 fun z3=>
 .mat (zO d2) fun r=>.ret (Md z3 d2 r)
def Te:Ctr:=dO [] agc
theorem adA:Contract Try.prog .none 19 Te:=aC (V:=Td) aW (ak aoK aym (ak aj8 ayn (ak Zp awk (ak Od apc aJ)))) Try.func19 bP fun _ _ _=>aK fun _ _=>bA<|aK fun _ _=>bA<|fJ<|tRt fun _ _=>ku fun _=>fun h=>by intros;subst_vars;exact bB (adz _ _) h
def SG (aQ:Int) (bq:Int) (dK:(Int×(Int×Unit))):(Int×Int)→Tre ((Int×Int) ⊕ Int):=fun s3=>
 .cond (decide (s3.2<dK.1))
  (.ite (0≤aF .u64 s3.2)<|
  let v1:=Kl .i64 bq (aF .u64 s3.2)
  .cond (decide (Gw .i64 v1 1=1))
   (.ite (0≤aF .u64 s3.2)<|
   let v2:=yu .i64 aQ (aF .u64 s3.2)
   .ret (.inl (iF .i64 s3.1 v2,aF .i64 (s3.2+1))))
   (.ret (.inl (s3.1,aF .i64 (s3.2+1)))))
  (.ret (.inr s3.1))
def amy (p0:(Int×(Int×Unit))) (p1:Int) (p2:Int):Tre Int:=
 .mat (aO (SG p1 p2 p0) (0,0)) fun l3=>
 .mat (SK l3 p0.2.1) fun r4=>
 .ret r4
def fG (p0:(Int×(Int×Unit))) (p1:Int) (p2:Int):Option Int:=(amy p0 p1 p2).run some
-- more
set_option maxRecDepth 100000
theorem axL:yA fG mulN 1 2=true:=by kernel_rfl
theorem axM:yA fG mulN 1 3=true:=by kernel_rfl
theorem axN:yA fG mulN 2 7=true:=by kernel_rfl
theorem avH:yA fG mulN 3 11=true:=by kernel_rfl
theorem avI:yA fG mulN 3 13=true:=by kernel_rfl
theorem avJ:yA fG mulN 4 19=true:=by kernel_rfl
theorem avK:yA fG mulN 4 25=true:=by kernel_rfl
theorem avL:yA fG mulN 4 31=true:=by kernel_rfl
theorem avM:yA fG mulN 5 37=true:=by kernel_rfl
theorem avN:yA fG mulN 5 41=true:=by kernel_rfl
theorem avO:yA fG mulN 5 47=true:=by kernel_rfl
theorem avP:yA fG mulN 5 55=true:=by kernel_rfl
theorem avQ:yA fG mulN 5 59=true:=by kernel_rfl
theorem avR:yA fG mulN 5 61=true:=by kernel_rfl
theorem avS{f:TF3}(hf:aG f=true){a b:Int}(ha:inF f a)(hb:inF f b):fG f a b=some (iL f a b):=by
 refine aut (fun q hq=>?_) hf ha hb
 simp only [iW,List.mem_cons,List.not_mem_nil,or_false] at hq
 rcases hq with rfl|rfl|rfl|rfl|rfl|rfl|rfl|rfl|rfl|rfl|rfl|rfl|rfl|rfl
 ·exact axL
 ·exact axM
 ·exact axN
 ·exact avH
 ·exact avI
 ·exact avJ
 ·exact avK
 ·exact avL
 ·exact avM
 ·exact avN
 ·exact avO
 ·exact avP
 ·exact avQ
 ·exact avR
def Og:Env:=⟨tau,[(85,SL)],[]⟩
def af0:Code:=(Try.f67.body).getD .skip
def SH (aQ:Int) (bq:Int) (dK:(Int×(Int×Unit))):(Int×Int)→St:=fun x=>bX [(1,(.i aQ)),(2,(.i bq)),(3,(.ptr (5,0) [])),(7,(.i x.1)),(8,(.i x.2))] [((5,0),some ⟨true,aL,.own,dK⟩)]
def Pm (_:Int) (_:Int) (dK:(Int×(Int×Unit))):Int→Ex×St:=fun x=>(.exit 0,bX [(3,(.ptr (5,0) [])),(7,(.i x))] [((5,0),some ⟨true,aL,.own,dK⟩)])
def ahq (s:St):Tre (Ex×St):=
 aA true .n (s.tmps 1) fun d2=>
 aA true .n (s.tmps 2) fun d4=>
 dH (5,0) [] (s.tmps 3)<|
 aA true .n (s.tmps 7) fun d7=>
 aA true .n (s.tmps 8) fun d9=>
 aX true aL (s.roots (5,0)) fun m11 d12=>
 asM .own m11<|
 .mat (aO (SG d2 d4 d12) (d7,d9)) fun x=>.ret (Pm d2 d4 d12 x)
def Cb:bD:=⟨([1,2,3,7,8],[(5,0)]),([3,7],[(5,0)]),ahq⟩
def Xi:List (Nat×bD):=[(3,Cb)]
theorem abn:∀(aQ bq:Int)(dK:(Int×(Int×Unit)))(x:(Int×Int))(c:St→Option (Ex×St)),den Og Xi (aV af0 0) (SH aQ bq dK x) (cu Cb.kp Cb.kx c)=(SG aQ bq dK x).run (cB (SH aQ bq dK) (Pm aQ bq dK) c):=fun _ _ _ _ _=>by
 kernel_rfl
theorem af2:bU Og Xi (aV af0 0) Cb:=dh fun _ _ _=>aH fun _=>aH fun _=>fJ<|aH fun _=>aH fun _=>bN fun _ _=>tM<|fun h _ e10 e8 e6 e5 e3 e1=>bS (abn _ _ _) h (by subst_vars;exact aP rfl rfl ⟨e1,e3,e5,e6,e8,trivial⟩ ⟨e10,trivial⟩)
def aoH:FnI:=fnI Try.f67 Xi
def Zg (_:(Int×(Int×Unit))) (_:Int) (_:Int):Int→ay:=fun r=>⟨(.i r),[],[]⟩
theorem amA:∀(p0:(Int×(Int×Unit)))(p1 p2:Int),bR Og aoH ⟨[(.imm true aL p0),(.i p1),(.i p2)],[]⟩=(amy p0 p1 p2).run fun r=>some (Zg p0 p1 p2 r):=fun _ _ _=>by kernel_rfl
def aoG (av:List AV) (rs:List Root):Tre ay:=
 aD av fun a0_ av0=>
 aD av0 fun a1_ av1=>
 aD av1 fun a2_ av2=>
 aM av2<|
 aM rs<|
 aA true aL a0_ fun d1=>
 aA true .n a1_ fun d2=>
 aA true .n a2_ fun d3=>
 .mat (fG d1 d2 d3) fun r=>.ret (Zg d1 d2 d3 r)
def Xj:Ctr:=dO [] aoG
theorem acr:Contract Try.prog .none 67 Xj:=aC (V:=Og) aW (ak Zi awx aJ) Try.func67 (bL (n:=1) fun k hk=>by
 match k,hk with
 |0,_=>exact bO (id:=3) af2) fun _ _ _=>aK fun _ _=>aK fun _ _=>aK fun _ _=>bA<|bA<|aH fun _=>aH fun _=>aH fun _=>fun h=>by intros;subst_vars;exact bB (amA _ _ _) h
def NG:(Int×Int×Int)→Tre ((Int×Int×Int) ⊕ Int):=fun s2=>
 .cond (decide (s2.2.1>0))
  (.cond (decide (Gw .i64 s2.2.1 1=1))
   (.ret (.inl (yu .i64 s2.1 1,Kl .i64 s2.2.1 1,iF .i64 s2.2.2 s2.1)))
   (.ret (.inl (yu .i64 s2.1 1,Kl .i64 s2.2.1 1,s2.2.2))))
  (.ret (.inr s2.2.2))
def ah2 (p0:Int) (p1:Int):Tre Int:=
 .mat (aO NG (p0,p1,0)) fun l1=>
 .ret l1
def abW (p0:Int) (p1:Int):Option Int:=(ah2 p0 p1).run some
def Jq:Env:=⟨tau,[],[]⟩
def abX:Code:=(Try.f81.body).getD .skip
def O6:(Int×Int×Int)→St:=fun x=>bX [(0,(.i x.1)),(1,(.i x.2.1)),(5,(.i x.2.2))] []
def Lu:Int→Ex×St:=fun x=>(.exit 0,bX [(5,(.i x))] [])
def aeV (s:St):Tre (Ex×St):=
 aA true .n (s.tmps 0) fun d2=>
 aA true .n (s.tmps 1) fun d4=>
 aA true .n (s.tmps 5) fun d6=>
 .mat (aO NG (d2,d4,d6)) fun x=>.ret (Lu x)
def zq:bD:=⟨([0,1,5],[]),([5],[]),aeV⟩
def RG:List (Nat×bD):=[(2,zq)]
theorem Ym:∀(x:(Int×Int×Int))(c:St→Option (Ex×St)),den Jq RG (aV abX 0) (O6 x) (cu zq.kp zq.kx c)=(NG x).run (cB (O6) (Lu) c):=fun _ _=>by
 kernel_rfl
theorem ac9:bU Jq RG (aV abX 0) zq:=dh fun _ _ _=>aH fun _=>aH fun _=>aH fun _=>fun h e5 e3 e1=>bS Ym h (by subst_vars;exact aP rfl rfl ⟨e1,e3,e5,trivial⟩ trivial)
def alk:FnI:=fnI Try.f81 RG
def Va (_:Int) (_:Int):Int→ay:=fun r=>⟨(.i r),[],[]⟩
theorem ajj:∀(p0 p1:Int),bR Jq alk ⟨[(.i p0),(.i p1)],[]⟩=(ah2 p0 p1).run fun r=>some (Va p0 p1 r):=fun _ _=>by kernel_rfl
def alj (av:List AV) (rs:List Root):Tre ay:=
 aD av fun a0_ av0=>
 aD av0 fun a1_ av1=>
 aM av1<|
 aM rs<|
 aA true .n a0_ fun d1=>
 aA true .n a1_ fun d2=>
 .mat (abW d1 d2) fun r=>.ret (Va d1 d2 r)
def abY:Ctr:=dO [] alj
theorem ajk:Contract Try.prog .none 81 abY:=aC (V:=Jq) aW aJ Try.func81 (bL (n:=1) fun k hk=>by
 match k,hk with
 |0,_=>exact bO (id:=2) ac9) fun _ _ _=>aK fun _ _=>aK fun _ _=>bA<|bA<|aH fun _=>aH fun _=>fun h=>by intros;subst_vars;exact bB (ajj _ _) h
def Ki:(Int×Int)→Tre ((Int×Int) ⊕ Int):=fun s2=>
 .cond (decide (s2.1>0))
  (.ret (.inl (Kl .i64 s2.1 1,aF .i64 (s2.2+1))))
  (.ret (.inr s2.2))
def aeK (p0:Int):Tre Int:=
 .mat (aO Ki (p0,-1)) fun l1=>
 .ret l1
def qb (p0:Int):Option Int:=(aeK p0).run some
def EM:Env:=⟨tau,[],[]⟩
def Yf:Code:=(Try.f98.body).getD .skip
def Lp:(Int×Int)→St:=fun x=>bX [(0,(.i x.1)),(3,(.i x.2))] []
def Jk:Int→Ex×St:=fun x=>(.exit 0,bX [(3,(.i x))] [])
def ac6 (s:St):Tre (Ex×St):=
 aA true .n (s.tmps 0) fun d2=>
 aA true .n (s.tmps 3) fun d4=>
 .mat (aO Ki (d2,d4)) fun x=>.ret (Jk x)
def wh:bD:=⟨([0,3],[]),([3],[]),ac6⟩
def ND:List (Nat×bD):=[(2,wh)]
theorem WE:∀(x:(Int×Int))(c:St→Option (Ex×St)),den EM ND (aV Yf 0) (Lp x) (cu wh.kp wh.kx c)=(Ki x).run (cB (Lp) (Jk) c):=fun _ _=>by
 kernel_rfl
theorem aaC:bU EM ND (aV Yf 0) wh:=dh fun _ _ _=>aH fun _=>aH fun _=>fun h e3 e1=>bS WE h (by subst_vars;exact aP rfl rfl ⟨e1,e3,trivial⟩ trivial)
def ajf:FnI:=fnI Try.f98 ND
def RD (_:Int):Int→ay:=fun r=>⟨(.i r),[],[]⟩
theorem agY:∀(p0:Int),bR EM ajf ⟨[(.i p0)],[]⟩=(aeK p0).run fun r=>some (RD p0 r):=fun _=>by kernel_rfl
def aje (av:List AV) (rs:List Root):Tre ay:=
 aD av fun a0_ av0=>
 aM av0<|
 aM rs<|
 aA true .n a0_ fun d1=>
 .mat (qb d1) fun r=>.ret (RD d1 r)
def EN:Ctr:=dO [] aje
theorem Kj:Contract Try.prog .none 98 EN:=aC (V:=EM) aW aJ Try.func98 (bL (n:=1) fun k hk=>by
 match k,hk with
 |0,_=>exact bO (id:=2) aaC) fun _ _ _=>aK fun _ _=>bA<|bA<|aH fun _=>fun h=>by intros;subst_vars;exact bB (agY _) h
def RH (bH:Int) (dA:Int):Int→Tre (Int ⊕ Int):=fun s2=>
 .mat (qb s2) fun r2=>
 .cond (decide (r2 ≥ dA))
  (.mat (qb s2) fun r3=>
  .ite (0≤aF .i64 (r3-dA))<|
  let v4:=yu .i64 bH (aF .i64 (r3-dA))
  .ret (.inl (iF .i64 s2 v4)))
  (.ret (.inr s2))
def alo (p0:Int) (p1:Int):Tre Int:=
 .mat (qb p1) fun r1=>
 .mat (aO (RH p1 r1) p0) fun l5=>
 .ret l5
def WK (p0:Int) (p1:Int):Option Int:=(alo p0 p1).run some
def NI:Env:=⟨tau,[(98,EN)],[]⟩
def aeZ:Code:=(Try.f80.body).getD .skip
def RI (bH:Int) (dA:Int):Int→St:=fun x=>bX [(0,(.i x)),(1,(.i bH)),(5,(.i dA))] []
def O7 (_:Int) (_:Int):Int→Ex×St:=fun x=>(.exit 0,bX [(0,(.i x))] [])
def agZ (s:St):Tre (Ex×St):=
 aA true .n (s.tmps 0) fun d2=>
 aA true .n (s.tmps 1) fun d4=>
 aA true .n (s.tmps 5) fun d6=>
 .mat (aO (RH d4 d6) d2) fun x=>.ret (O7 d4 d6 x)
def BN:bD:=⟨([0,1,5],[]),([0],[]),agZ⟩
def WJ:List (Nat×bD):=[(2,BN)]
theorem aaG:∀(bH dA x:Int)(c:St→Option (Ex×St)),den NI WJ (aV aeZ 0) (RI bH dA x) (cu BN.kp BN.kx c)=(RH bH dA x).run (cB (RI bH dA) (O7 bH dA) c):=fun _ _ _ _=>by
 kernel_rfl
theorem ae0:bU NI WJ (aV aeZ 0) BN:=dh fun _ _ _=>aH fun _=>aH fun _=>aH fun _=>fun h e5 e3 e1=>bS (aaG _ _) h (by subst_vars;exact aP rfl rfl ⟨e1,e3,e5,trivial⟩ trivial)
def an2:FnI:=fnI Try.f80 WJ
def Yo (_:Int) (_:Int):Int→ay:=fun r=>⟨(.i r),[],[]⟩
theorem alp:∀(p0 p1:Int),bR NI an2 ⟨[(.i p0),(.i p1)],[]⟩=(alo p0 p1).run fun r=>some (Yo p0 p1 r):=fun _ _=>by kernel_rfl
def an1 (av:List AV) (rs:List Root):Tre ay:=
 aD av fun a0_ av0=>
 aD av0 fun a1_ av1=>
 aM av1<|
 aM rs<|
 aA true .n a0_ fun d1=>
 aA true .n a1_ fun d2=>
 .mat (WK d1 d2) fun r=>.ret (Yo d1 d2 r)
def WL:Ctr:=dO [] an1
theorem abZ:Contract Try.prog .none 80 WL:=aC (V:=NI) aW (ak Kj asS aJ) Try.func80 (bL (n:=1) fun k hk=>by
 match k,hk with
 |0,_=>exact bO (id:=2) ae0) fun _ _ _=>aK fun _ _=>aK fun _ _=>bA<|bA<|aH fun _=>aH fun _=>fun h=>by intros;subst_vars;exact bB (alp _ _) h
def abR (p0:(Int×(Int×Unit))) (p1:Int) (p2:Int):Tre Int:=
 .mat (abW p1 p2) fun r1=>
 .mat (WK r1 p0.2.1) fun r2=>
 .ret r2
def bW (p0:(Int×(Int×Unit))) (p1:Int) (p2:Int):Option Int:=(abR p0 p1 p2).run some
-- more
set_option maxRecDepth 100000
theorem axg:yA bW mulN 1 2=true:=by kernel_rfl
theorem axh:yA bW mulN 1 3=true:=by kernel_rfl
theorem axi:yA bW mulN 2 7=true:=by kernel_rfl
theorem ava:yA bW mulN 3 11=true:=by kernel_rfl
theorem avb:yA bW mulN 3 13=true:=by kernel_rfl
theorem avc:yA bW mulN 4 19=true:=by kernel_rfl
theorem avd:yA bW mulN 4 25=true:=by kernel_rfl
theorem ave:yA bW mulN 4 31=true:=by kernel_rfl
theorem avf:yA bW mulN 5 37=true:=by kernel_rfl
theorem avg:yA bW mulN 5 41=true:=by kernel_rfl
theorem avh:yA bW mulN 5 47=true:=by kernel_rfl
theorem avi:yA bW mulN 5 55=true:=by kernel_rfl
theorem avj:yA bW mulN 5 59=true:=by kernel_rfl
theorem avk:yA bW mulN 5 61=true:=by kernel_rfl
theorem ajr{f:TF3}(hf:aG f=true){a b:Int}(ha:inF f a)(hb:inF f b):bW f a b=some (iL f a b):=by
 refine aut (fun q hq=>?_) hf ha hb
 simp only [iW,List.mem_cons,List.not_mem_nil,or_false] at hq
 rcases hq with rfl|rfl|rfl|rfl|rfl|rfl|rfl|rfl|rfl|rfl|rfl|rfl|rfl|rfl
 ·exact axg
 ·exact axh
 ·exact axi
 ·exact ava
 ·exact avb
 ·exact avc
 ·exact avd
 ·exact ave
 ·exact avf
 ·exact avg
 ·exact avh
 ·exact avi
 ·exact avj
 ·exact avk
def U3:Env:=⟨tau,[(81,abY),(80,WL)],[]⟩
def agW:FnI:=fnI Try.f60 []
def OQ (_:(Int×(Int×Unit))) (_:Int) (_:Int):Int→ay:=fun r=>⟨(.i r),[],[]⟩
theorem aeD:∀(p0:(Int×(Int×Unit)))(p1 p2:Int),bR U3 agW ⟨[(.imm true aL p0),(.i p1),(.i p2)],[]⟩=(abR p0 p1 p2).run fun r=>some (OQ p0 p1 p2 r):=fun _ _ _=>by kernel_rfl
def agV (av:List AV) (rs:List Root):Tre ay:=
 aD av fun a0_ av0=>
 aD av0 fun a1_ av1=>
 aD av1 fun a2_ av2=>
 aM av2<|
 aM rs<|
 aA true aL a0_ fun d1=>
 aA true .n a1_ fun d2=>
 aA true .n a2_ fun d3=>
 .mat (bW d1 d2 d3) fun r=>.ret (OQ d1 d2 d3 r)
def nT:Ctr:=dO [] agV
theorem oN:Contract Try.prog .none 60 nT:=aC (V:=U3) aW (ak ajk ayL (ak abZ awu aJ)) Try.func60 bP fun _ _ _=>aK fun _ _=>aK fun _ _=>aK fun _ _=>bA<|bA<|aH fun _=>aH fun _=>aH fun _=>fun h=>by intros;subst_vars;exact bB (aeD _ _ _) h
def kM (bH:Int) (bI:(Int×(Int×Unit))):(Int×Int)→Tre ((Int×Int) ⊕ Int):=fun s2=>
 .cond (decide (s2.2<bH))
  (.mat (bW bI s2.1 s2.1) fun r1=>
  .ret (.inl (r1,aF .i64 (s2.2+1))))
  (.ret (.inr s2.1))
def F5 (p0:(Int×(Int×Unit))) (p1:Int) (p2:Int):Tre Int:=
 .ifn (p0.1=0)<|
 .mat (aO (kM (Int.tmod p2 p0.1) p0) (p1,0)) fun l2=>
 .ret l2
def gG (p0:(Int×(Int×Unit))) (p1:Int) (p2:Int):Option Int:=(F5 p0 p1 p2).run some
-- more
theorem ajq{f:TF3}(hf:aG f=true){a b:Nat}(ha:a<(FOf f hf).q)(hb:b<(FOf f hf).q):bW f (a:Int) (b:Int)=some (((FOf f hf).mul a b:Nat):Int):=by
 rw [ajr hf ((Yw hf).2 ⟨a,rfl,ha⟩) ((Yw hf).2 ⟨b,rfl,hb⟩),ajH hf ha hb]
theorem axb{f:TF3}(hf:aG f=true):f.1=(f.1.toNat:Int)∧f.1≠0∧1≤f.1.toNat∧f.1.toNat≤5:=by
 have:=iH hf
 refine ⟨by omega,by omega,by omega,by omega⟩
theorem afd{f:TF3}(hf:aG f=true){x:Nat}(hx:x<(FOf f hf).q)(k:Nat):gG f (x:Int) (k:Int)=some (((FOf f hf).sqn k x:Nat):Int):=by
 obtain ⟨h1,h2,h3,h4⟩:=axb hf
 have hm:Int.tmod (k:Int) f.1=((k%f.1.toNat:Nat):Int):=by
  conv=>lhs;rw [h1]
  exact (Int.ofNat_tmod k f.1.toNat).symm
 have hml:k%f.1.toNat<f.1.toNat:=Nat.mod_lt _ (by omega)
 unfold gG F5
 rw [Tre.Jy,if_neg h2,hm,ah (show aO (kM ((k%f.1.toNat:Nat):Int) f) ((x:Int),0)=some (((FOf f hf).sqn k x:Nat):Int) from ?_),Tre.aI]
 refine dZ (fun i=>(((((FOf f hf).sqn i x:Nat):Int)),(i:Int))) (k%f.1.toNat) _ (fun i hi=>?_) ?_
 ·have hl:=(FOf f hf).KE i hx
  unfold kM
  dsimp only
  rw [Tre.aB,decide_eq_true (by omega),cond_true,ah (ajq hf hl hl),Tre.aI,aU (by omega),FO.amO]
  rfl
 ·unfold kM
  dsimp only
  rw [eY,Tre.aI,adU hf hx]
def tV:Env:=⟨tau,[(60,nT)],[]⟩
def K5:Code:=(Try.f52.body).getD .skip
def Cy (bH:Int) (bI:(Int×(Int×Unit))):(Int×Int)→St:=fun x=>bX [(1,(.i x.1)),(3,(.ptr (5,0) [])),(10,(.i bH)),(11,(.i x.2))] [((5,0),some ⟨true,aL,.own,bI⟩)]
def Ae (_:Int) (_:(Int×(Int×Unit))):Int→Ex×St:=fun x=>(.exit 0,bX [(1,(.i x))] [])
def Ue (s:St):Tre (Ex×St):=
 aA true .n (s.tmps 1) fun d2=>
 dH (5,0) [] (s.tmps 3)<|
 aA true .n (s.tmps 10) fun d5=>
 aA true .n (s.tmps 11) fun d7=>
 aX true aL (s.roots (5,0)) fun m9 d10=>
 asM .own m9<|
 .mat (aO (kM d5 d10) (d2,d7)) fun x=>.ret (Ae d5 d10 x)
def ow:bD:=⟨([1,3,10,11],[(5,0)]),([1],[]),Ue⟩
def A8:List (Nat×bD):=[(2,ow)]
theorem Ns:∀(bH:Int)(bI:(Int×(Int×Unit)))(x:(Int×Int))(c:St→Option (Ex×St)),den tV A8 (aV K5 0) (Cy bH bI x) (cu ow.kp ow.kx c)=(kM bH bI x).run (cB (Cy bH bI) (Ae bH bI) c):=fun _ _ _ _=>by
 kernel_rfl
theorem Rf:bU tV A8 (aV K5 0) ow:=dh fun _ _ _=>aH fun _=>fJ<|aH fun _=>aH fun _=>bN fun _ _=>tM<|fun h _ e8 e6 e4 e3 e1=>bS (Ns _ _) h (by subst_vars;exact aP rfl rfl ⟨e1,e3,e4,e6,trivial⟩ ⟨e8,trivial⟩)
def aar:FnI:=fnI Try.f52 A8
def F6 (_:(Int×(Int×Unit))) (_:Int) (_:Int):Int→ay:=fun r=>⟨(.i r),[],[]⟩
theorem X7:∀(p0:(Int×(Int×Unit)))(p1 p2:Int),bR tV aar ⟨[(.imm true aL p0),(.i p1),(.i p2)],[]⟩=(F5 p0 p1 p2).run fun r=>some (F6 p0 p1 p2 r):=fun _ _ _=>by kernel_rfl
def aaq (av:List AV) (rs:List Root):Tre ay:=
 aD av fun a0_ av0=>
 aD av0 fun a1_ av1=>
 aD av1 fun a2_ av2=>
 aM av2<|
 aM rs<|
 aA true aL a0_ fun d1=>
 aA true .n a1_ fun d2=>
 aA true .n a2_ fun d3=>
 .mat (gG d1 d2 d3) fun r=>.ret (F6 d1 d2 d3 r)
def lX:Ctr:=dO [] aaq
theorem nE:Contract Try.prog .none 52 lX:=aC (V:=tV) aW (ak oN ahS aJ) Try.func52 (bL (n:=1) fun k hk=>by
 match k,hk with
 |0,_=>exact bO (id:=2) Rf) fun _ _ _=>aK fun _ _=>aK fun _ _=>aK fun _ _=>bA<|bA<|aH fun _=>aH fun _=>aH fun _=>fun h=>by intros;subst_vars;exact bB (X7 _ _ _) h
def pq (dA:(Int×(Int×Unit))):(Int×Int)→Tre ((Int×Int) ⊕ Int):=fun s2=>
 .cond (decide (s2.2>0))
  (.mat (fG dA s2.1 s2.1) fun r1=>
  .ret (.inl (r1,aF .i64 (s2.2-1))))
  (.ret (.inr s2.1))
def SN (p0:(Int×(Int×Unit))) (p1:Int) (p2:Int):Tre Int:=
 .ifn (p0.1=0)<|
 .mat (aO (pq p0) (p1,Int.tmod p2 p0.1)) fun l2=>
 .ret l2
def Ce (p0:(Int×(Int×Unit))) (p1:Int) (p2:Int):Option Int:=(SN p0 p1 p2).run some
-- more
theorem auf{f:TF3}(hf:aG f=true){a b:Nat}(ha:a<(FOf f hf).q)(hb:b<(FOf f hf).q):fG f (a:Int) (b:Int)=some (((FOf f hf).mul a b:Nat):Int):=by
 rw [avS hf ((Yw hf).2 ⟨a,rfl,ha⟩) ((Yw hf).2 ⟨b,rfl,hb⟩),ajH hf ha hb]
theorem axQ{f:TF3}(hf:aG f=true){x:Nat}(hx:x<(FOf f hf).q)(k:Nat):Ce f (x:Int) (k:Int)=some (((FOf f hf).sqn k x:Nat):Int):=by
 obtain ⟨h1,h2,h3,h4⟩:=axb hf
 have hm:Int.tmod (k:Int) f.1=((k%f.1.toNat:Nat):Int):=by
  conv=>lhs;rw [h1]
  exact (Int.ofNat_tmod k f.1.toNat).symm
 have hml:k%f.1.toNat<f.1.toNat:=Nat.mod_lt _ (by omega)
 unfold Ce SN
 rw [Tre.Jy,if_neg h2,hm,ah (show aO (pq f) ((x:Int),((k%f.1.toNat:Nat):Int))=some (((FOf f hf).sqn k x:Nat):Int) from ?_),Tre.aI]
 refine dZ (fun i=>(((((FOf f hf).sqn i x:Nat):Int)),((k%f.1.toNat-i:Nat):Int))) (k%f.1.toNat) _ (fun i hi=>?_) ?_
 ·have hl:=(FOf f hf).KE i hx
  unfold pq
  dsimp only
  rw [Tre.aB,decide_eq_true (by omega),cond_true,ah (auf hf hl hl),Tre.aI,qd (by omega) (by omega),FO.amO,Nat.sub_sub]
  rfl
 ·unfold pq
  dsimp only
  rw [Nat.sub_self,Tre.aB,decide_eq_false (by omega),cond_false,Tre.aI,adU hf hx]
def Cg:Env:=⟨tau,[(67,Xj)],[]⟩
def Vw:Code:=(Try.f68.body).getD .skip
def JK (dA:(Int×(Int×Unit))):(Int×Int)→St:=fun x=>bX [(1,(.i x.1)),(2,(.i x.2)),(3,(.ptr (5,0) []))] [((5,0),some ⟨true,aL,.own,dA⟩)]
def GX (_:(Int×(Int×Unit))):Int→Ex×St:=fun x=>(.exit 0,bX [(1,(.i x))] [])
def abo (s:St):Tre (Ex×St):=
 aA true .n (s.tmps 1) fun d2=>
 aA true .n (s.tmps 2) fun d4=>
 dH (5,0) [] (s.tmps 3)<|
 aX true aL (s.roots (5,0)) fun m7 d8=>
 asM .own m7<|
 .mat (aO (pq d8) (d2,d4)) fun x=>.ret (GX d8 x)
def uE:bD:=⟨([1,2,3],[(5,0)]),([1],[]),abo⟩
def Kv:List (Nat×bD):=[(2,uE)]
theorem UG:∀(dA:(Int×(Int×Unit)))(x:(Int×Int))(c:St→Option (Ex×St)),den Cg Kv (aV Vw 0) (JK dA x) (cu uE.kp uE.kx c)=(pq dA x).run (cB (JK dA) (GX dA) c):=fun _ _ _=>by
 kernel_rfl
theorem Zj:bU Cg Kv (aV Vw 0) uE:=dh fun _ _ _=>aH fun _=>aH fun _=>fJ<|bN fun _ _=>tM<|fun h _ e6 e5 e3 e1=>bS (UG _) h (by subst_vars;exact aP rfl rfl ⟨e1,e3,e5,trivial⟩ ⟨e6,trivial⟩)
def ahs:FnI:=fnI Try.f68 Kv
def Pp (_:(Int×(Int×Unit))) (_:Int) (_:Int):Int→ay:=fun r=>⟨(.i r),[],[]⟩
theorem af4:∀(p0:(Int×(Int×Unit)))(p1 p2:Int),bR Cg ahs ⟨[(.imm true aL p0),(.i p1),(.i p2)],[]⟩=(SN p0 p1 p2).run fun r=>some (Pp p0 p1 p2 r):=fun _ _ _=>by kernel_rfl
def ahr (av:List AV) (rs:List Root):Tre ay:=
 aD av fun a0_ av0=>
 aD av0 fun a1_ av1=>
 aD av1 fun a2_ av2=>
 aM av2<|
 aM rs<|
 aA true aL a0_ fun d1=>
 aA true .n a1_ fun d2=>
 aA true .n a2_ fun d3=>
 .mat (Ce d1 d2 d3) fun r=>.ret (Pp d1 d2 d3 r)
def Vx:Ctr:=dO [] ahr
theorem af5:Contract Try.prog .none 68 Vx:=aC (V:=Cg) aW (ak acr awq aJ) Try.func68 (bL (n:=1) fun k hk=>by
 match k,hk with
 |0,_=>exact bO (id:=2) Zj) fun _ _ _=>aK fun _ _=>aK fun _ _=>aK fun _ _=>bA<|bA<|aH fun _=>aH fun _=>aH fun _=>fun h=>by intros;subst_vars;exact bB (af4 _ _ _) h
def lY (aQ:Int) (dx:List Int) (cZ:Int) (eZ:(Int×(Int×Unit))):(Int×Int)→Tre ((Int×Int) ⊕ Int):=fun s3=>
 .cond (decide (s3.2<cZ))
  (.ite (0≤s3.2∧s3.2<(dx.length:Int))<|
  .mat (dx[s3.2.toNat]?) fun x1=>
  .mat (gG eZ aQ s3.2) fun r2=>
  .mat (bW eZ x1 r2) fun r3=>
  .ret (.inl (iF .i64 s3.1 r3,aF .i64 (s3.2+1))))
  (.ret (.inr s3.1))
def J4 (p0:(Int×(Int×Unit))) (p1:List Int) (p2:Int):Tre Int:=
 .mat (aO (lY p2 p1 (p1.length:Int) p0) (0,0)) fun l4=>
 .ret l4
def qz (p0:(Int×(Int×Unit))) (p1:List Int) (p2:Int):Option Int:=(J4 p0 p1 p2).run some
-- more
theorem apw(F:FO):∀(p:List Nat)(c x:Nat),F.lp (p++[c]) x=F.lp p x^^^F.mul c (F.sqn p.length x):=by
 intro p
 induction p with
 |nil=>intro c x;simp [FO.lp,FO.sqn]
 |cons a p ih=>
  intro c x
  simp only [List.cons_append,FO.lp,List.length_cons,FO.sqn]
  rw [ih,Nat.xor_assoc]
theorem aib{f:TF3}(hf:aG f=true){P:List Nat}(hP:inL (FOf f hf) P)(hl:P.length≤1000){x:Nat}(hx:x<(FOf f hf).q):qz f (aR P) (x:Int)=some (((FOf f hf).lp P x:Nat):Int):=by
 unfold qz J4
 rw [ah (show aO (lY (x:Int) (aR P) ((aR P).length:Int) f) (0,0)=some (((FOf f hf).lp P x:Nat):Int) from ?_),Tre.aI]
 refine dZ (fun i=>((((FOf f hf).lp (P.take i) x:Nat):Int),(i:Int))) P.length _ (fun i hi=>?_) ?_
 ·have hs:=(FOf f hf).KE i hx
  have hti:(P.take i).length=i:=by rw [List.length_take];omega
  unfold lY
  dsimp only
  rw [fU (fT (jH hi)),ah (afd hf hx i),ah (ajq hf (vH hP i) hs),Tre.aI,aU (by omega),OI hf ((FOf f hf).YI _ _) ((FOf f hf).lt _ _),List.take_add_one,jH hi,Option.toList_some,apw,hti]
 ·unfold lY
  dsimp only
  rw [aN,eY,Tre.aI,List.take_length]
def vY:Env:=⟨tau,[(52,lX),(60,nT)],[]⟩
def OW:Code:=(Try.f57.body).getD .skip
def Ej (dQ:Bool) (aQ:Int) (dx:List Int) (cZ:Int) (eZ:(Int×(Int×Unit))):(Int×Int)→St:=fun x=>bX [(2,(.i aQ)),(3,(.ptr (5,0) [])),(7,(.i x.1)),(10,(.imm dQ .il dx)),(11,(.i cZ)),(12,(.i x.2))] [((5,0),some ⟨true,aL,.own,eZ⟩)]
def Cz (_:Bool) (_:Int) (_:List Int) (_:Int) (_:(Int×(Int×Unit))):Int→Ex×St:=fun x=>(.exit 0,bX [(7,(.i x))] [])
def Wn (s:St):Tre (Ex×St):=
 aA true .n (s.tmps 2) fun d2=>
 dH (5,0) [] (s.tmps 3)<|
 aA true .n (s.tmps 7) fun d5=>
 bG .il (s.tmps 10) fun z8 d7=>
 aA true .n (s.tmps 11) fun d10=>
 aA true .n (s.tmps 12) fun d12=>
 aX true aL (s.roots (5,0)) fun m14 d15=>
 asM .own m14<|
 .mat (aO (lY d2 d7 d10 d15) (d5,d12)) fun x=>.ret (Cz z8 d2 d7 d10 d15 x)
def pV:bD:=⟨([2,3,7,10,11,12],[(5,0)]),([7],[]),Wn⟩
def DT:List (Nat×bD):=[(3,pV)]
theorem PN:∀(dQ:Bool)(aQ:Int)(dx:List Int)(cZ:Int)(eZ:(Int×(Int×Unit)))(x:(Int×Int))(c:St→Option (Ex×St)),den vY DT (aV OW 0) (Ej dQ aQ dx cZ eZ x) (cu pV.kp pV.kx c)=(lY aQ dx cZ eZ x).run (cB (Ej dQ aQ dx cZ eZ) (Cz dQ aQ dx cZ eZ) c):=fun _ _ _ _ _ _ _=>by
 kernel_rfl
theorem Uf:bU vY DT (aV OW 0) pV:=dh fun _ _ _=>aH fun _=>fJ<|aH fun _=>dM fun _ _=>aH fun _=>aH fun _=>bN fun _ _=>tM<|fun h _ e13 e11 e9 e6 e4 e3 e1=>bS (PN _ _ _ _ _) h (by subst_vars;exact aP rfl rfl ⟨e1,e3,e4,e6,e9,e11,trivial⟩ ⟨e13,trivial⟩)
def acV:FnI:=fnI Try.f57 DT
def Jc (_:Bool) (_:(Int×(Int×Unit))) (_:List Int) (_:Int):Int→ay:=fun r=>⟨(.i r),[],[]⟩
theorem aas:∀(zp0:Bool)(p0:(Int×(Int×Unit)))(p1:List Int)(p2:Int),bR vY acV ⟨[(.imm true aL p0),(.imm zp0 .il p1),(.i p2)],[]⟩=(J4 p0 p1 p2).run fun r=>some (Jc zp0 p0 p1 p2 r):=fun _ _ _ _=>by kernel_rfl
def acU (av:List AV) (rs:List Root):Tre ay:=
 aD av fun a0_ av0=>
 aD av0 fun a1_ av1=>
 aD av1 fun a2_ av2=>
 aM av2<|
 aM rs<|
 aA true aL a0_ fun d1=>
 bG .il a1_ fun z3 d2=>
 aA true .n a2_ fun d4=>
 .mat (qz d1 d2 d4) fun r=>.ret (Jc z3 d1 d2 d4 r)
def DU:Ctr:=dO [] acU
theorem K6:Contract Try.prog .none 57 DU:=aC (V:=vY) aW (ak nE ak1 (ak oN ahS aJ)) Try.func57 (bL (n:=1) fun k hk=>by
 match k,hk with
 |0,_=>exact bO (id:=3) Uf) fun _ _ _=>aK fun _ _=>aK fun _ _=>aK fun _ _=>bA<|bA<|aH fun _=>dM fun _ _=>aH fun _=>fun h=>by intros;subst_vars;exact bB (aas _ _ _ _) h
def qO (aQ:List Int) (bq:Int) (dK:(Int×(Int×Unit))):(Int×Int)→Tre ((Int×Int) ⊕ Int):=fun s3=>
 .cond (decide (s3.2<(aQ.length:Int)))
  (.ite (0≤s3.2∧s3.2<(aQ.length:Int))<|
  .mat (aQ[s3.2.toNat]?) fun x1=>
  .mat (Ce dK bq s3.2) fun r2=>
  .mat (fG dK x1 r2) fun r3=>
  .ret (.inl (iF .i64 s3.1 r3,aF .i64 (s3.2+1))))
  (.ret (.inr s3.1))
def Xp (p0:(Int×(Int×Unit))) (p1:List Int) (p2:Int):Tre Int:=
 .mat (aO (qO p1 p2 p0) (0,0)) fun l4=>
 .ret l4
def EY (p0:(Int×(Int×Unit))) (p1:List Int) (p2:Int):Option Int:=(Xp p0 p1 p2).run some
-- more
theorem arZ{f:TF3}(hf:aG f=true){P:List Nat}(hP:inL (FOf f hf) P)(hl:P.length≤1000){x:Nat}(hx:x<(FOf f hf).q):EY f (aR P) (x:Int)=some (((FOf f hf).lp P x:Nat):Int):=by
 unfold EY Xp
 rw [ah (show aO (qO (aR P) (x:Int) f) (0,0)=some (((FOf f hf).lp P x:Nat):Int) from ?_),Tre.aI]
 refine dZ (fun i=>((((FOf f hf).lp (P.take i) x:Nat):Int),(i:Int))) P.length _ (fun i hi=>?_) ?_
 ·have hs:=(FOf f hf).KE i hx
  have hti:(P.take i).length=i:=by rw [List.length_take];omega
  unfold qO
  dsimp only
  rw [fU (fT (jH hi)),ah (axQ hf hx i),ah (auf hf (vH hP i) hs),Tre.aI,aU (by omega),OI hf ((FOf f hf).YI _ _) ((FOf f hf).lt _ _),List.take_add_one,jH hi,Option.toList_some,apw,hti]
 ·unfold qO
  dsimp only
  rw [aN,eY,Tre.aI,List.take_length]
def EZ:Env:=⟨tau,[(68,Vx),(67,Xj)],[]⟩
def Zt:Code:=(Try.f43.body).getD .skip
def Me (dQ:Bool) (aQ:List Int) (bq:Int) (dK:(Int×(Int×Unit))):(Int×Int)→St:=fun x=>bX [(1,(.imm dQ .il aQ)),(2,(.i bq)),(3,(.ptr (5,0) [])),(7,(.i x.1)),(8,(.i x.2))] [((5,0),some ⟨true,aL,.own,dK⟩)]
def JQ (_:Bool) (_:List Int) (_:Int) (_:(Int×(Int×Unit))):Int→Ex×St:=fun x=>(.exit 0,bX [(7,(.i x))] [])
def adB (s:St):Tre (Ex×St):=
 bG .il (s.tmps 1) fun z3 d2=>
 aA true .n (s.tmps 2) fun d5=>
 dH (5,0) [] (s.tmps 3)<|
 aA true .n (s.tmps 7) fun d8=>
 aA true .n (s.tmps 8) fun d10=>
 aX true aL (s.roots (5,0)) fun m12 d13=>
 asM .own m12<|
 .mat (aO (qO d2 d5 d13) (d8,d10)) fun x=>.ret (JQ z3 d2 d5 d13 x)
def wF:bD:=⟨([1,2,3,7,8],[(5,0)]),([7],[]),adB⟩
def Ov:List (Nat×bD):=[(3,wF)]
theorem Xq:∀(dQ:Bool)(aQ:List Int)(bq:Int)(dK:(Int×(Int×Unit)))(x:(Int×Int))(c:St→Option (Ex×St)),den EZ Ov (aV Zt 0) (Me dQ aQ bq dK x) (cu wF.kp wF.kx c)=(qO aQ bq dK x).run (cB (Me dQ aQ bq dK) (JQ dQ aQ bq dK) c):=fun _ _ _ _ _ _=>by
 kernel_rfl
theorem abv:bU EZ Ov (aV Zt 0) wF:=dh fun _ _ _=>dM fun _ _=>aH fun _=>fJ<|aH fun _=>aH fun _=>bN fun _ _=>tM<|fun h _ e11 e9 e7 e6 e4 e1=>bS (Xq _ _ _ _) h (by subst_vars;exact aP rfl rfl ⟨e1,e4,e6,e7,e9,trivial⟩ ⟨e11,trivial⟩)
def akb:FnI:=fnI Try.f43 Ov
def Tf (_:Bool) (_:(Int×(Int×Unit))) (_:List Int) (_:Int):Int→ay:=fun r=>⟨(.i r),[],[]⟩
theorem ahu:∀(zp0:Bool)(p0:(Int×(Int×Unit)))(p1:List Int)(p2:Int),bR EZ akb ⟨[(.imm true aL p0),(.imm zp0 .il p1),(.i p2)],[]⟩=(Xp p0 p1 p2).run fun r=>some (Tf zp0 p0 p1 p2 r):=fun _ _ _ _=>by kernel_rfl
def aj9 (av:List AV) (rs:List Root):Tre ay:=
 aD av fun a0_ av0=>
 aD av0 fun a1_ av1=>
 aD av1 fun a2_ av2=>
 aM av2<|
 aM rs<|
 aA true aL a0_ fun d1=>
 bG .il a1_ fun z3 d2=>
 aA true .n a2_ fun d4=>
 .mat (EY d1 d2 d4) fun r=>.ret (Tf z3 d1 d2 d4 r)
def Zu:Ctr:=dO [] aj9
theorem ahv:Contract Try.prog .none 43 Zu:=aC (V:=EZ) aW (ak af5 ayD (ak acr awq aJ)) Try.func43 (bL (n:=1) fun k hk=>by
 match k,hk with
 |0,_=>exact bO (id:=3) abv) fun _ _ _=>aK fun _ _=>aK fun _ _=>aK fun _ _=>bA<|bA<|aH fun _=>dM fun _ _=>aH fun _=>fun h=>by intros;subst_vars;exact bB (ahu _ _ _ _) h
def kY (aQ:aS) (bq:List Int):(Int×(List Int))→Tre ((Int×(List Int)) ⊕ (List Int)):=fun s3=>
 .cond (decide (s3.1<(aQ.2.1.length:Int)))
  (.ite (0≤s3.1∧s3.1<(aQ.2.1.length:Int))<|
  .mat (aQ.2.1[s3.1.toNat]?) fun x1=>
  .mat (EY aQ.1 bq x1) fun r2=>
  .ite ((s3.2.length+1)*8≤bE∧1≤8)<|
  .ret (.inl (aF .i64 (s3.1+1),s3.2++([r2]))))
  (.ret (.inr s3.2))
def He (p0:aS) (p1:List Int):Tre (List Int):=
 .mat (aO (kY p0 p1) (0,[])) fun l3=>
 .ret l3
def uH (p0:aS) (p1:List Int):Option (List Int):=(He p0 p1).run some
-- more
theorem aun{f:TF3}(hf:aG f=true){P X:List Nat}(hP:inL (FOf f hf) P)(hl:P.length≤1000)(hX:inL (FOf f hf) X)(hXl:X.length≤1000)(k:Int):uH (f,aR X,k,()) (aR P)=some (aR (X.map ((FOf f hf).lp P))):=by
 unfold uH He
 rw [ah (show aO (kY (f,aR X,k,()) (aR P)) (0,[])=some (aR (X.map ((FOf f hf).lp P))) from ?_),Tre.aI]
 refine dZ (fun i=>((i:Int),aR ((X.take i).map ((FOf f hf).lp P)))) X.length _ (fun i hi=>?_) ?_
 ·unfold kY
  dsimp only
  rw [fU (fT (jH hi)),ah (arZ hf hP hl (vH hX i)),Tre.run_ite,if_pos (by rw [aN,List.length_map,List.length_take];unfold bE;omega),Tre.aI,aU (by omega),List.take_add_one,jH hi,Option.toList_some,List.map_append,nK]
  rfl
 ·unfold kY
  dsimp only
  rw [aN,eY,Tre.aI,List.take_length]
def uI:Env:=⟨tau,[(43,Zu)],[]⟩
def Mf:Code:=(Try.f21.body).getD .skip
def Dy (dQ:Bool) (HY:Bool) (aQ:aS) (bq:List Int):(Int×(List Int))→St:=fun x=>bX [(0,(.iptr dQ (.sl bJ) ([aQ]) [.idx 0])),(1,(.imm HY .il bq)),(5,(.ref (7,0) [])),(6,(.i x.1))] [((7,0),some ⟨false,.il,.own,x.2⟩)]
def Au (_:Bool) (_:Bool) (_:aS) (_:List Int):(List Int)→Ex×St:=fun x=>(.exit 0,bX [(5,(.ref (7,0) []))] [((7,0),some ⟨false,.il,.own,x⟩)])
def UO (s:St):Tre (Ex×St):=
 ad8 bJ (s.tmps 0) fun z2 d3=>
 bG .il (s.tmps 1) fun z6 d5=>
 dW (7,0) [] (s.tmps 5)<|
 aA true .n (s.tmps 6) fun d9=>
 aX false .il (s.roots (7,0)) fun m11 d12=>
 asM .own m11<|
 .mat (aO (kY d3 d5) (d9,d12)) fun x=>.ret (Au z2 z6 d3 d5 x)
def oJ:bD:=⟨([0,1,5,6],[(7,0)]),([5],[(7,0)]),UO⟩
def Bt:List (Nat×bD):=[(3,oJ)]
theorem Ow:∀(dQ HY:Bool)(aQ:aS)(bq:List Int)(x:(Int×(List Int)))(c:St→Option (Ex×St)),den uI Bt (aV Mf 0) (Dy dQ HY aQ bq x) (cu oJ.kp oJ.kx c)=(kY aQ bq x).run (cB (Dy dQ HY aQ bq) (Au dQ HY aQ bq) c):=fun _ _ _ _ _ _=>by
 kernel_rfl
theorem Tg:bU uI Bt (aV Mf 0) oJ:=dh fun _ _ _=>aw2 fun _ _=>dM fun _ _=>jk<|aH fun _=>bN fun _ _=>tM<|fun h _ e10 e8 e7 e4 e1=>bS (Ow _ _ _ _) h (by subst_vars;exact aP rfl rfl ⟨e1,e4,e7,e8,trivial⟩ ⟨e10,trivial⟩)
def abx:FnI:=fnI Try.f21 Bt
def Hf (_:Bool) (_:Bool) (_:aS) (_:List Int):(List Int)→ay:=fun r=>⟨(.ref (1,0) []),[],[⟨false,.il,.own,r⟩]⟩
theorem Zv:∀(zp0 zp1:Bool)(p0:aS)(p1:List Int),bR uI abx ⟨[(.iptr zp0 (.sl bJ) ([p0]) [.idx 0]),(.imm zp1 .il p1)],[]⟩=(He p0 p1).run fun r=>some (Hf zp0 zp1 p0 p1 r):=fun _ _ _ _=>by kernel_rfl
def abw (av:List AV) (rs:List Root):Tre ay:=
 aD av fun a0_ av0=>
 aD av0 fun a1_ av1=>
 aM av1<|
 aM rs<|
 ad8 bJ a0_ fun z1 d2=>
 bG .il a1_ fun z4 d3=>
 .mat (uH d2 d3) fun r=>.ret (Hf z1 z4 d2 d3 r)
def Mg:Ctr:=dO [0] abw
theorem Zw:Contract Try.prog .none 21 Mg:=aC (V:=uI) aW (ak ahv ayo aJ) Try.func21 (bL (n:=1) fun k hk=>by
 match k,hk with
 |0,_=>exact bO (id:=3) Tg) fun _ _ _=>aK fun _ _=>aK fun _ _=>bA<|bA<|aw2 fun _ _=>dM fun _ _=>fun h=>by intros;subst_vars;exact bB (Zv _ _ _ _) h
-- more
theorem akY{f:TF3}(hf:aG f=true){c:List Int}(h:nZ f c=true)(hl:c.length≤1000){b:Nat}(hb:f.1.toNat≤b):Bp b c=true:=by
 obtain ⟨L,rfl,hL⟩:=adL hf (ahQ h)
 rw [aN] at hl
 exact aju hf hL hl hb
theorem avD(g:TF3×List Int×Int×Unit):zO g=some (Ib g):=by
 unfold zO Ou Ib
 rw [ah (aoJ g.1),Tre.aB]
 cases hf:aG g.1
 ·rfl
 have hd:=iH hf
 have hw:JO g.1 g.2.1=some (inR (g.2.1.length:Int) 1 5&&nZ g.1 g.2.1):=by
  unfold JO abr
  dsimp only
  rw [Tre.aB]
  cases hi:inR (g.2.1.length:Int) 1 5
  ·rfl
  ·have:=iR.1 hi
   rw [cond_true,ah (L9 hf g.2.1 (by omega)),Tre.aI,Bool.true_and]
 rw [cond_true,ah hw,Tre.aB,Bool.true_and]
 cases hi:inR (g.2.1.length:Int) 1 5
 ·rfl
 have hl:=iR.1 hi
 rw [Bool.true_and,Bool.true_and]
 cases he:nZ g.1 g.2.1
 ·rfl
 rw [cond_true,Bool.true_and,ah (show afH g.1.1 g.2.1=some _ from kG (by rw [Bool.and_eq_true];exact ⟨iR.2 (by omega),akY hf he (by omega) (Nat.le_refl _)⟩)),Tre.aB]
 cases decide (((JV g.2.1).length:Int)=(g.2.1.length:Int))
 ·rfl
 ·rfl
def zD (p0:aS) (p1:List Int):Tre (Int×(List Int)):=
 .mat (zO p0) fun r1=>
 .cond (!r1)
  (.ret (1,[]))
  (.cond (!decide ((p1.length:Int)=p0.2.2.1))
   (.ret (2,[]))
   (.mat (qC p0.1 p1) fun r2=>
   .cond (!r2)
    (.ret (2,[]))
    (.mat (uH p0 p1) fun r3=>
    .ret (0,r3))))
def oD (p0:aS) (p1:List Int):Option (Int×(List Int)):=(zD p0 p1).run some
-- more
theorem aoO{f:TF3}(hf:aG f=true){P m:List Nat}{k:Nat}(hg:Ib (f,aR P,(k:Int),())=true)(hP:inL (FOf f hf) P)(hl:P.length≤1000)(hm:inL (FOf f hf) m)(hk:m.length=k)(hk2:k≤1000):oD (f,aR P,(k:Int),()) (aR m)=some (0,aR (P.map ((FOf f hf).lp m))):=by
 have he:nZ f (aR m)=true:=List.all_eq_true.2 fun x hx=>by
  obtain ⟨y,hy,rfl⟩:=List.mem_map.1 hx
  have hyq:=hm y hy
  have h2:((2 ^ f.1.toNat:Nat):Int)=(2:Int) ^ f.1.toNat:=by rw [Int.natCast_pow];rfl
  rw [Iu] at hyq
  rw [iR]
  unfold Ee
  omega
 unfold oD zD
 rw [ah (avD _),hg,Tre.aB,Bool.not_true,cond_false,Tre.aB,decide_eq_true (by rw [aN];show (m.length:Int)=(k:Int);omega),Bool.not_true,cond_false,ah (L9 hf (aR m) (by rw [aN];omega)),he,Tre.aB,Bool.not_true,cond_false,ah (aun hf hm (by omega) hP hl _),Tre.aI]
def Ep:Env:=⟨tau,[(19,Te),(20,D9),(21,Mg)],[]⟩
def Uz:FnI:=fnI Try.f7 []
def Aj (_:Bool) (_:Bool) (_:aS) (_:List Int):(Int×(List Int))→ay:=fun r=>⟨(.tcons (.ref (1,0) []) (.tcons (.i r.1) .tnil)),[],[⟨false,.il,.own,r.2⟩]⟩
theorem Sr:∀(zp0 zp1:Bool)(p0:aS)(p1:List Int),bR Ep Uz ⟨[(.imm zp0 bJ p0),(.imm zp1 .il p1)],[]⟩=(zD p0 p1).run fun r=>some (Aj zp0 zp1 p0 p1 r):=fun _ _ _ _=>by kernel_rfl
def Uy (av:List AV) (rs:List Root):Tre ay:=
 aD av fun a0_ av0=>
 aD av0 fun a1_ av1=>
 aM av1<|
 aM rs<|
 bG bJ a0_ fun z2 d1=>
 bG .il a1_ fun z4 d3=>
 .mat (oD d1 d3) fun r=>.ret (Aj z2 z4 d1 d3 r)
def Er:Ctr:=dO [] Uy
theorem Sv:Contract Try.prog .none 7 Er:=aC (V:=Ep) aW (ak adA ayf (ak Ma awd (ak Zw ayg aJ))) Try.func7 bP fun _ _ _=>aK fun _ _=>aK fun _ _=>bA<|bA<|dM fun _ _=>dM fun _ _=>fun h=>by intros;subst_vars;exact bB (Sr _ _ _ _) h
def uo (bT:Int):(Int×aY×(List Int))→Tre ((Int×aY×(List Int)) ⊕ (List Int)):=fun s4=>
 .cond (decide (s4.1>0))
  (.ite (0≤aF .u64 bT)<|
  let v2:=yu .i64 1 (aF .u64 bT)
  .mat (dn v2 s4.2.1) fun r3=>
  .ite ((s4.2.2.length+1)*8≤bE∧1≤8)<|
  .ret (.inl (aF .i64 (s4.1-1),r3.2,s4.2.2++([r3.1]))))
  (.ret (.inr s4.2.2))
def abh (p0:List Int) (p1:Int) (p2:Int):Tre (List Int):=
 .mat (dn (aF .i64 (p2+1)) (p0,(0,(0,())))) fun r1=>
 .mat (aO (uo p1) (r1.1,r1.2,[])) fun l4=>
 .mat (anH p1 l4) fun r5=>
 .ret r5
def Dl (p0:List Int) (p1:Int) (p2:Int):Option (List Int):=(abh p0 p1 p2).run some
-- more
theorem ajI{n:Nat}(h1:1≤n)(hn:n≤10):∀(m:Nat){c:Nat}{s:Src}{L:List Nat},L.length+m≤1000→lg c s→c+2*m≤80000→(∀x∈L,x<2 ^ n) →
  ∃r,aO (uo (n:Int)) ((m:Int),s,up L)=some r∧∃L':List Nat,r=up L'∧L'.length≤L.length+m∧∀x∈L',x<2 ^ n:=by
 have hs:aF .u64 (n:Int)=(n:Int):=TJ (by omega) (by omega)
 have hp:=arC hn
 intro m
 induction m with
 |zero=>
  intro c s L _ _ _ hL
  refine ⟨up L,dY ?_,L,rfl,by omega,hL⟩
  unfold uo
  dsimp only
  rw [Tre.aB,decide_eq_false (by omega),cond_false,Tre.aI]
 |succ m ih=>
  intro c s L hl hsr hc hL
  obtain ⟨r,hr1,⟨hr2,hr3⟩,hr4⟩:=zA (n:=((2 ^ n:Nat):Int)) hsr (by omega)
  have hpos:=Nat.two_pow_pos n
  obtain ⟨a,ha⟩:∃a:Nat,r.1=(a:Int):=⟨r.1.toNat,by omega⟩
  rw [gy (y:=((m:Int),r.2,up (L++[a]))) (by
   unfold uo
   dsimp only
   rw [Tre.aB,decide_eq_true (by omega),cond_true,hs,Tre.run_ite,if_pos (by omega),YA hn,ah hr1,Tre.run_ite,if_pos (by rw [fC];unfold bE;omega),Tre.aI,dG (by omega) (by omega),ha,show up (L++[a])=up L++[(a:Int)] by simp [up],show ((m+1:Nat):Int)-1=(m:Int) by omega])]
  obtain ⟨q,hq1,L',hq2,hq3,hq4⟩:=ih (L:=L++[a]) (by rw [List.length_append];show L.length+1+m≤1000;omega) hr4 (by omega) (fun x hx=>by
   rcases List.mem_append.1 hx with hx|hx
   ·exact hL x hx
   ·rw [List.mem_singleton.1 hx];omega)
  refine ⟨q,hq1,L',hq2,?_,hq4⟩
  rw [List.length_append] at hq3
  have:[a].length=1:=rfl
  omega
theorem afA{code:List Int}(hl:code.length≤5000)(hc:∀x∈code,0≤x∧x≤255){n:Nat}(h1:1≤n)(hn:n≤10):∃r,Dl code (n:Int) 3=some r∧∃ns:List Nat,r=up ns∧iG ns ns∧(∀x∈ns,x<2 ^ n)∧abC ((n:Int),up ns,())=true:=by
 have h0:lg 0 (code,0,0,()):=⟨hl,hc,Int.le_refl _,Int.le_refl _⟩
 unfold Dl abh
 refine eX.run (eX.mat (zA h0 (by omega)) fun a ha=>?_)
 have hw:aF .i64 ((3:Int)+1)=4:=rfl
 rw [hw] at ha
 obtain ⟨m,hm⟩:∃m:Nat,a.1=(m:Int):=⟨a.1.toNat,by omega⟩
 rw [hm]
 refine eX.mat (ajI h1 hn m (L:=[]) (by simp;omega) ha.2 (by omega) (fun x hx=>by cases hx)) fun r hr=>?_
 obtain ⟨L,rfl,hL1,hL2⟩:=hr
 have hok:Bp n (up L)=true:=LD (by simp at hL1;omega) hL2
 refine eX.get (show anH (n:Int) (up L)=some (up (ech L)) from by
  unfold anH
  rw [kG (by rw [Bool.and_eq_true,iR,Int.toNat_natCast];exact ⟨by omega,hok⟩)]
  unfold JV
  rw [up_toNat]) (.ret ?_)
 have hE:=ai0 (b:=n) (by omega) hok
 rw [up_toNat] at hE
 have hlt:∀x∈ech L,x<2 ^ n:=fun x hx=>by
  obtain ⟨P,c,hR,hP,hs⟩:=hE
  rw [←hP] at hx
  exact aug hL2 ((hs x).2 (Sp.mem (by rw [←hP];exact hx)))
 have hEE:iG (ech L) (ech L):=by
  obtain ⟨P,c,hR,hP,hs⟩:=hE
  exact ⟨P,c,hR,hP,fun v=>Iff.rfl⟩
 refine ⟨ech L,rfl,hEE,hlt,?_⟩
 have hlen:=hE.le
 simp at hL1
 unfold abC aov
 simp only [Bool.and_eq_true,iR,decide_eq_true_eq,List.all_eq_true]
 refine ⟨⟨by omega,by rw [fC];omega,fun x hx=>?_⟩,?_⟩
 ·obtain ⟨y,hy,rfl⟩:=List.mem_map.1 hx
  unfold inP
  rw [amX (by omega),iR]
  have:=hlt y hy
  omega
 ·unfold JV
  rw [up_toNat,Z6 hEE]
def JE:Env:=⟨tau,[(17,sU),(22,fF),(23,GY)],[]⟩
def acg:Code:=(Try.f8.body).getD .skip
def Ph (nY:Bool) (bT:Int) (eP:aZ):(Int×aY×(List Int))→St:=fun x=>bX [(1,(.i bT)),(6,(.ptr (8,0) [])),(7,(.ptr (13,0) [])),(8,(.ref (10,0) [])),(9,(.i x.1))] [((8,0),some ⟨true,bQ,.own,eP⟩),((13,0),some ⟨true,dz,(.imm nY),x.2.1⟩),((10,0),some ⟨false,.il,.own,x.2.2⟩)]
def LQ (_:Bool) (bT:Int) (eP:aZ):(List Int)→Ex×St:=fun x=>(.exit 0,bX [(1,(.i bT)),(6,(.ptr (8,0) [])),(8,(.ref (10,0) []))] [((8,0),some ⟨true,bQ,.own,eP⟩),((10,0),some ⟨false,.il,.own,x⟩)])
def afP (s:St):Tre (Ex×St):=
 aA true .n (s.tmps 1) fun d2=>
 dH (8,0) [] (s.tmps 6)<|
 dH (13,0) [] (s.tmps 7)<|
 dW (10,0) [] (s.tmps 8)<|
 aA true .n (s.tmps 9) fun d7=>
 aX true bQ (s.roots (8,0)) fun m9 d10=>
 asM .own m9<|
 aX true dz (s.roots (13,0)) fun m12 d13=>
 fB m12 fun z14=>
 aX false .il (s.roots (10,0)) fun m16 d17=>
 asM .own m16<|
 .mat (aO (uo d2) (d7,d13,d17)) fun x=>.ret (LQ z14 d2 d10 x)
def zG:bD:=⟨([1,6,7,8,9],[(8,0),(13,0),(10,0)]),([1,6,8],[(8,0),(10,0)]),afP⟩
def Sy:List (Nat×bD):=[(4,zG)]
theorem Za:∀(nY:Bool)(bT:Int)(eP:aZ)(x:(Int×aY×(List Int)))(c:St→Option (Ex×St)),den JE Sy (aV acg 0) (Ph nY bT eP x) (cu zG.kp zG.kx c)=(uo bT x).run (cB (Ph nY bT eP) (LQ nY bT eP) c):=fun _ _ _ _ _=>by
 kernel_rfl
theorem ads:bU JE Sy (aV acg 0) zG:=dh fun _ _ _=>aH fun _=>fJ<|fJ<|jk<|aH fun _=>bN fun _ _=>tM<|bN fun _ _=>ku fun _=>bN fun _ _=>tM<|fun h _ e15 _ e11 _ e8 e6 e5 e4 e3 e1=>bS (Za _ _ _) h (by subst_vars;exact aP rfl rfl ⟨e1,e3,e4,e5,e6,trivial⟩ ⟨e8,e11,e15,trivial⟩)
def amr:FnI:=fnI Try.f8 Sy
def Vp (_:Bool) (_:List Int) (p1:Int) (_:Int):(List Int)→ay:=fun r=>⟨(.pair (.i p1) (.pair (.ref (1,0) []) (.imm true .unit ()))),[],[⟨false,.il,.own,r⟩]⟩
theorem ajW:∀(zp0:Bool)(p0:List Int)(p1 p2:Int),bR JE amr ⟨[(.imm zp0 (.sl (.int .u8)) p0),(.i p1),(.i p2)],[]⟩=(abh p0 p1 p2).run fun r=>some (Vp zp0 p0 p1 p2 r):=fun _ _ _ _=>by kernel_rfl
def amq (av:List AV) (rs:List Root):Tre ay:=
 aD av fun a0_ av0=>
 aD av0 fun a1_ av1=>
 aD av1 fun a2_ av2=>
 aM av2<|
 aM rs<|
 bG (.sl (.int .u8)) a0_ fun z2 d1=>
 aA true .n a1_ fun d3=>
 aA true .n a2_ fun d4=>
 .mat (Dl d1 d3 d4) fun r=>.ret (Vp z2 d1 d3 d4 r)
def ach:Ctr:=dO [] amq
theorem ajX:Contract Try.prog .none 8 ach:=aC (V:=JE) aW (ak uy ahR (ak fO aep (ak Pq awe aJ))) Try.func8 (bL (n:=1) fun k hk=>by
 match k,hk with
 |0,_=>exact bO (id:=4) ads) fun _ _ _=>aK fun _ _=>aK fun _ _=>aK fun _ _=>bA<|bA<|dM fun _ _=>aH fun _=>aH fun _=>fun h=>by intros;subst_vars;exact bB (ajW _ _ _ _) h
def Yp (p0:List Int):Tre Int:=
 .ret (p0.length:Int)
def ae1 (p0:List Int):Option Int:=(Yp p0).run some
theorem Yq(p0:List Int):ae1 p0=some (p0.length:Int):=rfl
def RJ:Env:=⟨tau,[],[]⟩
def ae3:FnI:=fnI Try.f25 []
def Lv (_:Bool) (_:List Int):Int→ay:=fun r=>⟨(.i r),[],[]⟩
theorem adf:∀(zp0:Bool)(p0:List Int),bR RJ ae3 ⟨[(.imm zp0 .il p0)],[]⟩=(Yp p0).run fun r=>some (Lv zp0 p0 r):=fun _ _=>by kernel_rfl
def ae2 (av:List AV) (rs:List Root):Tre ay:=
 aD av fun a0_ av0=>
 aM av0<|
 aM rs<|
 bG .il a0_ fun z2 d1=>
 .ret (Lv z2 d1 (d1.length:Int))
def jf:Ctr:=dO [] ae2
theorem jw:Contract Try.prog .none 25 jf:=aC (V:=RJ) aW aJ Try.func25 bP fun _ _ _=>aK fun _ _=>bA<|bA<|dM fun _ _=>fun h=>by intros;subst_vars;exact Bw (adf _ _) (Yq _) h
def ae8 (p0:Int) (p1:Int) (p2:Int):Tre Bool:=
 .cond (decide (p0 ≥ p1))
  (.ret (decide (p0≤p2)))
  (.ret false)
def ae9 (p0:Int) (p1:Int) (p2:Int):Option Bool:=(ae8 p0 p1 p2).run some
theorem ag3(n a b:Int):ae9 n a b=some (inR n a b):=by
 unfold ae9 ae8 inR
 by_cases h:a≤n
 ·simp [Tre.aB,Tre.aI,h]
 ·simp [Tre.aB,Tre.aI,h]
def afa:Env:=⟨tau,[],[]⟩
def an7:FnI:=fnI Try.f71 []
def Yv (_:Int) (_:Int) (_:Int):Bool→ay:=fun r=>⟨(.imm true .bool r),[],[]⟩
theorem alu:∀(p0 p1 p2:Int),bR afa an7 ⟨[(.i p0),(.i p1),(.i p2)],[]⟩=(ae8 p0 p1 p2).run fun r=>some (Yv p0 p1 p2 r):=fun _ _ _=>by kernel_rfl
def an6 (av:List AV) (rs:List Root):Tre ay:=
 aD av fun a0_ av0=>
 aD av0 fun a1_ av1=>
 aD av1 fun a2_ av2=>
 aM av2<|
 aM rs<|
 aA true .n a0_ fun d1=>
 aA true .n a1_ fun d2=>
 aA true .n a2_ fun d3=>
 .ret (Yv d1 d2 d3 (inR d1 d2 d3))
def wR:Ctr:=dO [] an6
theorem xS:Contract Try.prog .none 71 wR:=aC (V:=afa) aW aJ Try.func71 bP fun _ _ _=>aK fun _ _=>aK fun _ _=>aK fun _ _=>bA<|bA<|aH fun _=>aH fun _=>aH fun _=>fun h=>by intros;subst_vars;exact Bw (alu _ _ _) (ag3 _ _ _) h
def pW (bT:Int):Int→Tre (Int ⊕ (Bool ⊕ Unit)):=fun s4=>
 .mat (qb s4) fun r1=>
 .mat (qb bT) fun r2=>
 .cond (decide (aF .i64 (2*r1)≤r2))
  (.mat (WK bT s4) fun r3=>
  .cond (decide (r3=0))
   (.ret (.inr (.inl false)))
   (.ret (.inl (aF .i64 (s4+1)))))
  (.ret (.inr (.inr ())))
def DV (p0:Int):Tre Bool:=
 .cond (decide (p0<2))
  (.ret false)
  (.cond (decide (p0 ≥ 64))
   (.ret false)
   (.mat (aO (pW p0) 2) fun l4=>
   .alt l4
    (fun a5=>
     .ret a5)
    (fun _=>
     .ret true)))
def rF (p0:Int):Option Bool:=(DV p0).run some
def rG:Env:=⟨tau,[(98,EN),(80,WL)],[]⟩
def Je:Code:=(Try.f99.body).getD .skip
def q8 (bT:Int):Int→St:=fun x=>bX [(0,(.i bT)),(3,(.i x))] []
def lM (_:Int):(Bool ⊕ Unit)→Ex×St
 |.inl x=>(.ret,bX [(2,(.imm true .bool x))] [])
 |.inr _=>(.exit 0,bX [(2,.dead)] [])
def CS (s:St):Tre (Ex×St):=
 aA true .n (s.tmps 0) fun d2=>
 aA true .n (s.tmps 3) fun d4=>
 .mat (aO (pW d2) d4) fun x=>.alt x (fun a0=>.ret (lM d2 (.inl a0))) (fun b0=>.ret (lM d2 (.inr b0)))
def j5:bD:=⟨([0,3],[]),([2],[]),CS⟩
def yX:List (Nat×bD):=[(4,j5)]
theorem Ld:∀(bT x:Int)(c:St→Option (Ex×St)),den rG yX (aV Je 0) (q8 bT x) (cu j5.kp j5.kx c)=(pW bT x).run (cB (q8 bT) (lM bT) c):=fun _ _ _=>by
 kernel_rfl
theorem PZ:bU rG yX (aV Je 0) j5:=kS fun s e s' h=>by
 generalize hs:restrict j5.kp s=s1 at h
 have h:(CS s1).run some=some (e,s'):=h
 obtain ⟨d2,e1,h_0⟩:=dJ h
 obtain ⟨d4,e3,h_1⟩:=dJ h_0
 obtain ⟨y,hy,hz⟩:=mF h_1
 refine ⟨_,_,q8 d2,lM d2,pW d2,d4,y,?_,hy,?_,Ld d2⟩
 ·subst hs;exact aP (T:=[(0,(.i d2)),(3,(.i d4))]) (U:=[]) rfl rfl ⟨e1,e3,trivial⟩ trivial
 ·rcases y with x|x<;>exact Option.some.inj hz
def Ya:FnI:=fnI Try.f99 yX
def El (_:Int):Bool→ay:=fun r=>⟨(.imm true .bool r),[],[]⟩
theorem Wq:∀(p0:Int),bR rG Ya ⟨[(.i p0)],[]⟩=(DV p0).run fun r=>some (El p0 r):=fun _=>by kernel_rfl
def X9 (av:List AV) (rs:List Root):Tre ay:=
 aD av fun a0_ av0=>
 aM av0<|
 aM rs<|
 aA true .n a0_ fun d1=>
 .mat (rF d1) fun r=>.ret (El d1 r)
def Jf:Ctr:=dO [] X9
theorem Ws:Contract Try.prog .none 99 Jf:=aC (V:=rG) aW (ak Kj asS (ak abZ awu aJ)) Try.func99 (bL (n:=1) fun k hk=>by
 match k,hk with
 |0,_=>exact bO (id:=4) PZ) fun _ _ _=>aK fun _ _=>bA<|bA<|aH fun _=>fun h=>by intros;subst_vars;exact bB (Wq _) h
def EK (p0:(Int×(Int×Unit))):Tre Bool:=
 .cond (inR p0.1 1 5)
  (.mat (rF p0.2.1) fun r1=>
  .cond r1
   (.mat (qb p0.2.1) fun r2=>
   .ret (decide (r2=p0.1)))
   (.ret false))
  (.ret false)
def sH (p0:(Int×(Int×Unit))):Option Bool:=(EK p0).run some
-- more
theorem OZ(f:Int×Int×Unit):sH f=some (aG f):=by
 refine ak2 ?_ ?_ (by kernel_rfl) f
 ·intro f h
  unfold sH EK
  rw [Tre.aB,h];rfl
 ·intro f h
  unfold sH EK
  rw [Tre.aB]
  have:rF f.2.1=some false:=by
   unfold rF DV
   rw [Tre.aB]
   by_cases h1:f.2.1<2
   ·rw [decide_eq_true h1];rfl
   ·rw [decide_eq_false h1,cond_false,Tre.aB,decide_eq_true (by omega)];rfl
  rw [ah this]
  cases inR f.1 1 5<;>rfl
def Rz:Env:=⟨tau,[(71,wR),(99,Jf),(98,EN)],[]⟩
def aeJ:FnI:=fnI Try.f86 []
def Li (_:(Int×(Int×Unit))):Bool→ay:=fun r=>⟨(.imm true .bool r),[],[]⟩
theorem ac1:∀(p0:(Int×(Int×Unit))),bR Rz aeJ ⟨[(.imm true aL p0)],[]⟩=(EK p0).run fun r=>some (Li p0 r):=fun _=>by kernel_rfl
def aeI (av:List AV) (rs:List Root):Tre ay:=
 aD av fun a0_ av0=>
 aM av0<|
 aM rs<|
 aA true aL a0_ fun d1=>
 .mat (sH d1) fun r=>.ret (Li d1 r)
def RA:Ctr:=dO [] aeI
theorem ac2:Contract Try.prog .none 86 RA:=aC (V:=Rz) aW (ak xS ahT (ak Ws ayX (ak Kj asS aJ))) Try.func86 bP fun _ _ _=>aK fun _ _=>bA<|bA<|aH fun _=>fun h=>by intros;subst_vars;exact bB (ac1 _) h
def JY (p0:(Int×(Int×Unit))):Tre Int:=
 .ite (0≤p0.1)<|
 .ret (yu .i64 1 p0.1)
def qy (p0:(Int×(Int×Unit))):Option Int:=(JY p0).run some
def OM:Env:=⟨tau,[],[]⟩
def acP:FnI:=fnI Try.f83 []
def I5 (_:(Int×(Int×Unit))):Int→ay:=fun r=>⟨(.i r),[],[]⟩
theorem aag:∀(p0:(Int×(Int×Unit))),bR OM acP ⟨[(.imm true aL p0)],[]⟩=(JY p0).run fun r=>some (I5 p0 r):=fun _=>by kernel_rfl
def acO (av:List AV) (rs:List Root):Tre ay:=
 aD av fun a0_ av0=>
 aM av0<|
 aM rs<|
 aA true aL a0_ fun d1=>
 .mat (qy d1) fun r=>.ret (I5 d1 r)
def DN:Ctr:=dO [] acO
theorem KS:Contract Try.prog .none 83 DN:=aC (V:=OM) aW aJ Try.func83 bP fun _ _ _=>aK fun _ _=>bA<|bA<|aH fun _=>fun h=>by intros;subst_vars;exact bB (aag _) h
def wL (p0:Int) (p1:(Int×(Int×Unit))):Tre Bool:=
 .mat (qy p1) fun r1=>
 let v2:=inR p0 0 (aF .i64 (r1-1))
 .ret (!v2)
def ny (p0:Int) (p1:(Int×(Int×Unit))):Option Bool:=(wL p0 p1).run some
def Ct:Env:=⟨tau,[(83,DN),(71,wR)],[]⟩
def Q5:FnI:=fnI Try.f93 []
def yM (_:Int) (p1:(Int×(Int×Unit))):Bool→ay:=fun r=>⟨(.imm true .bool r),[⟨true,aL,.own,p1⟩],[]⟩
theorem PD:∀(p0:Int)(p1:(Int×(Int×Unit))),bR Ct Q5 ⟨[(.i p0),(.ptr (0,0) [])],[⟨true,aL,.own,p1⟩]⟩=(wL p0 p1).run fun r=>some (yM p0 p1 r):=fun _ _=>by kernel_rfl
def Q0 (av:List AV) (rs:List Root):Tre ay:=
 aD av fun a0_ av0=>
 aD av0 fun a1_ av1=>
 aM av1<|
 aD rs fun r0_ rs0=>
 aM rs0<|
 aA true .n a0_ fun d1=>
 dH (0,0) [] a1_<|
 yx true aL r0_ fun m2 d3=>
 asM .own m2<|
 .mat (ny d1 d3) fun r=>.ret (yM d1 d3 r)
def Cu:Ctr:=dO [] Q0
theorem PE:Contract Try.prog .none 93 Cu:=aC (V:=Ct) aW (ak KS awv (ak xS ahT aJ)) Try.func93 bP fun _ _ _=>aK fun _ _=>aK fun _ _=>bA<|aK fun _ _=>bA<|aH fun _=>fJ<|tRt fun _ _=>tM<|fun h=>by intros;subst_vars;exact bB (PD _ _) h
def aaY (bC:List Int) (bH:Int) (bI:(Int×(Int×Unit))):Int→Tre (Int ⊕ (Int ⊕ Unit)):=fun s2=>
 .cond (decide (s2<bH))
  (.ite (0≤s2∧s2<(bC.length:Int))<|
  .mat (bC[s2.toNat]?) fun x1=>
  .mat (ny x1 bI) fun r2=>
  .cond r2
   (.ret (.inr (.inl s2)))
   (.ret (.inl (aF .i64 (s2+1)))))
  (.ret (.inr (.inr ())))
def nm7 (p0:List Int) (p1:(Int×(Int×Unit))):Tre Int:=
 .mat (aO (aaY p0 (p0.length:Int) p1) 0) fun l3=>
 .alt l3
  (fun a4=>
   .ret a4)
  (fun _=>
   .ret (-1))
def apQ (p0:List Int) (p1:(Int×(Int×Unit))):Option Int:=(nm7 p0 p1).run some
def apR:Env:=⟨tau,[(93,Cu)],[]⟩
def awS:Code:=(Try.f75.body).getD .skip
def aaZ (kC:Bool) (bC:List Int) (bH:Int) (bI:(Int×(Int×Unit))):Int→St:=fun x=>bX [(0,(.imm kC .il bC)),(1,(.fn 93 [(0,0)])),(7,(.i bH)),(8,(.i x))] [((0,0),some ⟨true,aL,.own,bI⟩)]
def N7 (_:Bool) (_:List Int) (_:Int) (bI:(Int×(Int×Unit))):(Int ⊕ Unit)→Ex×St
 |.inl x=>(.ret,bX [(4,(.i x))] [((0,0),some ⟨true,aL,.own,bI⟩)])
 |.inr _=>(.exit 0,bX [(4,.dead)] [((0,0),some ⟨true,aL,.own,bI⟩)])
def al8 (s:St):Tre (Ex×St):=
 bG .il (s.tmps 0) fun z3 d2=>
 Pv 93 [(0,0)] (s.tmps 1)<|
 aA true .n (s.tmps 7) fun d6=>
 aA true .n (s.tmps 8) fun d8=>
 aX true aL (s.roots (0,0)) fun m10 d11=>
 asM .own m10<|
 .mat (aO (aaY d2 d6 d11) d8) fun x=>.alt x (fun a0=>.ret (N7 z3 d2 d6 d11 (.inl a0))) (fun b0=>.ret (N7 z3 d2 d6 d11 (.inr b0)))
def R5:bD:=⟨([0,1,7,8],[(0,0)]),([4],[(0,0)]),al8⟩
def atE:List (Nat×bD):=[(2,R5)]
theorem al9:∀(kC:Bool)(bC:List Int)(bH:Int)(bI:(Int×(Int×Unit)))(x:Int)(c:St→Option (Ex×St)),den apR atE (aV awS 0) (aaZ kC bC bH bI x) (cu R5.kp R5.kx c)=(aaY bC bH bI x).run (cB (aaZ kC bC bH bI) (N7 kC bC bH bI) c):=fun _ _ _ _ _ _=>by
 kernel_rfl
theorem arp:bU apR atE (aV awS 0) R5:=kS fun s e s' h=>by
 generalize hs:restrict R5.kp s=s1 at h
 have h:(al8 s1).run some=some (e,s'):=h
 obtain ⟨z3,d2,e1,h_0⟩:=iV h
 obtain ⟨e4,h_1⟩:=AA h_0
 obtain ⟨d6,e5,h_2⟩:=dJ h_1
 obtain ⟨d8,e7,h_3⟩:=dJ h_2
 obtain ⟨m10,d11,e9,h_4⟩:=lT h_3
 obtain ⟨rfl,h_5⟩:=Ck h_4
 obtain ⟨y,hy,hz⟩:=mF h_5
 refine ⟨_,_,aaZ z3 d2 d6 d11,N7 z3 d2 d6 d11,aaY d2 d6 d11,d8,y,?_,hy,?_,al9 z3 d2 d6 d11⟩
 ·subst hs;exact aP (T:=[(0,(.imm z3 .il d2)),(1,(.fn 93 [(0,0)])),(7,(.i d6)),(8,(.i d8))]) (U:=[((0,0),some ⟨true,aL,.own,d11⟩)]) rfl rfl ⟨e1,e4,e5,e7,trivial⟩ ⟨e9,trivial⟩
 ·rcases y with x|x<;>exact Option.some.inj hz
def azi:FnI:=fnI Try.f75 atE
def apS (_:Bool) (_:List Int) (p1:(Int×(Int×Unit))):Int→ay:=fun r=>⟨(.i r),[⟨true,aL,.own,p1⟩],[]⟩
theorem axA:∀(zp0:Bool)(p0:List Int)(p1:(Int×(Int×Unit))),bR apR azi ⟨[(.imm zp0 .il p0),(.fn 93 [(0,0)])],[⟨true,aL,.own,p1⟩]⟩=(nm7 p0 p1).run fun r=>some (apS zp0 p0 p1 r):=fun _ _ _=>by kernel_rfl
def azh (av:List AV) (rs:List Root):Tre ay:=
 aD av fun a0_ av0=>
 aD av0 fun a1_ av1=>
 aM av1<|
 aD rs fun r0_ rs0=>
 aM rs0<|
 bG .il a0_ fun z2 d1=>
 Pv 93 [(0,0)] a1_<|
 yx true aL r0_ fun m3 d4=>
 asM .own m3<|
 .mat (apQ d1 d4) fun r=>.ret (apS z2 d1 d4 r)
def awT:Ctr:=dO [] azh
theorem axB:Contract Try.prog .none 75 awT:=aC (V:=apR) aW (ak PE ayT aJ) Try.func75 (bL (n:=1) fun k hk=>by
 match k,hk with
 |0,_=>exact bO (id:=2) arp) fun _ _ _=>aK fun _ _=>aK fun _ _=>bA<|aK fun _ _=>bA<|dM fun _ _=>tFn<|tRt fun _ _=>tM<|fun h=>by intros;subst_vars;exact bB (axA _ _ _) h
def nm4 (p0:List Int) (p1:(Int×(Int×Unit))):Tre Bool:=
 .mat (apQ p0 p1) fun r1=>
 .ret (decide (r1 ≥ 0))
def apI (p0:List Int) (p1:(Int×(Int×Unit))):Option Bool:=(nm4 p0 p1).run some
def awM:Env:=⟨tau,[(75,awT)],[]⟩
def azc:FnI:=fnI Try.f90 []
def apJ (_:Bool) (_:List Int) (p1:(Int×(Int×Unit))):Bool→ay:=fun r=>⟨(.imm true .bool r),[⟨true,aL,.own,p1⟩],[]⟩
theorem axu:∀(zp0:Bool)(p0:List Int)(p1:(Int×(Int×Unit))),bR awM azc ⟨[(.imm zp0 .il p0),(.fn 93 [(0,0)])],[⟨true,aL,.own,p1⟩]⟩=(nm4 p0 p1).run fun r=>some (apJ zp0 p0 p1 r):=fun _ _ _=>by kernel_rfl
def azb (av:List AV) (rs:List Root):Tre ay:=
 aD av fun a0_ av0=>
 aD av0 fun a1_ av1=>
 aM av1<|
 aD rs fun r0_ rs0=>
 aM rs0<|
 bG .il a0_ fun z2 d1=>
 Pv 93 [(0,0)] a1_<|
 yx true aL r0_ fun m3 d4=>
 asM .own m3<|
 .mat (apI d1 d4) fun r=>.ret (apJ z2 d1 d4 r)
def awN:Ctr:=dO [] azb
theorem axv:Contract Try.prog .none 90 awN:=aC (V:=awM) aW (ak axB ape aJ) Try.func90 bP fun _ _ _=>aK fun _ _=>aK fun _ _=>bA<|aK fun _ _=>bA<|dM fun _ _=>tFn<|tRt fun _ _=>tM<|fun h=>by intros;subst_vars;exact bB (axu _ _ _) h
def QX (p0:(Int×(Int×Unit))) (p1:List Int):Tre Bool:=
 .mat (apI p1 p0) fun r1=>
 .ret (!r1)
def vK (p0:(Int×(Int×Unit))) (p1:List Int):Option Bool:=(QX p0 p1).run some
-- more
theorem aaj{f:TF3}(hf:aG f=true)(x:Int):ny x f=some (!inR x 0 (Ee f)):=by
 have:=iH hf
 have h1:qy f=some (yu .i64 1 f.1):=by
  unfold qy JY
  rw [Tre.run_ite,if_pos (by omega)]
  rfl
 unfold ny wL
 rw [ah h1,auq hf]
 rfl
theorem QY{f:TF3}(hf:aG f=true)(c:List Int)(hc:c.length<4611686018427387904):vK f c=some (nZ f c):=by
 have h1:apQ c f=some (qA (fun x=>!inR x 0 (Ee f)) 0 c):=by
  unfold apQ nm7
  rw [Tre.oC,E9 (xs:=c) (fun i x=>cond (!inR x 0 (Ee f)) (some (.inl (i:Int))) none) (.inr ())]
  ·rw [Option.bind_some,←KL (p:=fun x=>!inR x 0 (Ee f))]
   generalize KJ _ _ _ _=r
   cases r<;>rfl
  ·intro i x hx
   have hi:i<c.length:=(List.getElem?_eq_some_iff.1 hx).1
   unfold aaY
   rw [fU hx,ah (aaj hf x),Tre.aB]
   cases inR x 0 (Ee f)
   ·rfl
   ·simp only [Bool.not_true,cond_false,Tre.aI,aU (show i<4611686018427387904 by omega)]
  ·unfold aaY
   exact eY
 have h2:apI c f=some (decide (qA (fun x=>!inR x 0 (Ee f)) 0 c ≥ 0)):=by
  unfold apI nm4
  rw [ah h1]
  rfl
 unfold vK QX nZ
 rw [ah h2,←atg (p:=fun x=>inR x 0 (Ee f))]
 rfl
def U2:Env:=⟨tau,[(90,awN)],[]⟩
def agU:FnI:=fnI Try.f74 []
def OO (_:Bool) (_:(Int×(Int×Unit))) (_:List Int):Bool→ay:=fun r=>⟨(.imm true .bool r),[],[]⟩
theorem aeC:∀(zp0:Bool)(p0:(Int×(Int×Unit)))(p1:List Int),bR U2 agU ⟨[(.imm true aL p0),(.imm zp0 .il p1)],[]⟩=(QX p0 p1).run fun r=>some (OO zp0 p0 p1 r):=fun _ _ _=>by kernel_rfl
def agT (av:List AV) (rs:List Root):Tre ay:=
 aD av fun a0_ av0=>
 aD av0 fun a1_ av1=>
 aM av1<|
 aM rs<|
 aA true aL a0_ fun d1=>
 bG .il a1_ fun z3 d2=>
 .mat (vK d1 d2) fun r=>.ret (OO z3 d1 d2 r)
def JZ:Ctr:=dO [] agT
theorem QZ:Contract Try.prog .none 74 JZ:=aC (V:=U2) aW (ak axv awy aJ) Try.func74 bP fun _ _ _=>aK fun _ _=>aK fun _ _=>bA<|bA<|aH fun _=>dM fun _ _=>fun h=>by intros;subst_vars;exact bB (aeC _ _ _) h
def FW (p0:(Int×(Int×Unit))) (p1:List Int):Tre Bool:=
 let v1:=inR (p1.length:Int) 1 5
 .cond v1
  (.mat (vK p0 p1) fun r2=>
  .ret r2)
  (.ret false)
def tT (p0:(Int×(Int×Unit))) (p1:List Int):Option Bool:=(FW p0 p1).run some
def KU:Env:=⟨tau,[(25,jf),(71,wR),(74,JZ)],[]⟩
def aal:FnI:=fnI Try.f89 []
def FX (_:Bool) (_:(Int×(Int×Unit))) (_:List Int):Bool→ay:=fun r=>⟨(.imm true .bool r),[],[]⟩
theorem X0:∀(zp0:Bool)(p0:(Int×(Int×Unit)))(p1:List Int),bR KU aal ⟨[(.imm true aL p0),(.imm zp0 .il p1)],[]⟩=(FW p0 p1).run fun r=>some (FX zp0 p0 p1 r):=fun _ _ _=>by kernel_rfl
def aak (av:List AV) (rs:List Root):Tre ay:=
 aD av fun a0_ av0=>
 aD av0 fun a1_ av1=>
 aM av1<|
 aM rs<|
 aA true aL a0_ fun d1=>
 bG .il a1_ fun z3 d2=>
 .mat (tT d1 d2) fun r=>.ret (FX z3 d1 d2 r)
def KV:Ctr:=dO [] aak
theorem X3:Contract Try.prog .none 89 KV:=aC (V:=KU) aW (ak jw abN (ak xS ahT (ak QZ awr aJ))) Try.func89 bP fun _ _ _=>aK fun _ _=>aK fun _ _=>bA<|bA<|aH fun _=>dM fun _ _=>fun h=>by intros;subst_vars;exact bB (X0 _ _ _) h
def oQ (p0:List Int) (p1:(Int×(Int×Unit))) (p2:(List (List Int))):Tre Bool:=
 .mat (tT p1 p0) fun r1=>
 .cond (!r1)
  (.ret true)
  (.ite ((0:Int)≤0∧(0:Int)<(p2.length:Int))<|
  .mat (p2[0]?) fun x2=>
  .ret (!decide ((p0.length:Int)=(x2.length:Int))))
def gL (p0:List Int) (p1:(Int×(Int×Unit))) (p2:(List (List Int))):Option Bool:=(oQ p0 p1 p2).run some
def uM:Env:=⟨tau,[(89,KV)],[]⟩
def Ig:FnI:=fnI Try.f88 []
def rE (_:Bool) (zp1:Bool) (_:List Int) (p1:(Int×(Int×Unit))) (p2:(List (List Int))):Bool→ay:=fun r=>⟨(.imm true .bool r),[⟨true,aL,.own,p1⟩,⟨true,(.sl .il),(.imm zp1),p2⟩],[]⟩
theorem Gb:∀(zp0 zp1:Bool)(p0:List Int)(p1:(Int×(Int×Unit)))(p2:(List (List Int))),bR uM Ig ⟨[(.imm zp0 .il p0),(.ptr (0,0) []),(.ptr (0,1) [])],[⟨true,aL,.own,p1⟩,⟨true,(.sl .il),(.imm zp1),p2⟩]⟩=(oQ p0 p1 p2).run fun r=>some (rE zp0 zp1 p0 p1 p2 r):=fun _ _ _ _ _=>by kernel_rfl
def Ie (av:List AV) (rs:List Root):Tre ay:=
 aD av fun a0_ av0=>
 aD av0 fun a1_ av1=>
 aD av1 fun a2_ av2=>
 aM av2<|
 aD rs fun r0_ rs0=>
 aD rs0 fun r1_ rs1=>
 aM rs1<|
 bG .il a0_ fun z2 d1=>
 dH (0,0) [] a1_<|
 dH (0,1) [] a2_<|
 yx true aL r0_ fun m3 d4=>
 asM .own m3<|
 yx true (.sl .il) r1_ fun m5 d6=>
 fB m5 fun z7=>
 .mat (gL d1 d4 d6) fun r=>.ret (rE z2 z7 d1 d4 d6 r)
def uN:Ctr:=dO [] Ie
theorem Gc:Contract Try.prog .none 88 uN:=aC (V:=uM) aW (ak X3 ayQ aJ) Try.func88 bP fun _ _ _=>aK fun _ _=>aK fun _ _=>aK fun _ _=>bA<|aK fun _ _=>aK fun _ _=>bA<|dM fun _ _=>fJ<|fJ<|tRt fun _ _=>tM<|tRt fun _ _=>ku fun _=>fun h=>by intros;subst_vars;exact bB (Gb _ _ _ _ _) h
def RX (bC:(List (List Int))) (bH:Int) (bI:(Int×(Int×Unit))) (FC:(List (List Int))):Int→Tre (Int ⊕ (Int ⊕ Unit)):=fun s2=>
 .cond (decide (s2<bH))
  (.ite (0≤s2∧s2<(bC.length:Int))<|
  .mat (bC[s2.toNat]?) fun x1=>
  .mat (gL x1 bI FC) fun r2=>
  .cond r2
   (.ret (.inr (.inl s2)))
   (.ret (.inl (aF .i64 (s2+1)))))
  (.ret (.inr (.inr ())))
def nm1 (p0:(List (List Int))) (p1:(Int×(Int×Unit))) (p2:(List (List Int))):Tre Int:=
 .mat (aO (RX p0 (p0.length:Int) p1 p2) 0) fun l3=>
 .alt l3
  (fun a4=>
   .ret a4)
  (fun _=>
   .ret (-1))
def apA (p0:(List (List Int))) (p1:(Int×(Int×Unit))) (p2:(List (List Int))):Option Int:=(nm1 p0 p1 p2).run some
def apB:Env:=⟨tau,[(88,uN)],[]⟩
def awG:Code:=(Try.f94.body).getD .skip
def aaS (kC:Bool) (Tn:Bool) (bC:(List (List Int))) (bH:Int) (bI:(Int×(Int×Unit))) (FC:(List (List Int))):Int→St:=fun x=>bX [(0,(.imm kC (.sl .il) bC)),(1,(.fn 88 [(0,0),(0,1)])),(7,(.i bH)),(8,(.i x))] [((0,0),some ⟨true,aL,.own,bI⟩),((0,1),some ⟨true,(.sl .il),(.imm Tn),FC⟩)]
def NV (_:Bool) (Tn:Bool) (_:(List (List Int))) (_:Int) (bI:(Int×(Int×Unit))) (FC:(List (List Int))):(Int ⊕ Unit)→Ex×St
 |.inl x=>(.ret,bX [(4,(.i x))] [((0,0),some ⟨true,aL,.own,bI⟩),((0,1),some ⟨true,(.sl .il),(.imm Tn),FC⟩)])
 |.inr _=>(.exit 0,bX [(4,.dead)] [((0,0),some ⟨true,aL,.own,bI⟩),((0,1),some ⟨true,(.sl .il),(.imm Tn),FC⟩)])
def al0 (s:St):Tre (Ex×St):=
 bG (.sl .il) (s.tmps 0) fun z3 d2=>
 Pv 88 [(0,0),(0,1)] (s.tmps 1)<|
 aA true .n (s.tmps 7) fun d6=>
 aA true .n (s.tmps 8) fun d8=>
 aX true aL (s.roots (0,0)) fun m10 d11=>
 asM .own m10<|
 aX true (.sl .il) (s.roots (0,1)) fun m13 d14=>
 fB m13 fun z15=>
 .mat (aO (RX d2 d6 d11 d14) d8) fun x=>.alt x (fun a0=>.ret (NV z3 z15 d2 d6 d11 d14 (.inl a0))) (fun b0=>.ret (NV z3 z15 d2 d6 d11 d14 (.inr b0)))
def RY:bD:=⟨([0,1,7,8],[(0,0),(0,1)]),([4],[(0,0),(0,1)]),al0⟩
def atA:List (Nat×bD):=[(2,RY)]
theorem al1:∀(kC Tn:Bool)(bC:(List (List Int)))(bH:Int)(bI:(Int×(Int×Unit)))(FC:(List (List Int)))(x:Int)(c:St→Option (Ex×St)),den apB atA (aV awG 0) (aaS kC Tn bC bH bI FC x) (cu RY.kp RY.kx c)=(RX bC bH bI FC x).run (cB (aaS kC Tn bC bH bI FC) (NV kC Tn bC bH bI FC) c):=fun _ _ _ _ _ _ _ _=>by
 kernel_rfl
theorem ark:bU apB atA (aV awG 0) RY:=kS fun s e s' h=>by
 generalize hs:restrict RY.kp s=s1 at h
 have h:(al0 s1).run some=some (e,s'):=h
 obtain ⟨z3,d2,e1,h_0⟩:=iV h
 obtain ⟨e4,h_1⟩:=AA h_0
 obtain ⟨d6,e5,h_2⟩:=dJ h_1
 obtain ⟨d8,e7,h_3⟩:=dJ h_2
 obtain ⟨m10,d11,e9,h_4⟩:=lT h_3
 obtain ⟨rfl,h_5⟩:=Ck h_4
 obtain ⟨m13,d14,e12,h_6⟩:=lT h_5
 obtain ⟨z15,rfl,h_7⟩:=QB h_6
 obtain ⟨y,hy,hz⟩:=mF h_7
 refine ⟨_,_,aaS z3 z15 d2 d6 d11 d14,NV z3 z15 d2 d6 d11 d14,RX d2 d6 d11 d14,d8,y,?_,hy,?_,al1 z3 z15 d2 d6 d11 d14⟩
 ·subst hs;exact aP (T:=[(0,(.imm z3 (.sl .il) d2)),(1,(.fn 88 [(0,0),(0,1)])),(7,(.i d6)),(8,(.i d8))]) (U:=[((0,0),some ⟨true,aL,.own,d11⟩),((0,1),some ⟨true,(.sl .il),(.imm z15),d14⟩)]) rfl rfl ⟨e1,e4,e5,e7,trivial⟩ ⟨e9,e12,trivial⟩
 ·rcases y with x|x<;>exact Option.some.inj hz
def ay6:FnI:=fnI Try.f94 atA
def apC (_:Bool) (zp1:Bool) (_:(List (List Int))) (p1:(Int×(Int×Unit))) (p2:(List (List Int))):Int→ay:=fun r=>⟨(.i r),[⟨true,aL,.own,p1⟩,⟨true,(.sl .il),(.imm zp1),p2⟩],[]⟩
theorem axn:∀(zp0 zp1:Bool)(p0:(List (List Int)))(p1:(Int×(Int×Unit)))(p2:(List (List Int))),bR apB ay6 ⟨[(.imm zp0 (.sl .il) p0),(.fn 88 [(0,0),(0,1)])],[⟨true,aL,.own,p1⟩,⟨true,(.sl .il),(.imm zp1),p2⟩]⟩=(nm1 p0 p1 p2).run fun r=>some (apC zp0 zp1 p0 p1 p2 r):=fun _ _ _ _ _=>by kernel_rfl
def ay5 (av:List AV) (rs:List Root):Tre ay:=
 aD av fun a0_ av0=>
 aD av0 fun a1_ av1=>
 aM av1<|
 aD rs fun r0_ rs0=>
 aD rs0 fun r1_ rs1=>
 aM rs1<|
 bG (.sl .il) a0_ fun z2 d1=>
 Pv 88 [(0,0),(0,1)] a1_<|
 yx true aL r0_ fun m3 d4=>
 asM .own m3<|
 yx true (.sl .il) r1_ fun m5 d6=>
 fB m5 fun z7=>
 .mat (apA d1 d4 d6) fun r=>.ret (apC z2 z7 d1 d4 d6 r)
def awH:Ctr:=dO [] ay5
theorem axo:Contract Try.prog .none 94 awH:=aC (V:=apB) aW (ak Gc ayP aJ) Try.func94 (bL (n:=1) fun k hk=>by
 match k,hk with
 |0,_=>exact bO (id:=2) ark) fun _ _ _=>aK fun _ _=>aK fun _ _=>bA<|aK fun _ _=>aK fun _ _=>bA<|dM fun _ _=>tFn<|tRt fun _ _=>tM<|tRt fun _ _=>ku fun _=>fun h=>by intros;subst_vars;exact bB (axn _ _ _ _ _) h
def nm0 (p0:(List (List Int))) (p1:(Int×(Int×Unit))) (p2:(List (List Int))):Tre Bool:=
 .mat (apA p0 p1 p2) fun r1=>
 .ret (decide (r1 ≥ 0))
def apy (p0:(List (List Int))) (p1:(Int×(Int×Unit))) (p2:(List (List Int))):Option Bool:=(nm0 p0 p1 p2).run some
def awE:Env:=⟨tau,[(94,awH)],[]⟩
def ay4:FnI:=fnI Try.f87 []
def apz (_:Bool) (zp1:Bool) (_:(List (List Int))) (p1:(Int×(Int×Unit))) (p2:(List (List Int))):Bool→ay:=fun r=>⟨(.imm true .bool r),[⟨true,aL,.own,p1⟩,⟨true,(.sl .il),(.imm zp1),p2⟩],[]⟩
theorem axk:∀(zp0 zp1:Bool)(p0:(List (List Int)))(p1:(Int×(Int×Unit)))(p2:(List (List Int))),bR awE ay4 ⟨[(.imm zp0 (.sl .il) p0),(.fn 88 [(0,0),(0,1)])],[⟨true,aL,.own,p1⟩,⟨true,(.sl .il),(.imm zp1),p2⟩]⟩=(nm0 p0 p1 p2).run fun r=>some (apz zp0 zp1 p0 p1 p2 r):=fun _ _ _ _ _=>by kernel_rfl
def ay3 (av:List AV) (rs:List Root):Tre ay:=
 aD av fun a0_ av0=>
 aD av0 fun a1_ av1=>
 aM av1<|
 aD rs fun r0_ rs0=>
 aD rs0 fun r1_ rs1=>
 aM rs1<|
 bG (.sl .il) a0_ fun z2 d1=>
 Pv 88 [(0,0),(0,1)] a1_<|
 yx true aL r0_ fun m3 d4=>
 asM .own m3<|
 yx true (.sl .il) r1_ fun m5 d6=>
 fB m5 fun z7=>
 .mat (apy d1 d4 d6) fun r=>.ret (apz z2 z7 d1 d4 d6 r)
def awF:Ctr:=dO [] ay3
theorem axl:Contract Try.prog .none 87 awF:=aC (V:=awE) aW (ak axo awz aJ) Try.func87 bP fun _ _ _=>aK fun _ _=>aK fun _ _=>bA<|aK fun _ _=>aK fun _ _=>bA<|dM fun _ _=>tFn<|tRt fun _ _=>tM<|tRt fun _ _=>ku fun _=>fun h=>by intros;subst_vars;exact bB (axk _ _ _ _ _) h
def tY (p0:(Int×(Int×Unit))) (p1:(List (List Int))):Tre Int:=
 .mat (sH p0) fun r1=>
 .cond (!r1)
  (.ret 1)
  (.mat (apy p1 p0 p1) fun r2=>
  .cond r2
   (.ret 2)
   (.ret 0))
def jL (p0:(Int×(Int×Unit))) (p1:(List (List Int))):Option Int:=(tY p0 p1).run some
def F9:Env:=⟨tau,[(86,RA),(87,awF)],[]⟩
def Wp:FnI:=fnI Try.f69 []
def CF (_:Bool) (_:(Int×(Int×Unit))) (_:(List (List Int))):Int→ay:=fun r=>⟨(.i r),[],[]⟩
theorem Uh:∀(zp0:Bool)(p0:(Int×(Int×Unit)))(p1:(List (List Int))),bR F9 Wp ⟨[(.imm true aL p0),(.imm zp0 (.sl .il) p1)],[]⟩=(tY p0 p1).run fun r=>some (CF zp0 p0 p1 r):=fun _ _ _=>by kernel_rfl
def Wo (av:List AV) (rs:List Root):Tre ay:=
 aD av fun a0_ av0=>
 aD av0 fun a1_ av1=>
 aM av1<|
 aM rs<|
 aA true aL a0_ fun d1=>
 bG (.sl .il) a1_ fun z3 d2=>
 .mat (jL d1 d2) fun r=>.ret (CF z3 d1 d2 r)
def Ga:Ctr:=dO [] Wo
theorem Ui:Contract Try.prog .none 69 Ga:=aC (V:=F9) aW (ak ac2 ayN (ak axl ayO aJ)) Try.func69 bP fun _ _ _=>aK fun _ _=>aK fun _ _=>bA<|bA<|aH fun _=>dM fun _ _=>fun h=>by intros;subst_vars;exact bB (Uh _ _ _) h
def yh:Tre (List Int):=
 .ret []
def Io:Option (List Int):=(yh).run some
theorem Ed:Io=some []:=rfl
def uX:Env:=⟨tau,[],[]⟩
def Iq:FnI:=fnI Try.f59 []
def rT:(List Int)→ay:=fun r=>⟨(.ref (1,0) []),[],[⟨false,.il,.own,r⟩]⟩
theorem Hr:bR uX Iq ⟨[.nil],[]⟩=(yh).run fun r=>some (rT r):=by kernel_rfl
def Ip (av:List AV) (rs:List Root):Tre ay:=
 aD av fun a0_ av0=>
 aM av0<|
 aM rs<|
 ao6 a0_<|
 .ret (rT [])
def Ir:Ctr:=dO [] Ip
theorem Ht:Contract Try.prog .none 59 Ir:=aC (V:=uX) aW aJ Try.func59 bP fun _ _ _=>aK fun _ _=>bA<|bA<|azy<|fun h=>by intros;subst_vars;exact Bw Hr Ed h
def pF (p0:List Int):Tre (List Int):=
 .ite ((0+p0.length)*8≤bE∧1≤8)<|
 .ret ([]++p0)
def uV (p0:List Int):Option (List Int):=(pF p0).run some
theorem Ec(p0 y:List Int)(h:oM p0=some y):uV p0=some y:=by
 obtain ⟨hl,rfl⟩:=YF h
 have hb:(0+p0.length)*8≤bE∧1≤8:=by unfold bE;omega
 unfold uV pF
 rw [Tre.run_ite,if_pos hb]
 rfl
def uW:Env:=⟨tau,[],[]⟩
def Il:FnI:=fnI Try.f59 []
def rR (_:Bool) (_:List Int):(List Int)→ay:=fun r=>⟨(.ref (1,0) []),[],[⟨false,.il,.own,r⟩]⟩
theorem Ho:∀(zp0:Bool)(p0:List Int),bR uW Il ⟨[(.nn zp0 .n p0)],[]⟩=(pF p0).run fun r=>some (rR zp0 p0 r):=fun _ _=>by kernel_rfl
def Ik (av:List AV) (rs:List Root):Tre ay:=
 aD av fun a0_ av0=>
 aM av0<|
 aM rs<|
 auI .n a0_ fun z1 d2=>
 .mat (oM d2) fun r=>.ret (rR z1 d2 r)
def Im:Ctr:=dO [] Ik
theorem Hq:Contract Try.prog .none 59 Im:=aC (V:=uW) aW aJ Try.func59 bP fun _ _ _=>aK fun _ _=>bA<|bA<|tNn fun _ _=>fun h=>by intros;subst_vars;exact yC (Ho _ _) (Ec _) h
theorem Oy(y:List Int)(h:oM ([]:List Int)=some y):y=[]:=(YF h).2.symm
def Dz (av:List AV) (rs:List Root):Tre ay:=
 aD av fun a0_ av0=>
 aM av0<|
 aM rs<|
 bG .il a0_ fun _ d1=>
 .mat (oM d1) fun r=>.ret ⟨(.ref (1,0) []),[],[⟨false,.il,.own,r⟩]⟩
def kr:Ctr:=⟨[],fun ci=>Dz ci.args ci.roots,false⟩
theorem mW:Contract Try.prog .none 59 kr:=by
 refine aiT (e:=.n) Ht Hq ?_
 rintro ⟨av,rs⟩ co h
 have h:(Dz av rs).run some=some co:=h
 obtain ⟨a0_,av0,rfl,h_0⟩:=abJ h
 obtain ⟨rfl,h_1⟩:=VI h_0
 obtain ⟨rfl,h_2⟩:=VI h_1
 obtain ⟨z2,d1,rfl,h_3⟩:=iV h_2
 refine ⟨z2,d1,rfl,?_,?_⟩
 ·exact h_3
 ·rintro rfl
  obtain ⟨y,h1,h2⟩:=adN h_3
  have hy:y=[]:=by
   have:=Oy y h1
   exact this
  subst hy
  rw [←h2];rfl
def Bh (p0:Int) (p1:Int):Tre Bool:=
 .ite (0≤p1)<|
 let v1:=Gw .i64 (Kl .i64 p0 p1) 1
 .ret (decide (v1=1))
def Gr (p0:Int) (p1:Int):Option Bool:=(Bh p0 p1).run some
def auK(x j:Int):Option Bool:=agD (decide (0≤j)) (oL x j)
theorem Qe(p0 p1:Int)(y:Bool)(h:auK p0 p1=some y):Gr p0 p1=some y:=by
 obtain ⟨hl,rfl⟩:=xC h
 unfold Gr Bh
 rw [Tre.run_ite,if_pos (of_decide_eq_true hl)]
 rfl
def Gs:Env:=⟨tau,[],[]⟩
def WI:FnI:=fnI Try.f76 []
def C9 (_:Int) (p1:Int):Bool→ay:=fun r=>⟨(.imm true .bool r),[⟨true,.n,.own,p1⟩],[]⟩
theorem Ur:∀(p0 p1:Int),bR Gs WI ⟨[(.i p0),(.ptr (0,0) [])],[⟨true,.n,.own,p1⟩]⟩=(Bh p0 p1).run fun r=>some (C9 p0 p1 r):=fun _ _=>by kernel_rfl
def WH (av:List AV) (rs:List Root):Tre ay:=
 aD av fun a0_ av0=>
 aD av0 fun a1_ av1=>
 aM av1<|
 aD rs fun r0_ rs0=>
 aM rs0<|
 aA true .n a0_ fun d1=>
 dH (0,0) [] a1_<|
 yx true .n r0_ fun m2 d3=>
 asM .own m2<|
 .mat (auK d1 d3) fun r=>.ret (C9 d1 d3 r)
def Gt:Ctr:=dO [] WH
theorem Us:Contract Try.prog .none 76 Gt:=aC (V:=Gs) aW aJ Try.func76 bP fun _ _ _=>aK fun _ _=>aK fun _ _=>bA<|aK fun _ _=>bA<|aH fun _=>fJ<|tRt fun _ _=>tM<|fun h=>by intros;subst_vars;exact yC (Ur _ _) (Qe _ _) h
end Go.Proofs.Ytmilokkchghpjaa
