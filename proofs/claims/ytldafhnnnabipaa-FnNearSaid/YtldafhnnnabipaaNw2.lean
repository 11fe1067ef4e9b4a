/- Part 2 of the proof of FnNear. -/
import Derived.Laws.CopyRow
import Derived.Laws.IdiomCopy
import Derived.WalkKit
import Derived.Deep.RegionLaw
import Derived.Test.YtldafhnnnabipaaNw1
set_option maxRecDepth 100000
noncomputable section
namespace Go.Abs
variable {Γ : Glb}
section
variable {P : Program} {V : Env} {w0 w : World} {M0 : BS} {n : Nat} {C0 C : Ctx} {s : St} {a : Act}
variable {R' : Type} {r : R'} {o : Oper} {c : Del → Option R'}
theorem WJ{rs:RF}{av:AV}:∀(l:List ay),hit (pJ rs l) av=false→∀q∈l,∀x,rs q=some x→(bif x.mem then Kill.at q [] else Kill.inn q).hits av=false:=by
 intro l
 induction l with
 |nil=>intro _ q hq;cases hq
 |cons q0 l ih=>
  intro h q hq x hx
  simp only [pJ,hit,List.any_cons,Bool.or_eq_false_iff] at h
  rcases List.mem_cons.1 hq with rfl|hq
  ·have:=h.1
   rw [hx] at this
   exact this
  ·exact ih h.2 q hq x hx
theorem aaI(sf:Bool)(rs:RF)(args:List AV)(g:Reg):jh sf rs args g=pJ rs g ∨
  ∃p l q0,sf=true∧args=.ref (0,0) p::l∧g=[q0]∧jh sf rs args g=[.at q0 (p++[.idx 0])]:=by
 unfold jh
 cases sf with
 |false=>exact .inl rfl
 |true=>
  simp only [cond_true]
  unfold Ro
  split
  ·rename_i r p l q0
   cases hr:req r (0,0) with
   |false=>exact .inl rfl
   |true=>
    have hr2:=bW.1 hr
    subst hr2
    exact .inr ⟨p,l,q0,by first|rfl|trivial,rfl,rfl,rfl⟩
  ·exact .inl rfl
theorem ap9{ks:List Kill}{q:ay}{p:Path}{lo n:Nat}:hit ks (.slc q p lo n)=hit ks (.ref q p):=by
 unfold hit
 congr 1
 funext x
 cases x<;>rfl
theorem ami{f:Operand}{args:Array Operand}{ts:Array TypeId}(ho:o.op=.call { callee:=.value f,args:=args,argTypes:=ts }){fid:Nat}{caps:Array Value}
  (hf:a.eval f=.func (.func fid) #[] caps) (hE:Enters P fid):(execOp a.eval o).run P w=.ok (.enter fid (args.map a.eval++caps)) w:=by
 obtain ⟨fn,h1,h2,h3⟩:=hE
 have hp:(program).run P w=.ok P w:=rfl
 simp only [execOp,ho,resolve,hf,Deferred.ofValue,invoke,callFunc,Sem.run_bind,Sem.run_pure,Result.andThen_ok,hp,h1,h2,h3]
 simp
theorem anV(hE:XR P Γ V w0 M0 C0)(R:Rel w0 M0 n C0 C s a w){f:Operand}{args:Array Operand}{ts:Array TypeId}(ho:o.op=.call { callee:=.value f,args:=args,argTypes:=ts })
  (h:bC V o s.tmps s.roots c=some r):∃x,c x=some r∧Does P w0 M0 n C0 s a w o x:=by
 simp only [bC,ho] at h
 unfold callee at h
 split at h
 case h_2=>simp at h
 case h_1 fid caps hf=>
 have hfv:=R.eval f
 rw [hf] at hfv
 have hfe:=hfv.fn
 have hcapm:∀q∈caps,∀y,s.roots q=some y→y.mem=true:=by
  obtain ⟨hA,_⟩:=hfv.cell (by simp) rfl (by simp) (by simp)
  exact hA.2
 unfold Al at h
 dsimp only at h
 split at h
 case h_1=>simp at h
 case h_2 qc hq=>
 obtain ⟨hCon,hEnt⟩:=hE.env fid qc hq
-- the arguments
 have hl:args.toList.map (bf s.tmps)++ptrs caps=((args.toList.map fun x=>(bf s.tmps x,a.eval x))++caps.map fun p=>(AV.ptr p [],Value.pointer (some ⟨C.θ p,0,none⟩))).map (·.1):=by
  simp only [List.map_append,List.map_map,Function.comp_def]
  congr 1
  clear hf hfv hfe hcapm h
  induction caps with
  |nil=>rfl
  |cons p l ih=>simp only [ptrs,List.map_cons,ih]
 rw [hl] at h
 have hvals:∀x∈((args.toList.map fun x=>(bf s.tmps x,a.eval x))++caps.map fun p=>(AV.ptr p [],Value.pointer (some ⟨C.θ p,0,none⟩))),bH w C s.roots x.2 x.1:=by
  intro x hx
  rcases List.mem_append.1 hx with hx|hx
  ·simp only [List.mem_map] at hx
   obtain ⟨y,_,rfl⟩:=hx
   exact R.eval y
  ·simp only [List.mem_map] at hx
   obtain ⟨p,hp,rfl⟩:=hx
   refine bH.mk ⟨C.θ p,0,rfl,fun _=>⟨rfl,rfl⟩,fun y hy=>⟨y.k,C.ρ p,at_nil _,dP _ _ _,?_⟩⟩ rfl rfl
   rw [cZ]
   unfold bK
   rw [if_pos (hcapm p hp y hy)]
 obtain ⟨args',sn,g0,h,_,hsn,⟨t0,ht0⟩,hnd0,hlen',hargs⟩:=agE R.mem qc.rw _ h hvals
 simp only [List.nil_append] at ht0
 split at h
 case h_1=>simp at h
 case h_2 _ g hg=>
 obtain ⟨hgt,hnd⟩:=Sq _ _ hg
 have hnd:=hnd (hnd0 (by simp))
 cases hchk:(akW sn g||!pQ s.roots g g||KN (o.dst.getD 0+2) g||!Nat.blt g.length 1000000) with
 |true=>rw [hchk] at h;simp at h
 |false=>
 rw [hchk] at h
 simp only [cond_false] at h
 simp only [Bool.or_eq_false_iff,Bool.not_eq_false'] at hchk
 obtain ⟨⟨⟨hany,hclosed⟩,hslot⟩,_⟩:=hchk
 have hany:=apn hany
 have hclosed:=aeJ _ hclosed
 have hslot:=aiw _ hslot
 split at h
 case h_1=>simp at h
 case h_2 _ ys hys=>
 obtain ⟨hysl,hysr⟩:=afj _ hys
 obtain ⟨co,hco,h⟩:=Tre.WT h
 cases hchk2:(rJ g.length co.fresh.length co.roots&&rJ g.length co.fresh.length co.fresh&&(sn.isEmpty||(nN co.roots&&nN co.fresh&&co.res.done))) with
 |false=>rw [hchk2] at h;simp at h
 |true=>
 rw [hchk2] at h
 simp only [cond_true] at h
 simp only [Bool.and_eq_true,Bool.or_eq_true] at hchk2
 obtain ⟨⟨hpr,hpf⟩,hdone⟩:=hchk2
 have hpr:=adB _ hpr
 have hpf:=adB _ hpf
 split at h
 case h_1=>simp at h
 case h_2 _ u hu=>
 obtain ⟨hul,hu1,hu2⟩:=PL _ hu
 refine ⟨_,h,?_⟩
 clear h
 intro hd hal next Q hn
 obtain ⟨d,hdst⟩:=Ea hal rfl
 have hpin:s.pins (d+2)=false:=by
  rw [hdst] at hal
  simp only [allowed,Bool.not_true,Bool.false_and,Bool.false_or,Bool.and_eq_true,Bool.not_eq_true'] at hal
  exact hal.1
 unfold Oper.wp
 rw [ami ho hfe hEnt,Oper.upon_enter]
-- the callee's memory
 let Cc:Ctx:=⟨fun p=>C.θ (g.getD p.2 nowhere),fun p=>C.ρ (g.getD p.2 nowhere),fun p=>C.F (g.getD p.2 nowhere),C.Z,fun b=>C.S b∨FU C sn b⟩
 have hgd:∀{i:Nat}{p:ay},g[i]?=some p→g.getD i nowhere=p:=by intro i p hi;simp [List.getD,hi]
 have hin:∀p z,WO ys p=some z→∃i q x,p=par i∧g[i]?=some q∧s.roots q=some x∧z=⟨x.mem,x.k,x.m,sQ (adz g) x.k x.d⟩:=by
  rintro ⟨p1,p2⟩ z hz
  match p1,hz with
  |0,hz=>
   have hz:ys[p2]?=some z:=hz
   have hlt:p2<g.length:=by rw [←hysl];exact (List.getElem?_eq_some_iff.1 hz).1
   obtain ⟨x,hx,hy⟩:=hysr p2 g[p2] (List.getElem?_eq_getElem hlt)
   rw [hy] at hz
   exact ⟨p2,_,x,rfl,List.getElem?_eq_getElem hlt,hx,(Option.some.inj hz).symm⟩
  |p1+1,hz=>cases hz
 have hparOf:∀{p:ay},p∈g→∃j,g[j]?=some p∧adz g p=par j:=by
  intro p hp
  obtain ⟨j,hj⟩:=List.getElem?_of_mem hp
  exact ⟨j,hj,by unfold adz;rw [aiZ hnd hj]⟩
 have hFUsn:∀{p:ay}{x:Root}{b:Nat},p∈g→s.roots p=some x→C.F p b→¬FU C sn b:=by
  rintro p x b hp hx hb ⟨p',hp',hb'⟩
  rcases hsn p' hp' with h|⟨y,hy⟩
  ·cases h
  ·exact R.mem.disj p' p y x hy hx (fun h=>hany p' hp' (h ▸ hp)) b hb' hb
 have hFUro:∀{b:Nat},FU C sn b→b<w.heap.size:=by
  rintro b ⟨p',hp',hb'⟩
  rcases hsn p' hp' with h|⟨y,hy⟩
  ·cases h
  ·exact (R.mem.apart p' y b hy hb').2.2
 have hMc:Mem w Cc (WO ys):=by
  refine ⟨?_,?_,?_,?_,?_⟩
  ·intro p z hz
   obtain ⟨i,q,x,rfl,hi,hx,rfl⟩:=hin p z hz
   obtain ⟨G,g1,g2,g3⟩:=R.mem.ok q x hx
   refine ⟨G,?_,?_,fun hm=>?_⟩
   ·show Enc w Cc.θ C.Z _ x.k x.m _ (C.ρ (g.getD i nowhere)) G
    rw [hgd hi]
    refine Enc.sQ (g1.mono (S':=fun b=>C.S b∨FU C sn b) (.refl _) (fun b h=>.inl h) (.refl _) (fun _ _=>rfl) (fun _ _=>rfl)) (fun p hp=>?_)
    obtain ⟨x',hx',hcl⟩:=hclosed q (List.mem_of_getElem? hi)
    rw [hx] at hx';cases hx'
    obtain ⟨j,hj,hpj⟩:=hparOf (hcl p hp)
    rw [hpj]
    show C.θ (g.getD j nowhere)=_
    rw [hgd hj]
   ·show Sub G (C.F (g.getD i nowhere));rw [hgd hi];exact g2
   ·show ¬G (C.θ (g.getD i nowhere))∧C.F (g.getD i nowhere) (C.θ (g.getD i nowhere))∧∃T,w.heap[C.θ (g.getD i nowhere)]?=some (.cells (C.ρ (g.getD i nowhere)).toArray T (0,0))
    rw [hgd hi];exact g3 hm
  ·intro p p' z z' hz hz' hpp
   obtain ⟨i,q,x,rfl,hi,hx,rfl⟩:=hin p z hz
   obtain ⟨i',q',x',rfl,hi',hx',rfl⟩:=hin p' z' hz'
   show DI (C.F (g.getD i nowhere)) (C.F (g.getD i' nowhere))
   rw [hgd hi,hgd hi']
   refine R.mem.disj q q' x x' hx hx' ?_
   rintro rfl
   exact hpp (by rw [Ke hnd hi hi'])
  ·intro p z b hz hb
   obtain ⟨i,q,x,rfl,hi,hx,rfl⟩:=hin p z hz
   have hb:C.F (g.getD i nowhere) b:=hb
   rw [hgd hi] at hb
   have:=R.mem.apart q x b hx hb
   exact ⟨this.1,fun h=>h.elim this.2.1 (hFUsn (List.mem_of_getElem? hi) hx hb),this.2.2⟩
  ·rintro b (hb|hb|hb)
   ·exact R.mem.ro b (.inl hb)
   ·exact R.mem.ro b (.inr hb)
   ·exact hFUro hb
  ·intro p z hz p' hp' z' hz'
   obtain ⟨i,q,x,rfl,hi,hx,rfl⟩:=hin p z hz
   rw [Rj] at hp'
   obtain ⟨p0,hp0,rfl⟩:=List.mem_map.1 hp'
   obtain ⟨x2,hx2,hcl⟩:=hclosed q (List.mem_of_getElem? hi)
   rw [hx] at hx2;cases hx2
   obtain ⟨j,hj,hpj⟩:=hparOf (hcl p0 hp0)
   rw [hpj] at hz'
   obtain ⟨i',q',x',he,hi',hx',rfl⟩:=hin _ z' hz'
   simp only [Prod.mk.injEq,true_and] at he
   subst he
   rw [hj] at hi'
   simp only [Option.some.injEq] at hi'
   subst hi'
   exact R.mem.ptr q x hx p0 hp0 x' hx'
 have hCal:Callee C s.roots sn g Cc (WO ys):=by
  refine ⟨rfl,fun b h=>.inl h,fun p hp b hb=>.inr ⟨p,hp,hb⟩,fun i p hi=>?_,fun i p hi=>?_,fun i y hy=>?_⟩
  ·show C.θ (g.getD i nowhere)=_;rw [hgd hi]
  ·show C.ρ (g.getD i nowhere)=_;rw [hgd hi]
  ·obtain ⟨i',q,x,he,hi,hx,rfl⟩:=hin _ y hy
   simp only [Prod.mk.injEq,true_and] at he
   subst he
   exact ⟨q,x,hi,hx,rfl,rfl,fun p h=>wR p h⟩
 have hval:(args.map a.eval++DJ C.θ caps).size=args'.length:=by
  rw [hlen'];simp [DJ]
 have hcall:=hCon w Cc ⟨args',ys⟩ co (args.map a.eval++DJ C.θ caps) hMc (by
   intro z hz p hp
   obtain ⟨i,hi⟩:=List.getElem?_of_mem hz
   obtain ⟨i',q,x,he,hi',hx,rfl⟩:=hin (par i) z hi
   rw [Rj] at hp
   obtain ⟨p0,hp0,rfl⟩:=List.mem_map.1 hp
   obtain ⟨x2,hx2,hcl⟩:=hclosed q (List.mem_of_getElem? hi')
   rw [hx] at hx2;cases hx2
   obtain ⟨j,hj,hpj⟩:=hparOf (hcl p0 hp0)
   rw [hpj]) hval (by
   intro i v a' hv ha'
   have hx:∃x,((args.toList.map fun x=>(bf s.tmps x,a.eval x))++caps.map fun p=>(AV.ptr p [],Value.pointer (some ⟨C.θ p,0,none⟩)))[i]?=some x∧x.2=v:=by
    have h2:(((args.toList.map fun x=>(bf s.tmps x,a.eval x))++caps.map fun p=>(AV.ptr p [],Value.pointer (some ⟨C.θ p,0,none⟩))).map (·.2))[i]?=some v:=by
     rw [←hv,←Array.getElem?_toList]
     congr 1
     simp [DJ,Function.comp_def]
    rw [List.getElem?_map] at h2
    cases hx:((args.toList.map fun x=>(bf s.tmps x,a.eval x))++caps.map fun p=>(AV.ptr p [],Value.pointer (some ⟨C.θ p,0,none⟩)))[i]? with
    |none=>rw [hx] at h2;simp at h2
    |some x=>rw [hx] at h2;exact ⟨x,rfl,by simpa using h2⟩
   obtain ⟨x,hx,rfl⟩:=hx
   exact hargs sn g (fun _ h=>h) hgt Cc _ hCal i x a' hx ha') (have h9:=hE.here R;h9) hco
 refine Calls.mono hcall ?_
 intro e w' he
 cases e with
 |panicked _=>exact he.elim
 |outgrown=>exact he.elim
 |returned v=>
 obtain ⟨Cc',Po,Sf⟩:=he
 show next (a.put o.dst v) w'
 rw [hdst] at hn hslot hu hu1 ⊢
 simp only [Option.getD_some] at hn hslot hu hu1
 have hroots:∀p z,(s.after (some d) ⟨co.res.back g d,u++pU g d 0 co.fresh,true,jh qc.soft s.roots args' g,(nL co.roots++nL co.fresh).map (nW g d),none,sn++(co.res.back g d).names,g,false⟩).roots p=some z →
   (∃(i:Nat) (y x:Root),g[i]?=some p∧co.roots[i]?=some y∧s.roots p=some x∧y.k=x.k∧y.mem=x.mem∧z=⟨y.mem,y.k,y.m,sQ (nW g d) y.k y.d⟩) ∨
   (∃(j:Nat) (y:Root),p=loc d j∧co.fresh[j]?=some y∧z=⟨y.mem,y.k,y.m,sQ (nW g d) y.k y.d⟩)∨(p ∉ g∧p.1≠d+2∧s.roots p=some z):=by
  intro p z hp
  simp only [St.after,Ws] at hp
  cases h1:dn p u with
  |some z1=>
   rw [h1] at hp
   simp only at hp
   obtain ⟨i,y,x,k1,k2,k3,k4,k5,k6⟩:=hu1 p z1 h1
   rw [hp] at k6
   exact .inl ⟨i,y,x,k1,k2,k3,k4,k5,Option.some.inj k6⟩
  |none=>
   rw [h1] at hp
   simp only at hp
   have hpg:=hu2 p h1
   cases h2:dn p (pU g d 0 co.fresh) with
   |some z1=>
    rw [h2] at hp
    simp only at hp
    obtain ⟨j,y,k1,k2,k3⟩:=OA _ _ _ _ h2
    rw [hp] at k3
    exact .inr (.inl ⟨j,y,by rw [k1,Nat.zero_add],k2,Option.some.inj k3⟩)
   |none=>
    rw [h2] at hp
    simp only [Bool.true_and,Option.getD_some] at hp
    by_cases h3:p.1=d+2
    ·rw [beq_iff.2 h3] at hp;cases hp
    ·rw [gJ h3] at hp;exact .inr (.inr ⟨hpg,h3,hp⟩)
 generalize hD:(⟨co.res.back g d,u++pU g d 0 co.fresh,true,jh qc.soft s.roots args' g,(nL co.roots++nL co.fresh).map (nW g d),none,sn++(co.res.back g d).names,g,false⟩:Del)=D at hn hroots
 have hDk:D.kills=jh qc.soft s.roots args' g:=by rw [←hD]
 have hDm:D.make=true:=by rw [←hD]
 have hDr:D.ren=none:=by rw [←hD]
 have hDv:D.v=co.res.back g d:=by rw [←hD]
 have hDp:D.pins=(nL co.roots++nL co.fresh).map (nW g d):=by rw [←hD]
 clear hD
 have hθreg:∀{i:Nat}{p:ay},g[i]?=some p→Cc'.θ (par i)=C.θ p:=by
  intro i p hi
  rw [Po.θ i]
  show C.θ (g.getD i nowhere)=_
  rw [hgd hi]
 have hmw:∀{b:Nat},yD Cc ys b→∃(i:Nat) (p:ay) (x:Root),g[i]?=some p∧s.roots p=some x∧C.F p b:=by
  rintro b ⟨i,x,hx,hb⟩
  obtain ⟨i',q',x',he,hi,hx',_⟩:=hin (par i) x hx
  simp only [Prod.mk.injEq,true_and] at he
  subst he
  have hb:C.F (g.getD i nowhere) b:=hb
  rw [hgd hi] at hb
  exact ⟨i,q',x',hi,hx',hb⟩
 have hmwlt:∀{b:Nat},yD Cc ys b→b<w.heap.size∧¬C.Z b∧¬C.S b:=by
  intro b hb
  obtain ⟨i,p,x,_,hx,hb⟩:=hmw hb
  have:=R.mem.apart p x b hx hb
  exact ⟨this.2.2,this.1,this.2.1⟩
 have hmwold:∀{p:ay}{x:Root}{b:Nat},p ∉ g→s.roots p=some x→C.F p b→¬yD Cc ys b:=by
  intro p x b hp hx hb hm
  obtain ⟨i,p',x',hi,hx',hb'⟩:=hmw hm
  exact R.mem.disj p p' x x' hx hx' (fun h=>hp (h ▸ List.mem_of_getElem? hi)) b hb hb'
 have hZSb:∀{b:Nat},C.Z b∨C.S b→w'.heap[b]?=w.heap[b]?:=by
  intro b hb
  exact Po.kept.block b (R.mem.ro b hb) (fun hm=>hb.elim (hmwlt hm).2.1 (hmwlt hm).2.2)
 have holdb:∀{p:ay}{x:Root}{b:Nat},p ∉ g→s.roots p=some x→C.F p b→w'.heap[b]?=w.heap[b]?:=
  fun hp hx hb=>Po.kept.block _ (R.mem.apart _ _ _ hx hb).2.2 (hmwold hp hx hb)
 have hZ:Sub C.Z Cc'.Z:=Po.Z
 have hzn:∀b,Cc'.Z b→C.Z b∨w.heap.size≤b∨yD Cc ys b:=Po.zn
 have hSS:Cc'.S=fun b=>C.S b∨FU C sn b:=Po.S
 have hSsub:sn.isEmpty=true→Sub Cc'.S C.S:=by
  intro he b hb
  rw [hSS] at hb
  rcases hb with hb|⟨p,hp,_⟩
  ·exact hb
  ·rw [List.isEmpty_iff.1 he] at hp;cases hp
 have hfix:∀(y:Root),(y∈co.roots∨y∈co.fresh)→∀{θ:ay→Nat}{dd:y.k.den}{vs:List Value}{F:BS},Enc w' θ Cc'.Z Cc'.S y.k y.m dd vs F→Enc w' θ Cc'.Z C.S y.k y.m dd vs F:=by
  intro y hy θ dd vs F he
  rcases hdone with h1|h1
  ·exact he.mono (.refl _) (hSsub h1) (.refl _) (fun _ _=>rfl) (fun _ _=>rfl)
  ·exact he.done (hy.elim (S9 _ h1.1.1 y) (S9 _ h1.1.2 y))
 let C':Ctx:=⟨WE g d Cc'.θ C.θ,WE g d Cc'.ρ C.ρ,WE g d Cc'.F C.F,Cc'.Z,C.S⟩
 have hC1:∀{i:Nat}{p:ay},g[i]?=some p→C'.θ p=Cc'.θ (par i)∧C'.ρ p=Cc'.ρ (par i)∧C'.F p=Cc'.F (par i):=
  fun hi=>⟨Y3 hnd hi,Y3 hnd hi,Y3 hnd hi⟩
 have hC2:∀j,C'.θ (loc d j)=Cc'.θ (fr j)∧C'.ρ (loc d j)=Cc'.ρ (fr j)∧C'.F (loc d j)=Cc'.F (fr j):=
  fun j=>⟨Px hslot,Px hslot,Px hslot⟩
 have hC3:∀{p:ay},p ∉ g→p.1≠d+2→C'.θ p=C.θ p∧C'.ρ p=C.ρ p∧C'.F p=C.F p:=
  fun h1 h2=>⟨Y2 h1 h2,Y2 h1 h2,Y2 h1 h2⟩
 have hθall:∀{p:ay},p.1≠d+2→C'.θ p=C.θ p:=by
  intro p hp
  by_cases hg':p∈g
  ·obtain ⟨i,hi⟩:=List.getElem?_of_mem hg'
   rw [(hC1 hi).1,hθreg hi]
  ·exact (hC3 hg' hp).1
 have hbackθ:∀(y:Root),(y∈co.roots∨y∈co.fresh)→∀q∈aS y.k y.d,C'.θ (nW g d q)=Cc'.θ q ∧
   ((∃i,q=par i∧g[i]?=some (nW g d q))∨(∃j,q=fr j∧nW g d q=loc d j)):=by
  intro y hy q hq
  have:=hy.elim (fun h=>hpr y h q hq) (fun h=>hpf y h q hq)
  rcases this with ⟨i,rfl,hi⟩|⟨j,rfl,_⟩
  ·have hgi:g[i]?=some g[i]:=List.getElem?_eq_getElem hi
   have hb:nW g d (par i)=g[i]:=by simp only [nW,hgi]
   rw [hb]
   exact ⟨(hC1 hgi).1,.inl ⟨i,rfl,hgi⟩⟩
  ·exact ⟨(hC2 j).1,.inr ⟨j,rfl,rfl⟩⟩
 have hnewok:∀{p p':ay}{y:Root},Kh co p'=some y→(y∈co.roots∨y∈co.fresh)→C'.θ p=Cc'.θ p'∧C'.ρ p=Cc'.ρ p'∧C'.F p=Cc'.F p'→uz w' C' p ⟨y.mem,y.k,y.m,sQ (nW g d) y.k y.d⟩:=by
  intro p p' y hy hmem ⟨h1,h2,h3⟩
  obtain ⟨G,g1,g2,g3⟩:=Po.mem.ok p' y hy
  refine ⟨G,?_,by rw [h3];exact g2,fun hm=>by rw [h1,h2,h3];exact g3 hm⟩
  show Enc w' C'.θ Cc'.Z C.S y.k y.m _ (C'.ρ p) G
  rw [h2]
  exact (hfix y hmem g1).sQ (fun q hq=>(hbackθ y hmem q hq).1)
 have hcase:∀{p:ay}{z:Root},(s.after (some d) D).roots p=some z →
   (∃p' y,Kh co p'=some y∧(y∈co.roots∨y∈co.fresh)∧(C'.θ p=Cc'.θ p'∧C'.ρ p=Cc'.ρ p'∧C'.F p=Cc'.F p')∧z=⟨y.mem,y.k,y.m,sQ (nW g d) y.k y.d⟩∧((∃i,p'=par i∧g[i]?=some p)∨(∃j,p'=fr j∧p=loc d j))) ∨
   (p ∉ g∧p.1≠d+2∧s.roots p=some z):=by
  intro p z hp
  rcases hroots p z hp with ⟨i,y,x,k1,k2,k3,k4,k5,k6⟩|⟨j,y,k1,k2,k3⟩|h
  ·exact .inl ⟨par i,y,k2,.inl (List.mem_of_getElem? k2),hC1 k1,k6,.inl ⟨i,rfl,k1⟩⟩
  ·exact .inl ⟨fr j,y,k2,.inr (List.mem_of_getElem? k2),by rw [k1];exact hC2 j,k3,.inr ⟨j,rfl,k1⟩⟩
  ·exact .inr h
 have hpq:∀{p:ay}{z:Root},s.roots p=some z→∀q∈aS z.k z.d,q.1≠d+2:=by
  intro p z hz q hq he
  have:=R.pins p z hz q hq (by omega)
  rw [he,hpin] at this;cases this
 have hcallM:Mem w' C' (s.after (some d) D).roots:=by
  refine ⟨?_,?_,?_,?_,?_⟩
  ·intro p z hp
   rcases hcase hp with ⟨p',y,k1,k2,k3,rfl,_⟩|⟨h1,h2,h3⟩
   ·exact hnewok k1 k2 k3
   ·refine (R.mem.ok p z h3).aqh hZ rfl (hC3 h1 h2).1 (hC3 h1 h2).2.1 (hC3 h1 h2).2.2 (fun q hq=>hθall (hpq h3 q hq)) (fun b hb=>?_)
    rcases hb with hb|hb
    ·exact holdb h1 h3 hb
    ·exact hZSb hb
  ·have side:∀{p p':ay}{y z:Root},Kh co p'=some y→C'.F p=Cc'.F p'→∀{p2:ay},p2 ∉ g→p2.1≠d+2→s.roots p2=some z→DI (C'.F p) (C'.F p2):=by
    intro p p' y z k1 k2 p2 h1 h2 h3 b hb hb'
    rw [k2] at hb
    rw [(hC3 h1 h2).2.2] at hb'
    rcases Po.foot p' y b k1 hb with hf|hf
    ·have:=(R.mem.apart p2 z b h3 hb').2.2;omega
    ·exact hmwold h1 h3 hb' hf
   intro p1 p2 z1 z2 hp1 hp2 hne
   rcases hcase hp1 with ⟨p1',y1,k1,_,k3,_,k4⟩|⟨h1,h2,h3⟩<;>rcases hcase hp2 with ⟨p2',y2,l1,_,l3,_,l4⟩|⟨m1,m2,m3⟩
   ·rw [k3.2.2,l3.2.2]
    refine Po.mem.disj p1' p2' y1 y2 k1 l1 ?_
    rintro rfl
    apply hne
    rcases k4 with ⟨i,rfl,hi⟩|⟨j,rfl,hj⟩<;>rcases l4 with ⟨i',he,hi'⟩|⟨j',he,hj'⟩
    ·simp only [Prod.mk.injEq,true_and] at he;subst he
     rw [hi] at hi';exact Option.some.inj hi'
    ·cases he
    ·cases he
    ·simp only [Prod.mk.injEq,true_and] at he;subst he
     rw [hj,hj']
   ·exact side k1 k3.2.2 m1 m2 m3
   ·exact (side l1 l3.2.2 h1 h2 h3).symm
   ·rw [(hC3 h1 h2).2.2,(hC3 m1 m2).2.2];exact R.mem.disj p1 p2 z1 z2 h3 m3 hne
  ·intro p z b hp hb
   show ¬Cc'.Z b∧¬C.S b∧_
   rcases hcase hp with ⟨p',y,k1,_,k3,_,_⟩|⟨h1,h2,h3⟩
   ·rw [k3.2.2] at hb
    have:=Po.mem.apart p' y b k1 hb
    rw [hSS] at this
    exact ⟨this.1,fun h=>this.2.1 (.inl h),this.2.2⟩
   ·rw [(hC3 h1 h2).2.2] at hb
    have h4:=R.mem.apart p z b h3 hb
    exact ⟨fun hz=>(hzn b hz).elim h4.1 (fun h=>h.elim (fun h=>by omega) (hmwold h1 h3 hb)),h4.2.1,Nat.lt_of_lt_of_le h4.2.2 Po.kept.size⟩
  ·intro b hb
   rcases hb with hb|hb
   ·exact Po.mem.ro b (.inl hb)
   ·have:=R.mem.ro b (.inr hb)
    have:=Po.kept.size
    show b<w'.heap.size
    omega
  ·intro p z hp q hq z2 hq2
   rcases hcase hp with ⟨p',y,k1,k2,k3,rfl,_⟩|⟨h1,h2,h3⟩
   ·rw [Rj] at hq
    obtain ⟨q0,hq0,rfl⟩:=List.mem_map.1 hq
    have hb:=(hbackθ y k2 q0 hq0).2
    rcases hroots _ z2 hq2 with ⟨i,y2,x2,l1,l2,l3,l4,l5,rfl⟩|⟨j,y2,l1,l2,rfl⟩|⟨l1,l2,_⟩
    ·rcases hb with ⟨i',rfl,hi'⟩|⟨j',rfl,hj'⟩
     ·rw [Ke hnd hi' l1] at hq0
      exact Po.mem.ptr p' y k1 _ hq0 y2 l2
     ·rw [hj'] at l1;exact absurd rfl (hslot _ (List.mem_of_getElem? l1))
    ·rcases hb with ⟨i',rfl,hi'⟩|⟨j',rfl,hj'⟩
     ·rw [l1] at hi';exact absurd rfl (hslot _ (List.mem_of_getElem? hi'))
     ·rw [hj'] at l1
      simp only [Prod.mk.injEq,true_and] at l1
      subst l1
      exact Po.mem.ptr p' y k1 _ hq0 y2 l2
    ·rcases hb with ⟨i',rfl,hi'⟩|⟨j',rfl,hj'⟩
     ·exact absurd (List.mem_of_getElem? hi') l1
     ·rw [hj'] at l2;exact absurd rfl l2
   ·rcases hroots _ z2 hq2 with ⟨i,y2,x2,l1,l2,l3,l4,l5,rfl⟩|⟨j,y2,l1,l2,rfl⟩|⟨_,_,l3⟩
    ·show y2.mem=true
     rw [l5];exact R.mem.ptr p z h3 q hq x2 l3
    ·exact absurd (by rw [l1]) (hpq h3 q hq)
    ·exact R.mem.ptr p z h3 q hq z2 l3
 have hdn:∀d',some d=some d'→d'<n:=fun d' h=>by cases h;exact hd d hdst
 have hznew:∀b,C'.Z b→C0.Z b∨w0.heap.size≤b∨M0 b:=by
  intro b hb
  rcases hzn b hb with h|h|h
  ·exact R.zn b h
  ·exact .inr (.inl (Nat.le_trans R.kept.size h))
  ·obtain ⟨i,p,x,_,hx,hb'⟩:=hmw h
   exact .inr (R.foot p x b hx hb')
 refine hn _ _ C' (R.put (C':=C') hdn hDr ⟨R.ext.Z.trans hZ,R.ext.S,fun i=>by rw [hθall (by simp)];exact R.ext.θ i⟩ hcallM ?_ ?_ ?_ ?_ ?_ ?_ hznew)
 ·refine Wp ?_
  intro b vs hvw hl hh hb
  simp only [dK,hDm,cond_true,Option.getD_some,hDk,hit,List.any_cons,Bool.or_eq_false_iff] at hh
  have hn1:=amT hl hh.1
  by_cases hall:∀q∈b.names,q ∉ g
  ·refine ac7 (C':=C') R.mem (fun q=>q∈g∨q.1=d+2) hZ rfl (fun q hq=>(hC3 (fun h=>hq (.inl h)) (fun h=>hq (.inr h))).1) (fun q hq=>(hC3 (fun h=>hq (.inl h)) (fun h=>hq (.inr h))).2.1) ?_ ?_ hl (fun q hq h=>h.elim (hall q hq) (hn1 q hq)) hb
   ·intro q z hq hz
    rcases hroots q z hz with ⟨i,_,_,k1,_⟩|⟨j,_,k1,_⟩|⟨_,_,h⟩
    ·exact absurd (.inl (List.mem_of_getElem? k1)) hq
    ·exact absurd (.inr (by rw [k1])) hq
    ·exact h
   ·intro b' hb'
    rcases hb' with hb'|hb'|⟨q,z,hq,hz,hb'⟩
    ·exact hZSb (.inl hb')
    ·exact hZSb (.inr hb')
    ·exact holdb (fun h=>hq (.inl h)) hz hb'
  ·have hreg1:∀{q:ay}{z:Root},q∈g→(s.after (some d) D).roots q=some z→∃x,s.roots q=some x∧z.k=x.k∧z.mem=x.mem∧bK C' q z=bK C q x∧(x.mem=false→C'.ρ q=C.ρ q)∧(C'.ρ q).length=z.k.size:=by
    intro q z hq hz
    rcases hroots q z hz with ⟨i,y,x,k1,k2,k3,k4,k5,rfl⟩|⟨j,_,k1,_⟩|⟨h,_,_⟩
    ·refine ⟨x,k3,k4,k5,?_,fun hm=>?_,?_⟩
     ·unfold bK
      rw [hθall (by rintro he;exact hslot q hq he)]
      simp only [k5]
     ·rw [(hC1 k1).2.1,Po.ρ i y k2 (by rw [k5];exact hm)]
      show C.ρ (g.getD i nowhere)=_
      rw [hgd k1]
     ·obtain ⟨G,g1,_⟩:=hcallM.ok q _ hz
      exact g1.len
    ·rw [k1] at hq;exact absurd rfl (hslot _ hq)
    ·exact absurd hq h
   have hold1:∀{q:ay}{z:Root}{p:Path},q ∉ g→(s.after (some d) D).roots q=some z→q.1≠d+2→s.roots q=some z∧(cO z.k z.d z.m p→eU w' z.k (C'.ρ q) (bK C' q z) p=eU w z.k (C.ρ q) (bK C q z) p):=by
    intro q z p hq hz hq1
    rcases hroots q z hz with ⟨i,y,x,k1,_⟩|⟨j,_,k1,_⟩|⟨_,_,h3⟩
    ·exact absurd (List.mem_of_getElem? k1) hq
    ·rw [k1] at hq1;exact absurd rfl hq1
    ·refine ⟨h3,fun hcg=>?_⟩
     obtain ⟨G,hG1,hG2,_⟩:=R.mem.ok q z h3
     obtain ⟨_,_,_,hgp⟩:=jy p hcg
     have hb:bK C' q z=bK C q z:=by unfold bK;rw [(hC3 hq hq1).1]
     rw [(hC3 hq hq1).2.1,hb]
     refine zU p hG1 (fun b hb=>?_) ⟨Unit,(),fun _ _ _=>some (),by rw [hgp]⟩
     rcases hb with hb|hb
     ·exact holdb hq h3 (hG2 b hb)
     ·exact hZSb hb
   have hpl:∀{q:ay}{z x:Root}(p':Path)(k':K)(cs:List Value)(b1:Option (Nat×Nat)),q∈g→(s.after (some d) D).roots q=some z→s.roots q=some x→x.k.at p'=some k'→cO x.k x.d x.m p' →
     eU w x.k (C.ρ q) (bK C q x) p'=some (cs,b1) →
     (hit (jh qc.soft s.roots args' g) (.ptr q p')=false→cO z.k z.d z.m p'∧∃cs',eU w' z.k (C'.ρ q) (bK C' q z) p'=some (cs',b1)) ∧
     ((∃e,k'=.sl e)→hit (jh qc.soft s.roots args' g) (.ref q p')=false→cO z.k z.d z.m p'∧eU w' z.k (C'.ρ q) (bK C' q z) p'=some (cs,b1)):=by
    intro q z x p' k' cs b1 hqg hz hx hat hcg hlc
    rcases aaI qc.soft s.roots args' g with hk|⟨p0,l0,q0,hsf,ha,hg0,hk⟩
    ·rw [hk]
     obtain ⟨x',x1,x2,x3,x4,x5,x6⟩:=hreg1 hqg hz
     rw [hx] at x1
     cases x1
     refine ⟨fun hh=>?_,fun _ hh=>?_⟩
     ·have hkk:=WJ g hh q hqg x hx
      have hidx:dM p'=false:=by
       cases hm:x.mem with
       |true=>rw [hm] at hkk;simpa [Kill.hits,bW.2 rfl,under] using hkk
       |false=>rw [hm] at hkk;simpa [Kill.hits,bW.2 rfl] using hkk
      obtain ⟨oo,hoo⟩:=UH p' hidx hat
      have hlen:(C.ρ q).length=x.k.size:=by obtain ⟨G,g1,_⟩:=R.mem.ok q x hx;exact g1.len
      rw [(hoo w (C.ρ q) (bK C q x) hlen).1] at hlc
      simp only [Option.some.injEq,Prod.mk.injEq] at hlc
      refine ⟨sF p' hidx (by rw [x2];exact hat),((C'.ρ q).drop oo).take k'.size,?_⟩
      rw [x4,x2,(hoo w' (C'.ρ q) (bK C q x) (by rw [x6,x2])).1,hlc.2]
     ·have hkk:=WJ g hh q hqg x hx
      have hmp:x.mem=false∧p'=[]:=by
       cases hm:x.mem with
       |true=>rw [hm] at hkk;simp [Kill.hits,bW.2 rfl,under] at hkk
       |false=>rw [hm] at hkk;simpa [Kill.hits,bW.2 rfl] using hkk
      obtain ⟨hm,rfl⟩:=hmp
      rw [cZ] at hlc
      exact ⟨dP _ _ _,by rw [cZ,x5 hm,x4];exact hlc⟩
    ·rw [hk]
     have hq0:g[0]?=some q0:=by rw [hg0];rfl
     have hqq:q=q0:=by rw [hg0] at hqg;exact List.mem_singleton.1 hqg
     subst hqq
     have hys:ys=[⟨x.mem,x.k,x.m,sQ (adz g) x.k x.d⟩]:=by
      have hl1:ys.length=1:=by rw [hysl,hg0];rfl
      obtain ⟨y0,rfl⟩:∃y0,ys=[y0]:=by
       match ys,hl1 with
       |[y0],_=>exact ⟨y0,rfl⟩
      obtain ⟨i',q',x',he,hi',hx',hz'⟩:=hin (par 0) y0 rfl
      simp only [Prod.mk.injEq,true_and] at he
      subst he
      rw [hq0] at hi'
      cases hi'
      rw [hx] at hx'
      cases hx'
      rw [hz']
     obtain ⟨d',m',e,hco',hst⟩:=Sf hsf p0 l0 _ ha hys
     have hρ0:Cc.ρ (par 0)=C.ρ q:=by show C.ρ (g.getD 0 nowhere)=_;rw [hgd hq0]
     have hb0:bK Cc (par 0) ⟨x.mem,x.k,x.m,sQ (adz g) x.k x.d⟩=bK C q x:=by
      unfold bK
      show (if x.mem=true then some (C.θ (g.getD 0 nowhere),0) else none)=_
      rw [hgd hq0]
     have hzz:z=⟨x.mem,x.k,m',sQ (nW g d) x.k d'⟩:=by
      rcases hroots q z hz with ⟨i,y,x',k1,k2,k3,k4,k5,rfl⟩|⟨j,_,k1,_⟩|⟨h,_,_⟩
      ·have hi0:i=0:=Ke hnd k1 hq0
       subst hi0
       rw [hco'] at k2
       simp only [List.getElem?_cons_zero,Option.some.injEq] at k2
       subst k2
       rfl
      ·exact absurd (by rw [k1]) (hslot _ hqg)
      ·exact absurd hqg h
     have hbz:bK C' q z=bK C q x:=by
      obtain ⟨x',x1,_,_,x4,_,_⟩:=hreg1 hqg hz
      rw [hx] at x1
      cases x1
      exact x4
     rw [hρ0,hb0] at hst
     obtain ⟨s1,s2⟩:=hst p' k' cs b1 hat (wR p' hcg) hlc
     have hkr:∀av,hit [Kill.at q (p0++[.idx 0])] av=(Kill.at q (p0++[.idx 0])).hits av:=fun av=>by simp [hit]
     rw [hbz,(hC1 hq0).2.1]
     subst hzz
     refine ⟨fun hh=>?_,fun he hh=>?_⟩
     ·rw [hkr] at hh
      obtain ⟨u1,u2⟩:=s1 (.inr (by simpa [Kill.hits,bW.2 rfl] using hh))
      exact ⟨wR p' u1,u2⟩
     ·rw [hkr] at hh
      obtain ⟨u1,u2⟩:=s2 he (.inr (by simpa [Kill.hits,bW.2 rfl] using hh))
      exact ⟨wR p' u1,u2⟩
   have hin2:∀{q:ay},(∀q'∈b.names,q'=q)→q∈g:=fun {q} h=>by
    by_cases hq:q∈g
    ·exact hq
    ·exact absurd (fun q' hq'=>by rw [h q' hq'];exact hq) hall
   cases b with
   |ptr q p=>
    have hqg:q∈g:=hin2 fun q' hq'=>by simpa [AV.names] using hq'
    obtain ⟨b,off,rfl,h0,hr⟩:=hb
    refine ⟨b,off,rfl,fun h=>by rw [hθall (hn1 q (by simp [AV.names]))];exact h0 h,fun z hz=>?_⟩
    obtain ⟨x,x1,x2,x3,x4,x5,x6⟩:=hreg1 hqg hz
    obtain ⟨k',cs,r1,r2,r3⟩:=hr x x1
    obtain ⟨u1,cs',u2⟩:=(hpl p k' cs _ hqg hz x1 r1 r2 r3).1 hh.2
    exact ⟨k',cs',by rw [x2];exact r1,u1,u2⟩
   |ref q p=>
    have hqg:q∈g:=hin2 fun q' hq'=>by simpa [AV.names] using hq'
    obtain ⟨v2,rfl,hr⟩:=hb
    refine ⟨v2,rfl,fun z hz=>?_⟩
    obtain ⟨x,x1,x2,x3,x4,x5,x6⟩:=hreg1 hqg hz
    obtain ⟨e2,base2,r1,r2,r3⟩:=hr x x1
    obtain ⟨u1,u2⟩:=(hpl p _ _ _ hqg hz x1 r1 r2 r3).2 ⟨e2,rfl⟩ hh.2
    exact ⟨e2,base2,by rw [x2];exact r1,u1,u2⟩
   |slc q p lo k0=>
    have hqg:q∈g:=hin2 fun q' hq'=>by simpa [AV.names] using hq'
    obtain ⟨v2,v3,rfl,hr⟩:=hb
    refine ⟨v2,v3,rfl,fun z hz=>?_⟩
    obtain ⟨x,x1,x2,x3,x4,x5,x6⟩:=hreg1 hqg hz
    obtain ⟨e2,base2,r1,r2,r3,r4⟩:=hr x x1
    have hh2:hit (jh qc.soft s.roots args' g) (.ref q p)=false:=by rw [←ap9];exact hh.2
    obtain ⟨u1,u2⟩:=(hpl p _ _ _ hqg hz x1 r1 r2 r3).2 ⟨e2,rfl⟩ hh2
    exact ⟨e2,base2,by rw [x2];exact r1,u1,u2,r4⟩
   |fn f0 caps0=>
    obtain ⟨rfl,hcp⟩:=hb
    refine ⟨?_,fun q hq z hz=>?_⟩
    ·have:DJ C.θ caps0=DJ C'.θ caps0:=by
      unfold DJ
      congr 1
      exact List.map_congr_left fun q hq=>by rw [hθall (hn1 q (by simpa [AV.names] using hq))]
     rw [this]
    ·by_cases hqg:q∈g
     ·obtain ⟨x,x1,x2,x3,_⟩:=hreg1 hqg hz
      rw [x3];exact hcp q hq x x1
     ·exact hcp q hq z (hold1 (p:=[]) hqg hz (hn1 q (by simpa [AV.names] using hq))).1
   |vw _ _ _=>simp [AV.Wi] at hvw
   |pair _ _=>simp [AV.dS] at hl
   |tcons _ _=>simp [AV.dS] at hl
   |_=>exact absurd (by simp [AV.names]) hall
 ·intro d' _
  rw [hDv]
  refine bH.back (P0:=fun av=>av.done=true∨Sub Cc'.S C'.S) (fun a b h=>⟨h.imp (fun h=>by simp only [AV.done,Bool.and_eq_true] at h;exact h.1) id,h.imp (fun h=>by simp only [AV.done,Bool.and_eq_true] at h;exact h.2) id⟩)
   (fun av vs h0 hav=>AVC.back (fun i q hi=>⟨fun z hz=>?_,(hC1 hi).1,(hC1 hi).2.1⟩) (fun j=>⟨fun z hz=>?_,(hC2 j).1,(hC2 j).2.1⟩) ?_ av vs h0 hav) ?_ Po.val
  ·rcases hroots q z hz with ⟨i',y,x,k1,k2,k3,k4,k5,rfl⟩|⟨j,_,k1,_⟩|⟨h,_,_⟩
   ·rw [Ke hnd hi k1]
    exact ⟨y,k2,rfl,rfl,rfl,fun p h=>wR p h⟩
   ·rw [k1] at hi;exact absurd rfl (hslot _ (List.mem_of_getElem? hi))
   ·exact absurd (List.mem_of_getElem? hi) h
  ·rcases hroots _ z hz with ⟨i',y,x,k1,_⟩|⟨j',y,k1,k2,rfl⟩|⟨_,h,_⟩
   ·exact absurd rfl (hslot _ (List.mem_of_getElem? k1))
   ·simp only [Prod.mk.injEq,true_and] at k1
    subst k1
    exact ⟨y,k2,rfl,rfl,rfl,fun p h=>wR p h⟩
   ·exact absurd rfl h
  ·intro z k dd vs h0 hpl he
   have he2:Enc w' C'.θ Cc'.Z Cc'.S k (.imm z) dd vs noB:=he.mono (.refl _) (.refl _) (.refl _) (fun _ _=>rfl) (fun p hp=>by rw [bV dd hpl] at hp;cases hp)
   rcases h0 with h0|h0
   ·simp only [AV.done,Bool.or_eq_true] at h0
    rcases h0 with h0|h0
    ·exact he2.done h0
    ·exact Enc.flat h0 he2
   ·exact he2.mono (.refl _) h0 (.refl _) (fun _ _=>rfl) (fun _ _=>rfl)
  ·rcases hdone with h1|h1
   ·exact .inr (hSsub h1)
   ·exact .inl h1.2
 ·refine R.kept.trans Po.kept (fun b hb hm=>?_)
  obtain ⟨i,p,x,_,hx,hb'⟩:=hmw hm
  exact (R.foot p x b hx hb').elim (fun h=>by omega) id
 ·intro p z b hp hb
  rcases hcase hp with ⟨p',y,k1,_,k3,_,_⟩|⟨h1,h2,h3⟩
  ·rw [k3.2.2] at hb
   rcases Po.foot p' y b k1 hb with hf|hf
   ·exact .inl (Nat.le_trans R.kept.size hf)
   ·obtain ⟨i,p2,x,_,hx,hb'⟩:=hmw hf
    exact R.foot p2 x b hx hb'
  ·rw [(hC3 h1 h2).2.2] at hb
   exact R.foot p z b h3 hb
 ·intro p z hp q hq h2
  simp only [St.after,Bool.or_eq_true,List.any_eq_true]
  rcases hcase hp with ⟨p',y,k1,k2,k3,rfl,_⟩|⟨_,_,h3⟩
  ·rw [Rj] at hq
   obtain ⟨q0,hq0,rfl⟩:=List.mem_map.1 hq
   refine .inr ⟨nW g d q0,?_,beq_iff.2 rfl⟩
   rw [hDp]
   refine List.mem_map.2 ⟨q0,List.mem_append.2 ?_,rfl⟩
   exact k2.imp (fun h=>SY _ h hq0) (fun h=>SY _ h hq0)
  ·exact .inl (R.pins p z h3 q hq h2)
 ·intro i z hp hm
  rcases hroots _ z hp with ⟨i',y,x,k1,k2,k3,k4,k5,rfl⟩|⟨j,_,k1,_⟩|⟨h1,h2,h3⟩
  ·have hm':y.mem=false:=hm
   rw [(hC1 k1).2.1,Po.ρ i' y k2 hm']
   show C.ρ (g.getD i' nowhere)=_
   rw [hgd k1]
   exact R.parρ i x k3 (by rw [←k5];exact hm')
  ·cases k1
  ·rw [(hC3 h1 h2).2.1];exact R.parρ i z h3 hm
end
end Go.Abs
namespace Go.Abs
variable {Γ : Glb}
section
variable {P : Program} {V : Env} {w0 w : World} {M0 : BS} {n : Nat} {C0 C : Ctx} {s : St} {a : Act}
variable {R' : Type} {r : R'} {o : Oper} {c : Del → Option R'}
def avV(C:Ctx)(rs:RF)(z:Root)(w w':World):Prop:=
 ∃(r:ay) (i j:Nat) (y:Root) (b off len cap:Nat) (cs:Array Value) (T:TypeId) (v:Value),anx z.k z.d=some (Int.ofNat r.1,Int.ofNat r.2,Int.ofNat i,Int.ofNat j)∧rs r=some y ∧
  C.ρ r=[.slice (some ⟨b,off,none⟩) len cap]∧w.heap[b]?=some (.cells cs T (0,0))∧C.F r b∧i<len∧j<len∧off+len≤cs.size∧cs[off+j]?=some v∧w'=w.setRow b (bA cs (off+i) [v])
def Und(C:Ctx)(rs:RF)(w w':World):Prop:=match rs dF with
 |none=>w'=w
 |some z=>avV C rs z w w'
def D9(w0:World)(M0:BS)(n:Nat)(C0 C:Ctx)(s:St)(a:Act)(w':World):Prop:=∃w,Rel w0 M0 n C0 C s a w∧Und C s.roots w w'
def air(P:Program)(w0:World)(M0:BS)(n:Nat)(C0:Ctx)(s:St)(a:Act)(w':World)(o:Oper)(x:Del):Prop:=
 (∀d,o.dst=some d→d<n)→ku s o.dst x=true→∀(next:Act→World→Prop)(Q:Exit→Act→World→Prop),
  (∀a' w'' C',D9 w0 M0 n C0 C' (s.after o.dst x) a' w''→next a' w'')→o.wp P a w' next Q
theorem Rel.two(R:Rel w0 M0 n C0 C s a w)(h:s.roots dF=none):D9 w0 M0 n C0 C s a w:=⟨w,R,by unfold Und;rw [h]⟩
theorem D9.one{w':World}(R:D9 w0 M0 n C0 C s a w')(h:s.roots dF=none):Rel w0 M0 n C0 C s a w':=by
 obtain ⟨w,R,hu⟩:=R
 unfold Und at hu
 rw [h] at hu
 subst hu
 exact R
structure apf(w:World)(C:Ctx)(a:Act)(r:ay)(i j:Nat)(e:K)(m:Mask)(d:List (K.sl e).den)(x y:Operand)(b off cap:Nat)(cs:Array Value)(T:TypeId)(v:Value)(G:Nat→BS):Prop where
 ρ:C.ρ r=[.slice (some ⟨b,off,none⟩) d.length cap]
 heap:w.heap[b]?=some (.cells cs T (0,0))
 le:d.length≤cap
 fit:off+cap≤cs.size
 F:C.F r b
 hi:i<d.length
 hj:j<d.length
 ptr:a.eval x=.pointer (some ⟨b,off+i,none⟩)
 at_:cs[off+j]?=some v
 val:a.eval y=v
 cells:v.cells = #[v]
 one:v.oneCell'=true
 gs:∀i,Sub (G i) (C.F r)∧¬G i b
 dj:∀i j,i≠j→DI (G i) (G j)
 el:∀k x,d[k]?=some x→Enc w C.θ C.Z C.S (.sl e) m.elem x (sub cs (off+k) 1) (G k)
theorem sub_one{cs:Array Value}{off:Nat}{v:Value}(h:cs[off]?=some v):sub cs off 1=[v]:=by
 unfold sub
 have hlt:=(Array.getElem?_eq_some_iff.1 h).1
 rw [List.drop_eq_getElem_cons (by simpa using hlt)]
 have:=(Array.getElem?_eq_some_iff.1 h).2
 simp [this]
theorem ai4(R:Rel w0 M0 n C0 C s a w){q:ay}{i j:Nat}{e:K}{m:Mask}{d:List (K.sl e).den}{x y:Operand}(hr:s.roots q=some ⟨false,.sl (.sl e),m,d⟩)(hown:m.dU=true)(hlive:m.live=true)
  (hx:bf s.tmps x=.ptr q [.idx i]) (hy:bf s.tmps y=.ref q [.idx j]):∃b off cap cs T v G,apf w C a q i j e m d x y b off cap cs T v G:=by
 have hp:=R.eval x
 rw [hx] at hp
 obtain ⟨⟨bp,offp,hpv,_,hpr⟩,_⟩:=hp.cell (by simp) rfl (by simp) (by simp)
 have hv:=R.eval y
 rw [hy] at hv
 obtain ⟨⟨v,hvv,hvr⟩,hvc⟩:=hv.cell (by simp) rfl (by simp) (by simp)
 simp only [List.cons.injEq,and_true] at hpv hvv
 obtain ⟨k1,c1,_,hcg,hloc⟩:=hpr _ hr
 obtain ⟨e2,base,_,hcg2,hloc2⟩:=hvr _ hr
 obtain ⟨G0,he,hs,_⟩:=R.mem.ok q _ hr
 obtain ⟨_,xi,hxi,_⟩:=hcg
 obtain ⟨_,xj,hxj,_⟩:=hcg2
 have hi:i<List.length d:=(List.getElem?_eq_some_iff.1 hxi).1
 have hj:j<List.length d:=(List.getElem?_eq_some_iff.1 hxj).1
 have hbase:bK C q ⟨false,.sl (.sl e),m,d⟩=none:=by unfold bK;rw [if_neg (by simp)]
 rcases he with ⟨hg,_⟩|⟨_,hd,_⟩|⟨_,b,off,cap,cs,T,fz,hρ,hc,hle,hfit,hok,G,hG,hdj,hel⟩
 ·subst hg;simp [Mask.dU] at hown
 ·simp only at hd;rw [hd] at hi;simp at hi
 ·have hbF:G0 b∧fz=(0,0):=by cases m<;>simp_all [Mask.dU,Og]
  obtain ⟨hbF,rfl⟩:=hbF
  simp only [K.size,Nat.mul_one] at hfit hel
  rw [hbase] at hloc hloc2
  rw [hρ] at hloc hloc2
  simp only [eU,lM,hc,K.size,Nat.mul_one] at hloc hloc2
  simp only [Option.some.injEq,Prod.mk.injEq] at hloc hloc2
  have hle:List.length d≤cap:=hle
  have hlt:off+j<cs.size:=by omega
  have hs1:=sub_one (Array.getElem?_eq_getElem hlt)
  rw [hs1] at hloc2
  simp only [List.cons.injEq,and_true] at hloc2
  have hel':=hel j xj hxj
  rw [hs1,hloc2.1] at hel'
  refine ⟨b,off,cap,cs,T,v,G,hρ,hc,hle,hfit,hs b hbF,hi,hj,?_,?_,hvv,?_,hel'.one (Mask.Q0 hlive) v (by simp),fun k=>⟨(hG k).1.trans hs,(hG k).2⟩,hdj,hel⟩
  ·rw [hpv,←hloc.2.1,←hloc.2.2]
  ·rw [Array.getElem?_eq_getElem hlt,hloc2.1]
  ·rw [←hvv];exact hvc
theorem aj5(hT:gq P V){t:TypeId}{e:K}(hk:V.k t=some (.sl e)){x y:Operand}(ho:o.op=.store t x y){b off:Nat}{cs:Array Value}{T:TypeId}{v:Value}{w:World}(hc:w.heap[b]?=some (.cells cs T (0,0)))
  (hp:a.eval x=.pointer (some ⟨b,off,none⟩)) (hv:a.eval y=v) (h1:v.cells = #[v]) (h2:v.oneCell'=true) (hfit:off<cs.size):(execOp a.eval o).run P w=.ok .skip (w.setRow b (bA cs off [v])):=by
 obtain ⟨ti,hti,hk⟩:=Env.wz hk
 have hty:=hT.ty _ _ hti
 have hrun:=PO (w:=w) hty hc (v:=v) (off:=off) (by rw [h1,hk];rfl) (by rw [h1];exact hfit) (by rw [h1];simpa using h2)
 rw [h1] at hrun
 simp only [execOp,ho,Sem.run_bind,hp,hv,hrun,Result.andThen_ok,Sem.run_pure]
theorem qU{x:Del}{d:Option Nat}(hm:x.make=false)(q:ay):(s.after d x).roots q=match dn q x.u with
  |some y=>y
  |none=>s.roots q:=by
 simp only [St.after,hm,Bool.false_and,cond_false]
 rfl
theorem alI(hT:gq P V)(R:Rel w0 M0 n C0 C s a w){q:ay}{i j:Nat}{e:K}{m:Mask}{d:List (K.sl e).den}{t:TypeId}{x y:Operand}(ho:o.op=.store t x y)(hk:V.k t=some (.sl e))
  (hr:s.roots q=some ⟨false,.sl (.sl e),m,d⟩) (hown:m.dU=true) (hlive:m.live=true) (hx:bf s.tmps x=.ptr q [.idx i]) (hy:bf s.tmps y=.ref q [.idx j]) (hn:s.roots dF=none) :
  air P w0 M0 n C0 s a w o ⟨.dead,[(dF,some (Pw q i j))],false,[.of dF],[],none,[q],[dF],true⟩:=by
 obtain ⟨b,off,cap,cs,T,v,G,H⟩:=ai4 R hr hown hlive hx hy
 have hqp:q≠dF:=by rintro rfl;rw [hn] at hr;cases hr
 intro hd hal next Q hnx
 unfold Oper.wp
 rw [aj5 hT hk ho H.heap H.ptr H.val H.cells H.one (by have:=H.le;have:=H.fit;have:=H.hi;omega)]
 show next (a.put o.dst undef) _
 have hrs:∀q' y',(s.after o.dst ⟨.dead,[(dF,some (Pw q i j))],false,[.of dF],[],none,[q],[dF],true⟩).roots q'=some y'→(q'=dF∧y'=Pw q i j)∨(q'≠dF∧s.roots q'=some y'):=by
  intro q' y' h
  rw [qU rfl] at h
  by_cases hq:q'=dF
  ·rw [hq] at h ⊢
   simp only [dn,bW.2 rfl,cond_true,Option.some.injEq] at h
   exact .inl ⟨rfl,h.symm⟩
  ·simp only [dn,gN hq,cond_false] at h
   exact .inr ⟨hq,h⟩
 refine hnx _ _ ⟨C.θ,fun q'=>if q'=dF then [.int .i64 (Int.ofNat q.1),.int .i64 (Int.ofNat q.2),.int .i64 (Int.ofNat i),.int .i64 (Int.ofNat j)] else C.ρ q',fun q'=>if q'=dF then noB else C.F q',C.Z,C.S⟩ ⟨w,?_,?_⟩
 ·refine R.put hd rfl ⟨R.ext.Z,R.ext.S,R.ext.θ⟩ ⟨?_,?_,?_,R.mem.ro,?_⟩ ?_ (fun _ _=>bH.dead) R.kept ?_ ?_ ?_ R.zn
  ·intro q' y' h
   rcases hrs q' y' h with ⟨rfl,rfl⟩|⟨h1,h2⟩
   ·refine ⟨noB,?_,fun _ h=>h.elim,fun h=>by cases h⟩
    simp only [if_true]
    exact ⟨[_],[_,_,_],noB,noB,rfl,fun _ h=>h,fun _ h=>h,fun _ h=>h.elim,rfl,[_],[_,_],noB,noB,rfl,fun _ h=>h,fun _ h=>h,fun _ h=>h.elim,rfl,[_],[_],noB,noB,rfl,fun _ h=>h,fun _ h=>h,fun _ h=>h.elim,rfl,rfl⟩
   ·exact (R.mem.ok q' y' h2).keep rfl rfl rfl (if_neg h1) (if_neg h1) (fun _ _=>rfl) (fun _ _=>rfl)
  ·intro r1 r2 x1 x2 h1 h2 hne b' hb1 hb2
   rcases hrs r1 x1 h1 with ⟨rfl,rfl⟩|⟨k1,k2⟩
   ·simp only [if_true] at hb1;exact hb1
   ·rcases hrs r2 x2 h2 with ⟨rfl,rfl⟩|⟨l1,l2⟩
    ·simp only [if_true] at hb2;exact hb2
    ·simp only [if_neg k1,if_neg l1] at hb1 hb2
     exact R.mem.disj r1 r2 x1 x2 k2 l2 hne b' hb1 hb2
  ·intro r1 x1 b' h1 hb
   rcases hrs r1 x1 h1 with ⟨rfl,rfl⟩|⟨k1,k2⟩
   ·simp only [if_true] at hb;exact hb.elim
   ·simp only [if_neg k1] at hb;exact R.mem.apart r1 x1 b' k2 hb
  ·intro r1 x1 h1 p hp y1 hy1
   rcases hrs r1 x1 h1 with ⟨rfl,rfl⟩|⟨k1,k2⟩
   ·simp [Pw,aqL,aS] at hp
   ·rcases hrs p y1 hy1 with ⟨rfl,rfl⟩|⟨l1,l2⟩
    ·have hp1:=R.pins r1 x1 k2 _ hp (Nat.le_refl 1)
     simp only [ku,LP,bW.2 rfl,Bool.true_or,Bool.not_true,Bool.false_or,Bool.and_eq_true,Bool.not_eq_true'] at hal
     have h1:s.pins 1=true:=hp1
     rw [hal.2] at h1
     cases h1
    ·exact R.mem.ptr r1 x1 k2 p hp y1 l2
  ·intro av vs hl hh hav
   have hnm:∀q'∈av.names,¬q'=dF:=by
    have:=abC (e:=[dF]) hl hh
    intro q' hq' he;exact this q' hq' (by rw [he];simp)
   refine kN (C':=⟨C.θ,fun q'=>if q'=dF then [.int .i64 (Int.ofNat q.1),.int .i64 (Int.ofNat q.2),.int .i64 (Int.ofNat i),.int .i64 (Int.ofNat j)] else C.ρ q',fun q'=>if q'=dF then noB else C.F q',C.Z,C.S⟩) R.mem (fun q'=>q'=dF) rfl rfl (fun _ _=>rfl) (fun q' h=>if_neg h) (fun q' y' h hy'=>?_) (fun _ _=>rfl) hl hnm hav
   rcases hrs q' y' hy' with ⟨h1,_⟩|⟨_,h2⟩
   ·exact absurd h1 h
   ·exact h2
  ·intro r1 x1 b' h1 hb
   rcases hrs r1 x1 h1 with ⟨rfl,rfl⟩|⟨k1,k2⟩
   ·simp only [if_true] at hb;exact hb.elim
   ·simp only [if_neg k1] at hb;exact R.foot r1 x1 b' k2 hb
  ·intro r1 x1 h1 p hp h2
   rcases hrs r1 x1 h1 with ⟨rfl,rfl⟩|⟨k1,k2⟩
   ·simp [Pw,aqL,aS] at hp
   ·simp only [St.after,List.any_nil,Bool.or_false];exact R.pins r1 x1 k2 p hp h2
  ·intro k y1 h1 hm
   rcases hrs _ y1 h1 with ⟨h,_⟩|⟨k1,k2⟩
   ·cases h
   ·simp only [if_neg k1];exact R.parρ k y1 k2 hm
 ·have hpr:(s.after o.dst ⟨.dead,[(dF,some (Pw q i j))],false,[.of dF],[],none,[q],[dF],true⟩).roots dF=some (Pw q i j):=by
   rw [qU rfl];simp only [dn,bW.2 rfl,cond_true]
  unfold Und
  rw [hpr]
  refine ⟨q,i,j,⟨false,.sl (.sl e),m,d⟩,b,off,d.length,cap,cs,T,v,rfl,?_,?_,H.heap,?_,H.hi,H.hj,by have:=H.le;have:=H.fit;omega,H.at_,rfl⟩
  ·rw [qU rfl];simp only [dn,gN hqp,cond_false];exact hr
  ·simp only [if_neg hqp];exact H.ρ
  ·simp only [if_neg hqp];exact H.F
theorem anJ{cs:Array Value}{off:Nat}{v:Value}(h:off<cs.size):bA cs off [v]=cs.setIfInBounds off v:=by
 apply Array.ext'
 unfold bA
 rw [Array.toList_setIfInBounds,List.set_eq_take_append_cons_drop]
 simp [h]
theorem aoG{z:Root}{q r:ay}{q1 q2 i1 i2:Int}{i j:Nat}(h:anx z.k z.d=some (q1,q2,i1,i2))(h':anx z.k z.d=some (Int.ofNat r.1,Int.ofNat r.2,Int.ofNat i,Int.ofNat j))(h1:(Nat.beq q1.toNat q.1&&Nat.beq q2.toNat q.2)=true) :
  r=q∧i1=Int.ofNat i∧i2=Int.ofNat j:=by
 rw [h] at h'
 simp only [Option.some.injEq,Prod.mk.injEq] at h'
 obtain ⟨rfl,rfl,rfl,rfl⟩:=h'
 rw [Bool.and_eq_true] at h1
 exact ⟨Prod.ext (Nat.eq_of_beq_eq_true h1.1) (Nat.eq_of_beq_eq_true h1.2),rfl,rfl⟩
theorem agv{α:Type}{i j:Nat}{l:List α}{x y:α}(hi:l[i]?=some x)(hj:l[j]?=some y)(k:Nat):(Cx i j l)[k]?=if k=i then some y else if k=j then some x else l[k]?:=by
 unfold Cx
 rw [hi,hj]
 simp only
 have h1:=(List.getElem?_eq_some_iff.1 hi).1
 have h2:=(List.getElem?_eq_some_iff.1 hj).1
 rw [List.getElem?_set,List.getElem?_set]
 simp only [List.length_set]
 by_cases hk:k=j
 ·subst hk
  rw [if_pos rfl,if_pos h2]
  by_cases hki:k=i
  ·subst hki;rw [if_pos rfl];rw [hi] at hj;exact hj
  ·rw [if_neg hki,if_pos rfl]
 ·rw [if_neg (Ne.symm hk)]
  by_cases hki:k=i
  ·subst hki;rw [if_pos rfl,if_pos rfl,if_pos h1]
  ·rw [if_neg (Ne.symm hki),if_neg hki,if_neg hk]
theorem MF{α:Type}{i j:Nat}{l:List α}:(Cx i j l).length=l.length:=by
 unfold Cx
 split<;>simp
theorem ai3(hT:gq P V){w':World}(R:Rel w0 M0 n C0 C s a w){q:ay}{i j:Nat}{e:K}{m:Mask}{d:List (K.sl e).den}{t:TypeId}{x y:Operand}(ho:o.op=.store t x y)(hk:V.k t=some (.sl e))
  (hr:s.roots q=some ⟨false,.sl (.sl e),m,d⟩) (hown:m.dU=true) (hlive:m.live=true) (hx:bf s.tmps x=.ptr q [.idx i]) (hy:bf s.tmps y=.ref q [.idx j]) (hqp:dF≠q)
  {b0 off0 len0 cap0:Nat} {cs0:Array Value} {T0:TypeId} {v0:Value} (g1:C.ρ q=[.slice (some ⟨b0,off0,none⟩) len0 cap0]) (g2:w.heap[b0]?=some (.cells cs0 T0 (0,0))) (g3:cs0[off0+i]?=some v0) (g4:w'=w.setRow b0 (bA cs0 (off0+j) [v0])) :
  air P w0 M0 n C0 s a w' o ⟨.dead,[(dF,none),(q,some ⟨false,.sl (.sl e),m,Cx i j d⟩)],false,[.at q [.idx 0]],[],none,[q],[dF,q],true⟩:=by
 obtain ⟨b,off,cap,cs,T,v,G,H⟩:=ai4 R hr hown hlive hx hy
 have h1:=H.ρ
 rw [g1] at h1
 simp only [List.cons.injEq,and_true,Value.slice.injEq,Option.some.injEq,Addr.mk.injEq] at h1
 obtain ⟨⟨rfl,rfl⟩,rfl,rfl⟩:=h1
 have h2:=H.heap
 rw [g2] at h2
 simp only [Option.some.injEq,Obj.cells.injEq,and_true] at h2
 obtain ⟨rfl,rfl⟩:=h2
 have hle:=H.le
 have hfit:=H.fit
 have hi:=H.hi
 have hj:=H.hj
 have hlti:off0+i<cs0.size:=by omega
 have hltj:off0+j<cs0.size:=by omega
 have hsz1:(bA cs0 (off0+j) [v0]).size=cs0.size:=iC (by simp;omega)
 have hw1:=setRow_heap w b0 cs0 (bA cs0 (off0+j) [v0]) T0 _ g2
 rw [←g4] at hw1
 intro hd hal next Q hnx
 unfold Oper.wp
 rw [aj5 hT hk ho hw1 H.ptr H.val H.cells H.one (by rw [hsz1];exact hlti)]
 show next (a.put o.dst undef) _
 have hne:∀b',b'≠b0→(w'.setRow b0 (bA (bA cs0 (off0+j) [v0]) (off0+i) [v])).heap[b']?=w.heap[b']?:=fun b' hb'=>by
  rw [setRow_other _ _ _ _ hb',g4,setRow_other _ _ _ _ hb']
 have hhere:=setRow_heap w' b0 _ (bA (bA cs0 (off0+j) [v0]) (off0+i) [v]) T0 _ hw1
 have hsize:(w'.setRow b0 (bA (bA cs0 (off0+j) [v0]) (off0+i) [v])).heap.size=w.heap.size:=by rw [g4];simp [World.setRow]
 have hos:(w'.setRow b0 (bA (bA cs0 (off0+j) [v0]) (off0+i) [v])).os=w.os:=by rw [g4];rfl
 have htp:(w'.setRow b0 (bA (bA cs0 (off0+j) [v0]) (off0+i) [v])).tape=w.tape:=by rw [g4];rfl
 have hou:(w'.setRow b0 (bA (bA cs0 (off0+j) [v0]) (off0+i) [v])).output=w.output:=by rw [g4];rfl
 have hsz2:(bA (bA cs0 (off0+j) [v0]) (off0+i) [v]).size=cs0.size:=by rw [iC (by rw [hsz1];simp;omega),hsz1]
 have hcell:∀k,k<d.length→(bA (bA cs0 (off0+j) [v0]) (off0+i) [v])[off0+k]?=if k=i then some v else if k=j then some v0 else cs0[off0+k]?:=by
  intro k hk
  rw [anJ (by rw [hsz1];exact hlti),anJ hltj,Array.getElem?_setIfInBounds,Array.getElem?_setIfInBounds]
  simp only [Array.size_setIfInBounds]
  by_cases h1:k=i
  ·subst h1;rw [if_pos rfl,if_pos rfl,if_pos hlti]
  ·rw [if_neg (by omega),if_neg h1]
   by_cases h2:k=j
   ·subst h2;rw [if_pos rfl,if_pos rfl,if_pos hltj]
   ·rw [if_neg (by omega),if_neg h2]
 generalize w'.setRow b0 (bA (bA cs0 (off0+j) [v0]) (off0+i) [v])=w2 at hne hhere hsize hos htp hou ⊢
 generalize bA (bA cs0 (off0+j) [v0]) (off0+i) [v]=c2 at hhere hsz2 hcell
 have hrs:∀q' y',(s.after o.dst ⟨.dead,[(dF,none),(q,some ⟨false,.sl (.sl e),m,Cx i j d⟩)],false,[.at q [.idx 0]],[],none,[q],[dF,q],true⟩).roots q'=some y'→(q'=q∧y'=⟨false,.sl (.sl e),m,Cx i j d⟩)∨(q'≠q∧s.roots q'=some y'):=by
  intro q' y' h
  rw [qU rfl] at h
  by_cases h1:q'=dF
  ·rw [h1] at h;simp only [dn,bW.2 rfl,cond_true] at h;cases h
  ·by_cases h2:q'=q
   ·subst h2
    simp only [dn,gN h1,bW.2 rfl,cond_true,cond_false,Option.some.injEq] at h
    exact .inl ⟨rfl,h.symm⟩
   ·simp only [dn,gN h1,gN h2,cond_false] at h
    exact .inr ⟨h2,h⟩
 have hap:=R.mem.apart q _ b0 hr H.F
 have hZS:∀b',C.Z b'∨C.S b'→b'≠b0:=by rintro b' hb' rfl;exact hb'.elim hap.1 hap.2.1
 have hoth:∀q' y',q'≠q→s.roots q'=some y'→∀b',C.F q' b'→b'≠b0:=by
  rintro q' y' h1 h2 b' hb' rfl
  exact R.mem.disj q' q y' _ h2 hr h1 b' hb' H.F
 obtain ⟨xi,hxi⟩:∃x,d[i]?=some x:=⟨_,List.getElem?_eq_getElem hi⟩
 obtain ⟨xj,hxj⟩:∃x,d[j]?=some x:=⟨_,List.getElem?_eq_getElem hj⟩
 have hmem:∀x∈Cx i j d,x∈d:=by
  intro x hx
  obtain ⟨k,hk⟩:=List.mem_iff_getElem?.1 hx
  rw [agv hxi hxj] at hk
  split at hk
  ·rw [←hxj] at hk;exact List.mem_of_getElem? hk
  ·split at hk
   ·rw [←hxi] at hk;exact List.mem_of_getElem? hk
   ·exact List.mem_of_getElem? hk
 have hptr:∀p∈aS (.sl (.sl e)) (Cx i j d),p∈aS (.sl (.sl e)) d:=by
  intro p hp
  simp only [aS] at hp ⊢
  cases hpl:(K.sl e).plain with
  |true=>rw [hpl] at hp;exact hp
  |false=>
   rw [hpl] at hp
   simp only [cond_false,List.mem_flatMap] at hp ⊢
   obtain ⟨x,h1,h2⟩:=hp
   exact ⟨x,hmem x h1,h2⟩
 have hg:m≠.gone:=by rintro rfl;cases hown
 have hel:∀k x,d[k]?=some x→Enc w2 C.θ C.Z C.S (.sl e) m.elem x (sub cs0 (off0+k) 1) (G k):=fun k x hx=>
  (H.el k x hx).mono (.refl _) (.refl _) (.refl _) (fun b' hb'=>hne b' (hb'.elim (fun h=>by rintro rfl;exact (H.gs k).2 h) (hZS b'))) (fun _ _=>rfl)
 have hroot:uz w2 C q ⟨false,.sl (.sl e),m,Cx i j d⟩:=by
  refine ⟨C.F q,?_,.refl _,fun h=>by cases h⟩
  refine .inr (.inr ⟨hg,b0,off0,cap0,c2,T0,(0,0),?_,hhere,by rw [MF];exact hle,by rw [hsz2];simpa [K.size] using hfit,?_,fun k=>if k=i then G j else if k=j then G i else G k,fun k=>?_,fun k1 k2 hk=>?_,fun k x hx=>?_⟩)
  ·rw [H.ρ,MF]
  ·cases m<;>first|exact ⟨H.F,rfl⟩|(simp [Mask.dU] at hown;done)
  ·dsimp only
   split
   ·exact H.gs j
   ·split
    ·exact H.gs i
    ·exact H.gs k
  ·have key:∀k,(if k=i then G j else if k=j then G i else G k)=G (if k=i then j else if k=j then i else k):=by
    intro k
    split
    ·rfl
    ·split<;>rfl
   simp only [key]
   refine H.dj _ _ (fun h=>hk ?_)
   revert h
   split<;>split<;>(try split)<;>(try split)<;>omega
  ·have hk:k<d.length:=by have:=(List.getElem?_eq_some_iff.1 hx).1;rw [MF] at this;exact this
   rw [agv hxi hxj] at hx
   have hc:=hcell k hk
   simp only [K.size,Nat.mul_one]
   by_cases h1:k=i
   ·rw [if_pos h1] at hx hc ⊢
    rw [sub_one hc]
    cases hx
    have:=hel j xj hxj
    rw [sub_one H.at_] at this;exact this
   ·rw [if_neg h1] at hx hc ⊢
    by_cases h2:k=j
    ·rw [if_pos h2] at hx hc ⊢
     rw [sub_one hc]
     cases hx
     have:=hel i xi hxi
     rw [sub_one g3] at this;exact this
    ·rw [if_neg h2] at hx hc ⊢
     have hlt:off0+k<cs0.size:=by omega
     rw [Array.getElem?_eq_getElem hlt] at hc
     rw [sub_one hc,←sub_one (Array.getElem?_eq_getElem hlt)]
     exact hel k x hx
 have hnp:(s.after o.dst ⟨.dead,[(dF,none),(q,some ⟨false,.sl (.sl e),m,Cx i j d⟩)],false,[.at q [.idx 0]],[],none,[q],[dF,q],true⟩).roots dF=none:=by
  rw [qU rfl];simp only [dn,bW.2 rfl,cond_true]
 refine hnx _ _ C (Rel.two (R.put (C':=C) hd rfl R.ext ⟨?_,?_,?_,?_,?_⟩ ?_ (fun _ _=>bH.dead) ?_ ?_ ?_ ?_ R.zn) hnp)
 ·intro q' y' h
  rcases hrs q' y' h with ⟨rfl,rfl⟩|⟨h1,h2⟩
  ·exact hroot
  ·exact (R.mem.ok q' y' h2).keep rfl rfl rfl rfl rfl (fun _ _=>rfl) (fun b' hb'=>hne b' (hb'.elim (hoth q' y' h1 h2 b') (hZS b')))
 ·intro r1 r2 x1 x2 h1 h2 hne
  have e1:∃y,s.roots r1=some y:=by rcases hrs r1 x1 h1 with ⟨rfl,_⟩|⟨_,h⟩<;>exact ⟨_,by assumption⟩
  have e2:∃y,s.roots r2=some y:=by rcases hrs r2 x2 h2 with ⟨rfl,_⟩|⟨_,h⟩<;>exact ⟨_,by assumption⟩
  obtain ⟨y1,k1⟩:=e1
  obtain ⟨y2,k2⟩:=e2
  exact R.mem.disj r1 r2 y1 y2 k1 k2 hne
 ·intro r1 x1 b' h1 hb
  rw [hsize]
  rcases hrs r1 x1 h1 with ⟨rfl,_⟩|⟨_,h⟩
  ·exact R.mem.apart r1 _ b' hr hb
  ·exact R.mem.apart r1 x1 b' h hb
 ·intro b' hb';rw [hsize];exact R.mem.ro b' hb'
 ·intro r1 x1 h1 p hp y1 hy1
  have e1:∃y,s.roots r1=some y∧p∈aS y.k y.d:=by
   rcases hrs r1 x1 h1 with ⟨rfl,rfl⟩|⟨_,h⟩
   ·exact ⟨_,hr,hptr p hp⟩
   ·exact ⟨_,h,hp⟩
  obtain ⟨y2,k1,k2⟩:=e1
  rcases hrs p y1 hy1 with ⟨rfl,rfl⟩|⟨_,h⟩
  ·have h:=R.mem.ptr r1 y2 k1 p k2 _ hr
   exact h
  ·exact R.mem.ptr r1 y2 k1 p k2 y1 h
 ·refine Wp ?_
  intro av vs hvw hl hh hav
  have hh:(Kill.at q [.idx 0]).hits av=false:=by
   simpa [dK,hit] using hh
  have hbase:bK C q ⟨false,.sl (.sl e),m,d⟩=none:=by unfold bK;rw [if_neg (by simp)]
  by_cases hq:q∈av.names∧∀f caps,av≠.fn f caps
  ·obtain ⟨hq,hfn⟩:=hq
   have hnew:∀y',(s.after o.dst ⟨.dead,[(dF,none),(q,some ⟨false,.sl (.sl e),m,Cx i j d⟩)],false,[.at q [.idx 0]],[],none,[q],[dF,q],true⟩).roots q=some y'→y'=⟨false,.sl (.sl e),m,Cx i j d⟩:=by
    intro y' hy'
    rcases hrs q y' hy' with ⟨_,h⟩|⟨h,_⟩
    ·exact h
    ·exact absurd rfl h
   cases av with
   |ptr q' p'=>
    simp only [AV.names,List.mem_singleton] at hq
    subst hq
    obtain ⟨b2,off2,rfl,h0,hr2⟩:=hav
    obtain ⟨k2,cs2,e1,e2,e3⟩:=hr2 _ hr
    exfalso
    cases p' with
    |nil=>rw [cZ,hbase] at e3;simp at e3
    |cons st p'=>
     cases st with
     |idx k=>simp [Kill.hits,bW.2 rfl,under,dM] at hh
     |_=>simp [K.at] at e1
   |ref q' p'=>
    simp only [AV.names,List.mem_singleton] at hq
    subst hq
    obtain ⟨v2,rfl,hr2⟩:=hav
    refine ⟨v2,rfl,fun y' hy'=>?_⟩
    rw [hnew y' hy']
    obtain ⟨e2,base2,k1,k2,k3⟩:=hr2 _ hr
    cases p' with
    |nil=>rw [cZ,hbase] at k3;exact ⟨e2,none,k1,dP _ _ _,by rw [cZ];simp only [Option.some.injEq,Prod.mk.injEq] at k3 ⊢;exact ⟨k3.1,by unfold bK;rw [if_neg (by simp)]⟩⟩
    |cons st p'=>
     exfalso
     cases st with
     |idx k=>simp [Kill.hits,bW.2 rfl,under] at hh
     |_=>simp [K.at] at k1
   |slc q' p' lo k0=>
    simp only [AV.names,List.mem_singleton] at hq
    subst hq
    obtain ⟨v2,v3,rfl,hr2⟩:=hav
    refine ⟨v2,v3,rfl,fun y' hy'=>?_⟩
    rw [hnew y' hy']
    obtain ⟨e2,base2,k1,k2,k3,k4⟩:=hr2 _ hr
    cases p' with
    |nil=>rw [cZ,hbase] at k3;exact ⟨e2,none,k1,dP _ _ _,by rw [cZ];simp only [Option.some.injEq,Prod.mk.injEq] at k3 ⊢;exact ⟨k3.1,by unfold bK;rw [if_neg (by simp)]⟩,k4⟩
    |cons st p'=>
     exfalso
     cases st with
     |idx k=>simp [Kill.hits,bW.2 rfl,under] at hh
     |_=>simp [K.at] at k1
   |fn f caps=>exact absurd rfl (hfn f caps)
   |vw _ _ _=>simp [AV.Wi] at hvw
   |pair _ _=>simp [AV.dS] at hl
   |tcons _ _=>simp [AV.dS] at hl
   |_=>simp [AV.names] at hq
  ·by_cases hfn:∃f caps,av=.fn f caps
   ·obtain ⟨f,caps,rfl⟩:=hfn
    refine ⟨hav.1,fun q' hq' y' hy'=>?_⟩
    rcases hrs q' y' hy' with ⟨rfl,rfl⟩|⟨_,h3⟩
    ·have h:=hav.2 q' hq' _ hr
     exact h
    ·exact hav.2 q' hq' y' h3
   ·have hq2:q ∉ av.names:=fun h=>hq ⟨h,fun f caps he=>hfn ⟨f,caps,he⟩⟩
    refine kN (C':=C) R.mem (fun q'=>q'=q) rfl rfl (fun _ _=>rfl) (fun _ _=>rfl) ?_ ?_ hl (fun q' hq' h=>hq2 (h ▸ hq')) hav
    ·intro q' y' h hy'
     rcases hrs q' y' hy' with ⟨h1,_⟩|⟨_,h3⟩
     ·exact absurd h1 h
     ·exact h3
    ·intro b' hb'
     refine hne b' ?_
     rcases hb' with hb'|hb'|⟨q',y',h,hy',hb'⟩
     ·exact hZS b' (.inl hb')
     ·exact hZS b' (.inr hb')
     ·exact hoth q' y' h hy' b' hb'
 ·refine ⟨hos.trans R.kept.os,htp.trans R.kept.tape,hou.trans R.kept.output,by rw [hsize];exact R.kept.size,fun b' hb' hm=>?_⟩
  rw [hne b' ?_];exact R.kept.block b' hb' hm
  rintro rfl
  exact (R.foot q _ b' hr H.F).elim (fun h=>by omega) hm
 ·intro r1 x1 b' h1 hb
  rcases hrs r1 x1 h1 with ⟨rfl,_⟩|⟨_,h⟩
  ·exact R.foot r1 _ b' hr hb
  ·exact R.foot r1 x1 b' h hb
 ·intro r1 x1 h1 p hp h2
  simp only [St.after,List.any_nil,Bool.or_false]
  rcases hrs r1 x1 h1 with ⟨rfl,rfl⟩|⟨_,h⟩
  ·exact R.pins r1 _ hr p (hptr p hp) h2
  ·exact R.pins r1 x1 h p hp h2
 ·intro k y1 h1 hm
  rcases hrs _ y1 h1 with ⟨h,rfl⟩|⟨_,h⟩
  ·exact R.parρ k _ (by rw [h];exact hr) rfl
  ·exact R.parρ k y1 h hm
theorem Sw{o:Oper}{tm:TF}{x:TypeId×ay×Nat×Nat}(h:pV o tm=some x):∃a b,o.op=.store x.1 a b∧bf tm a=.ptr x.2.1 [.idx x.2.2.1]∧bf tm b=.ref x.2.1 [.idx x.2.2.2]:=by
 unfold pV at h
 split at h
 ·rename_i t a b ho
  split at h
  ·rename_i r i r' j e1 e2
   by_cases hr:r=r'
   ·subst hr
    rw [bW.2 rfl] at h
    simp only [cond_true,Option.some.injEq] at h
    subst h
    exact ⟨a,b,ho,e1,e2⟩
   ·rw [gN hr] at h;simp at h
  ·simp at h
 ·simp at h
theorem arx(hT:gq P V)(R:Rel w0 M0 n C0 C s a w)(hc:KQ o=true)(h:bC V o s.tmps s.roots c=some r):∃x,c x=some r∧Calm P C s a w o x:=by
 cases ho:o.op with
 |move x=>exact afN R ho h
 |pick x y z=>exact afO R ho h
 |binOp op t x y ty=>exact ab0 hT R ho h
 |unOp op t x=>exact afP R ho h
 |convert t1 t2 x=>exact Vx hT R ho h
 |extract x i=>exact Vy R ho h
 |indexAddr t x i=>exact Oo hT R ho h
 |_=>simp [KQ,ho] at hc
theorem Calm.two{x:Del}{w':World}(R:Rel w0 M0 n C0 C s a w)(hu:Und C s.roots w w')(h:Calm P C s a w o x):air P w0 M0 n C0 s a w' o x:=by
 obtain ⟨v,av,rd,rfl,hr,hv⟩:=h
 intro hd hal next Q hn
 unfold Oper.wp
 rw [hr w']
 exact hn _ _ C ⟨w,R.plain hd hv,by rw [iD];exact hu⟩
theorem anX(hT:gq P V){w':World}(R:Rel w0 M0 n C0 C s a w)(hu:Und C s.roots w w'){X:TypeId×ay×Nat×Nat}(hX:pV o s.tmps=some X)(h:xQ V X s.roots c=some r):∃x,c x=some r∧air P w0 M0 n C0 s a w' o x:=by
 obtain ⟨xa,xb,ho,e1,e2⟩:=Sw hX
 unfold xQ at h
 split at h
 case h_2=>simp at h
 case h_1 e hk=>
 split at h
 case h_1=>simp at h
 case h_2 y hy=>
 split at h
 case isFalse=>simp at h
 case isTrue hyk=>
 obtain ⟨ym,yk,ymask,yd⟩:=y
 dsimp only at hyk
 subst hyk
 cases hb:(ym||!ymask.dU||!ymask.live) with
 |true=>simp [hb] at h
 |false=>
 rw [hb] at h
 simp only [Bool.or_eq_false_iff,Bool.not_eq_false'] at hb
 obtain ⟨⟨rfl,hown⟩,hlive⟩:=hb
 unfold Und at hu
 split at h
 ·rename_i hn
  rw [hn] at hu
  subst hu
  exact ⟨_,h,alI hT R ho hk hy hown hlive e1 e2 hn⟩
 ·rename_i z hz
  rw [hz] at hu
  split at h
  case h_2=>simp at h
  case h_1 p hp=>
  obtain ⟨p1,p2,p3,p4⟩:=p
  dsimp only at h
  cases hc:(Nat.beq p1.toNat X.2.1.1&&Nat.beq p2.toNat X.2.1.2) with
  |false=>rw [hc] at h;simp at h
  |true=>
  rw [hc] at h
  split at h
  case isFalse=>simp at h
  case isTrue hpp=>
  obtain ⟨r0,i0,j0,y0,b,off,len,cap,cs,T,v,g1,g2,g3,g4,g5,g6,g7,g8,g9,g10⟩:=hu
  obtain ⟨rfl,k1,k2⟩:=aoG hp g1 hc
  rw [hpp.1] at k1
  rw [hpp.2] at k2
  obtain rfl:=Int.ofNat.inj k1
  obtain rfl:=Int.ofNat.inj k2
  refine ⟨_,h,ai3 hT R ho hk hy hown hlive e1 e2 ?_ g3 g4 g9 g10⟩
  intro he
  rw [he,hy] at hz
  cases hz
  cases hp
theorem ZG(hT:gq P V){w':World}(R2:D9 w0 M0 n C0 C s a w')(hop:∀{R:Type}{r:R}{c:Del→Option R},Rel w0 M0 n C0 C s a w'→bC V o s.tmps s.roots c=some r→∃x,c x=some r∧Does P w0 M0 n C0 s a w' o x)
  (h:zI V o s.tmps s.roots c=some r):∃x,c x=some r∧air P w0 M0 n C0 s a w' o x:=by
 obtain ⟨w,R,hu⟩:=R2
 unfold zI at h
 split at h
 ·rename_i X hX
  exact anX hT R hu hX h
 ·cases hc:KQ o with
  |true=>
   rw [hc,cond_true] at h
   obtain ⟨x,h1,h2⟩:=arx hT R hc h
   exact ⟨x,h1,h2.two R hu⟩
  |false=>
   rw [hc,cond_false] at h
   split at h
   case h_2=>simp at h
   case h_1 hn=>
   have hu':=hu
   unfold Und at hu'
   rw [hn] at hu'
   subst hu'
   obtain ⟨x,h1,h2⟩:=hop R h
   split at h1
   case h_2=>simp at h1
   case h_1 hl=>
   refine ⟨x,h1,fun hd hal next Q hnx=>h2 hd ?_ next Q (fun a' w'' C' R'=>hnx _ _ _ (R'.two ?_))⟩
   ·unfold ku at hal
    rw [Bool.and_eq_true] at hal
    exact hal.1
   ·simp only [St.after,hl,hn]
    cases (x.make&&Nat.beq dF.1 (o.dst.getD 0+2))<;>rfl
end
end Go.Abs
namespace Go.Abs
variable {Γ : Glb}
section
variable {P : Program} {V : Env} {w0 w : World} {M0 : BS} {n : Nat} {C0 C : Ctx} {s : St} {a : Act}
variable {R' : Type} {r : R'} {o : Oper} {c : Del → Option R'}
theorem ak5{ts:Array TypeId}{t:TypeId}(h:ts[0]?=some t)(ty:TypeId)(vs:Array Value):Builtin.copy_ ts ty vs=Builtin.copy_ #[t,t] ty vs:=by
 unfold Builtin.copy_
 rw [h]
 rfl
structure apd(w:World)(C:Ctx)(q:ay)(d:List Int)(b off cap:Nat)(cs:Array Value)(T:TypeId):Prop where
 ρ:C.ρ q=[.slice (some ⟨b,off,none⟩) d.length cap]
 heap:w.heap[b]?=some (.cells cs T (0,0))
 le:d.length≤cap
 fit:off+cap≤cs.size
 F:C.F q b
 el:∀i x,d[i]?=some x→cs[off+i]?=some (.int .i64 x)
theorem ahD(R:Rel w0 M0 n C0 C s a w){q:ay}{m:Mask}{d:List Int}(hr:s.roots q=some ⟨false,.sl (.int .i64),m,d⟩)(hown:m.dU=true) :
  (d=[]∧∃a',C.ρ q=[.slice a' 0 0])∨∃b off cap cs T,apd w C q d b off cap cs T:=by
 obtain ⟨G0,he,hs,_⟩:=R.mem.ok q _ hr
 rcases he with ⟨hg,_⟩|⟨_,hd,a',h⟩|⟨_,b,off,cap,cs,T,fz,hρ,hc,hle,hfit,hok,G,hG,hdj,hel⟩
 ·subst hg;simp [Mask.dU] at hown
 ·exact .inl ⟨hd,a',h⟩
 ·have hbF:G0 b∧fz=(0,0):=by cases m<;>simp_all [Mask.dU,Og]
  obtain ⟨hbF,rfl⟩:=hbF
  simp only [K.size,Nat.mul_one] at hfit hel
  refine .inr ⟨b,off,cap,cs,T,hρ,hc,hle,hfit,hs b hbF,fun i x hx=>?_⟩
  have hi:i<d.length:=(List.getElem?_eq_some_iff.1 hx).1
  have h1:sub cs (off+i) 1=[.int .i64 x]:=hel i x hx
  have hle':d.length≤cap:=hle
  have hlt:off+i<cs.size:=by omega
  rw [sub_one (Array.getElem?_eq_getElem hlt)] at h1
  rw [Array.getElem?_eq_getElem hlt]
  simpa using h1
theorem arz{b off:Nat}{cs:Array Value}{T:TypeId}{fz:Nat×Nat}{v:Value}(h:w.heap[b]?=some (.cells cs T fz))(hv:cs[off]?=some v):w.cell? ⟨b,off,none⟩=some v:=by
 unfold World.cell?
 simp [h,hv]
theorem aiM(R:Rel w0 M0 n C0 C s a w){q:ay}{m:Mask}{d d':List Int}(hr:s.roots q=some ⟨false,.sl (.int .i64),m,d⟩)(hown:m.dU=true)
  {b off cap:Nat} {cs c2:Array Value} {T:TypeId} (H:apd w C q d b off cap cs T) (hl:d'.length=d.length) (hsz:c2.size=cs.size)
  (hel:∀i x,d'[i]?=some x→c2[off+i]?=some (.int .i64 x)) (hd:∀x,o.dst=some x→x<n) {av:AV} {vv:Value} (hvr:∀w' C' rs',bH w' C' rs' vv av) :
  Rel w0 M0 n C0 C (s.after o.dst ⟨av,[(q,some ⟨false,.sl (.int .i64),m,d'⟩)],false,[.at q [.idx 0]],[],none,[q],[q],true⟩) (a.put o.dst vv) (w.setRow b c2):=by
 have hle:=H.le
 have hfit:=H.fit
 have hhere:=setRow_heap w b cs c2 T _ H.heap
 have hne:∀b',b'≠b→(w.setRow b c2).heap[b']?=w.heap[b']?:=fun b' hb'=>setRow_other w b b' _ hb'
 have hsize:(w.setRow b c2).heap.size=w.heap.size:=by simp [World.setRow]
 have hos:(w.setRow b c2).os=w.os:=rfl
 have htp:(w.setRow b c2).tape=w.tape:=rfl
 have hou:(w.setRow b c2).output=w.output:=rfl
 generalize w.setRow b c2=w2 at hne hhere hsize hos htp hou ⊢
 generalize hx0:(⟨av,[(q,some ⟨false,.sl (.int .i64),m,d'⟩)],false,[.at q [.idx 0]],[],none,[q],[q],true⟩:Del)=X
 have hrs:∀q' y',(s.after o.dst X).roots q'=some y'→(q'=q∧y'=⟨false,.sl (.int .i64),m,d'⟩)∨(q'≠q∧s.roots q'=some y'):=by
  intro q' y' h
  rw [qU (by rw [←hx0])] at h
  rw [←hx0] at h
  by_cases h2:q'=q
  ·subst h2
   simp only [dn,bW.2 rfl,cond_true,Option.some.injEq] at h
   exact .inl ⟨rfl,h.symm⟩
  ·simp only [dn,gN h2,cond_false] at h
   exact .inr ⟨h2,h⟩
 have hap:=R.mem.apart q _ b hr H.F
 have hZS:∀b',C.Z b'∨C.S b'→b'≠b:=by rintro b' hb' rfl;exact hb'.elim hap.1 hap.2.1
 have hoth:∀q' y',q'≠q→s.roots q'=some y'→∀b',C.F q' b'→b'≠b:=by
  rintro q' y' h1 h2 b' hb' rfl
  exact R.mem.disj q' q y' _ h2 hr h1 b' hb' H.F
 have hptr:∀(l:List Int),aS (.sl (.int .i64)) l=[]:=fun l=>bV _ rfl
 have hg:m≠.gone:=by rintro rfl;cases hown
 have hroot:uz w2 C q ⟨false,.sl (.int .i64),m,d'⟩:=by
  refine ⟨C.F q,?_,.refl _,fun h=>by cases h⟩
  refine .inr (.inr ⟨hg,b,off,cap,c2,T,(0,0),?_,hhere,by show d'.length≤cap;omega,by rw [hsz];simpa [K.size] using hfit,?_,fun _=>noB,fun _=>⟨fun _ h=>h.elim,fun h=>h⟩,fun _ _ _ _ h=>h.elim,fun k x hx=>?_⟩)
  ·rw [H.ρ]
   show [Value.slice (some ⟨b,off,none⟩) d.length cap]=[Value.slice (some ⟨b,off,none⟩) d'.length cap]
   rw [hl]
  ·cases m<;>first|exact ⟨H.F,rfl⟩|(simp [Mask.dU] at hown;done)
  ·have hk:k<d'.length:=(List.getElem?_eq_some_iff.1 hx).1
   simp only [K.size,Nat.mul_one]
   show sub c2 (off+k) 1=[.int .i64 x]
   exact sub_one (hel k x hx)
 have hnil:X.kills=[.at q [.idx 0]]:=by rw [←hx0]
 have hmk:X.make=false:=by rw [←hx0]
 refine R.put (C':=C) hd (by rw [←hx0]) R.ext ⟨?_,?_,?_,?_,?_⟩ ?_ (fun _ _=>by rw [←hx0];exact hvr _ _ _) ?_ ?_ ?_ ?_ R.zn
 ·intro q' y' h
  rcases hrs q' y' h with ⟨rfl,rfl⟩|⟨h1,h2⟩
  ·exact hroot
  ·exact (R.mem.ok q' y' h2).keep rfl rfl rfl rfl rfl (fun _ _=>rfl) (fun b' hb'=>hne b' (hb'.elim (hoth q' y' h1 h2 b') (hZS b')))
 ·intro r1 r2 x1 x2 h1 h2 hne
  have e1:∃y,s.roots r1=some y:=by rcases hrs r1 x1 h1 with ⟨rfl,_⟩|⟨_,h⟩<;>exact ⟨_,by assumption⟩
  have e2:∃y,s.roots r2=some y:=by rcases hrs r2 x2 h2 with ⟨rfl,_⟩|⟨_,h⟩<;>exact ⟨_,by assumption⟩
  obtain ⟨y1,k1⟩:=e1
  obtain ⟨y2,k2⟩:=e2
  exact R.mem.disj r1 r2 y1 y2 k1 k2 hne
 ·intro r1 x1 b' h1 hb
  rw [hsize]
  rcases hrs r1 x1 h1 with ⟨rfl,_⟩|⟨_,h⟩
  ·exact R.mem.apart r1 _ b' hr hb
  ·exact R.mem.apart r1 x1 b' h hb
 ·intro b' hb';rw [hsize];exact R.mem.ro b' hb'
 ·intro r1 x1 h1 p hp y1 hy1
  have e1:∃y,s.roots r1=some y∧p∈aS y.k y.d:=by
   rcases hrs r1 x1 h1 with ⟨rfl,rfl⟩|⟨_,h⟩
   ·rw [hptr] at hp;cases hp
   ·exact ⟨_,h,hp⟩
  obtain ⟨y2,k1,k2⟩:=e1
  rcases hrs p y1 hy1 with ⟨rfl,rfl⟩|⟨_,h⟩
  ·have h:=R.mem.ptr r1 y2 k1 p k2 _ hr
   exact h
  ·exact R.mem.ptr r1 y2 k1 p k2 y1 h
 ·refine Wp ?_
  intro av vs hvw hl' hh hav
  have hh:(Kill.at q [.idx 0]).hits av=false:=by
   simpa [dK,hit,hnil,hmk] using hh
  have hbase:bK C q ⟨false,.sl (.int .i64),m,d⟩=none:=by unfold bK;rw [if_neg (by simp)]
  by_cases hq:q∈av.names∧∀f caps,av≠.fn f caps
  ·obtain ⟨hq,hfn⟩:=hq
   have hnew:∀y',(s.after o.dst X).roots q=some y'→y'=⟨false,.sl (.int .i64),m,d'⟩:=by
    intro y' hy'
    rcases hrs q y' hy' with ⟨_,h⟩|⟨h,_⟩
    ·exact h
    ·exact absurd rfl h
   cases av with
   |ptr q' p'=>
    simp only [AV.names,List.mem_singleton] at hq
    subst hq
    obtain ⟨b2,off2,rfl,h0,hr2⟩:=hav
    obtain ⟨k2,cs2,e1,e2,e3⟩:=hr2 _ hr
    exfalso
    cases p' with
    |nil=>rw [cZ,hbase] at e3;simp at e3
    |cons st p'=>
     cases st with
     |idx k=>simp [Kill.hits,bW.2 rfl,under,dM] at hh
     |_=>simp [K.at] at e1
   |ref q' p'=>
    simp only [AV.names,List.mem_singleton] at hq
    subst hq
    obtain ⟨v2,rfl,hr2⟩:=hav
    refine ⟨v2,rfl,fun y' hy'=>?_⟩
    rw [hnew y' hy']
    obtain ⟨e2,base2,k1,k2,k3⟩:=hr2 _ hr
    cases p' with
    |nil=>rw [cZ,hbase] at k3;exact ⟨e2,none,k1,dP _ _ _,by rw [cZ];simp only [Option.some.injEq,Prod.mk.injEq] at k3 ⊢;exact ⟨k3.1,by unfold bK;rw [if_neg (by simp)]⟩⟩
    |cons st p'=>
     exfalso
     cases st with
     |idx k=>simp [Kill.hits,bW.2 rfl,under] at hh
     |_=>simp [K.at] at k1
   |slc q' p' lo k0=>
    simp only [AV.names,List.mem_singleton] at hq
    subst hq
    obtain ⟨v2,v3,rfl,hr2⟩:=hav
    refine ⟨v2,v3,rfl,fun y' hy'=>?_⟩
    rw [hnew y' hy']
    obtain ⟨e2,base2,k1,k2,k3,k4⟩:=hr2 _ hr
    cases p' with
    |nil=>rw [cZ,hbase] at k3;exact ⟨e2,none,k1,dP _ _ _,by rw [cZ];simp only [Option.some.injEq,Prod.mk.injEq] at k3 ⊢;exact ⟨k3.1,by unfold bK;rw [if_neg (by simp)]⟩,k4⟩
    |cons st p'=>
     exfalso
     cases st with
     |idx k=>simp [Kill.hits,bW.2 rfl,under] at hh
     |_=>simp [K.at] at k1
   |fn f caps=>exact absurd rfl (hfn f caps)
   |vw _ _ _=>simp [AV.Wi] at hvw
   |pair _ _=>simp [AV.dS] at hl'
   |tcons _ _=>simp [AV.dS] at hl'
   |_=>simp [AV.names] at hq
  ·by_cases hfn:∃f caps,av=.fn f caps
   ·obtain ⟨f,caps,rfl⟩:=hfn
    refine ⟨hav.1,fun q' hq' y' hy'=>?_⟩
    rcases hrs q' y' hy' with ⟨rfl,rfl⟩|⟨_,h3⟩
    ·have h:=hav.2 q' hq' _ hr
     exact h
    ·exact hav.2 q' hq' y' h3
   ·have hq2:q ∉ av.names:=fun h=>hq ⟨h,fun f caps he=>hfn ⟨f,caps,he⟩⟩
    refine kN (C':=C) R.mem (fun q'=>q'=q) rfl rfl (fun _ _=>rfl) (fun _ _=>rfl) ?_ ?_ hl' (fun q' hq' h=>hq2 (h ▸ hq')) hav
    ·intro q' y' h hy'
     rcases hrs q' y' hy' with ⟨h1,_⟩|⟨_,h3⟩
     ·exact absurd h1 h
     ·exact h3
    ·intro b' hb'
     refine hne b' ?_
     rcases hb' with hb'|hb'|⟨q',y',h,hy',hb'⟩
     ·exact hZS b' (.inl hb')
     ·exact hZS b' (.inr hb')
     ·exact hoth q' y' h hy' b' hb'
 ·refine ⟨hos.trans R.kept.os,htp.trans R.kept.tape,hou.trans R.kept.output,by rw [hsize];exact R.kept.size,fun b' hb' hm=>?_⟩
  rw [hne b' ?_];exact R.kept.block b' hb' hm
  rintro rfl
  exact (R.foot q _ b' hr H.F).elim (fun h=>by omega) hm
 ·intro r1 x1 b' h1 hb
  rcases hrs r1 x1 h1 with ⟨rfl,_⟩|⟨_,h⟩
  ·exact R.foot r1 _ b' hr hb
  ·exact R.foot r1 x1 b' h hb
 ·intro r1 x1 h1 p hp h2
  rw [←hx0]
  simp only [St.after,List.any_nil,Bool.or_false]
  rcases hrs r1 x1 h1 with ⟨rfl,rfl⟩|⟨_,h⟩
  ·rw [hptr] at hp;cases hp
  ·exact R.pins r1 x1 h p hp h2
 ·intro k y1 h1 hm
  rcases hrs _ y1 h1 with ⟨h,rfl⟩|⟨_,h⟩
  ·exact R.parρ k _ (by rw [h];exact hr) rfl
  ·exact R.parρ k y1 h hm
theorem afT(R:Rel w0 M0 n C0 C s a w){q:ay}{y:Root}(hr:s.roots q=some y){ks:List Kill}(hd:∀x,o.dst=some x→x<n){av:AV}{vv:Value}(hvr:∀w' C' rs',bH w' C' rs' vv av) :
  Rel w0 M0 n C0 C (s.after o.dst ⟨av,[(q,some y)],false,ks,[],none,[q],[q],true⟩) (a.put o.dst vv) w:=by
 generalize hx0:(⟨av,[(q,some y)],false,ks,[],none,[q],[q],true⟩:Del)=X
 have hrs:(s.after o.dst X).roots=s.roots:=by
  funext q'
  rw [qU (by rw [←hx0]),←hx0]
  by_cases h2:q'=q
  ·subst h2;simp only [dn,bW.2 rfl,cond_true];exact hr.symm
  ·simp only [dn,gN h2,cond_false]
 refine R.put (C':=C) hd (by rw [←hx0]) R.ext (by rw [hrs];exact R.mem) (fun b vs _ _ h=>by rw [hrs];exact h) (fun _ _=>by rw [←hx0];exact hvr _ _ _) R.kept (by rw [hrs];exact R.foot) (fun r1 x1 h1 p hp h2=>?_) (by rw [hrs];exact R.parρ) R.zn
 rw [hrs] at h1
 rw [←hx0]
 simp only [St.after,List.any_nil,Bool.or_false]
 exact R.pins r1 x1 h1 p hp h2
theorem ari{cs:Array Value}{off:Nat}{vs:List Value}(h:off+vs.length≤cs.size)(i:Nat):(bA cs off vs)[off+i]?=if i<vs.length then vs[i]? else cs[off+i]?:=by
 unfold bA
 rw [List.getElem?_toArray,List.append_assoc,List.getElem?_append_right (by simp;omega)]
 simp only [List.length_take,Array.length_toList]
 rw [Nat.min_eq_left (by omega),Nat.add_sub_cancel_left,List.getElem?_append]
 split
 ·rfl
 ·rw [List.getElem?_drop,Array.getElem?_toList]
  congr 1
  omega
theorem as9{cs:Array Value}{off j:Nat}{vs:List Value}(h:j<off)(ho:off≤cs.size):(bA cs off vs)[j]?=cs[j]?:=by
 unfold bA
 rw [List.getElem?_toArray,List.append_assoc,List.getElem?_append_left (by simp;omega),List.getElem?_take,if_pos h,Array.getElem?_toList]
theorem anW(hT:gq P V)(R:Rel w0 M0 n C0 C s a w){args:Array Operand}{ts:Array TypeId}(ho:o.op=.call { callee:=.builtin .copy,args:=args,argTypes:=ts })
  (h:bC V o s.tmps s.roots c=some r):∃x,c x=some r∧Does P w0 M0 n C0 s a w o x:=by
 simp only [bC,ho] at h
 unfold fH at h
 split at h
 case h_6 x1 x2 e1 e2=>
  obtain ⟨y1,y2,hy,hy1,hy2⟩:∃y1 y2,args.toList=[y1,y2]∧bf s.tmps y1=x1∧bf s.tmps y2=x2:=by
   match hh:args.toList,e2 with
   |[y1,y2],e2=>exact ⟨y1,y2,rfl,by simpa using e2⟩
  have hargs:args.map a.eval = #[a.eval y1,a.eval y2]:=nY (by rw [hy];rfl)
  unfold TP at h
  split at h
  case h_2=>simp at h
  case h_1 q bytes el k2 hti0 _=>
  obtain ⟨t,ht1,hti⟩:∃t,ts[0]?=some t∧V.ti t=some ⟨.sl (.int .i64),bytes,el⟩:=by
   cases hh:ts[0]? with
   |none=>simp [hh] at hti0
   |some t=>exact ⟨t,rfl,by simpa [hh] using hti0⟩
  split at h
  case h_1=>simp at h
  case h_2 te hte=>
  split at h
  case isFalse=>simp at h
  case isTrue hke=>
  split at h
  case h_1=>simp at h
  case h_2 y hr=>
  split at h
  case isFalse=>simp at h
  case isTrue hk=>
  obtain ⟨ymem,yk,ym,yd⟩:=y
  dsimp only at hk h
  subst hk
  cases hml:(ymem||!ym.dU||!ym.live) with
  |true=>rw [hml] at h;simp at h
  |false=>
  rw [hml] at h
  simp only [cond_false] at h
  simp only [Bool.or_eq_false_iff,Bool.not_eq_false'] at hml
  obtain ⟨⟨rfl,hown⟩,hlive⟩:=hml
  obtain ⟨d,hd,hdok⟩:=(hT.ty _ _ hti).desc
  obtain ⟨rfl,te',hte',hk',hsz⟩:=hdok
  simp only at hte' hk'
  rw [hte] at hte'
  cases hte'
  obtain ⟨i,z,hi,hs,hb,hz,hzc,hzs⟩:=(hT.ty _ _ hte).zeroOf
  rw [hke] at hs
  have hi1:(P.info? el).map (·.size)=some 1:=by rw [hi];simpa [K.size] using hs
  have hv1:=R.eval y1
  have hv2:=R.eval y2
  rw [hy1] at hv1
  rw [hy2] at hv2
  obtain ⟨⟨v,hvv,hvr⟩,_⟩:=hv1.cell (by simp) rfl (by simp) (by simp)
  simp only [List.cons.injEq,and_true] at hvv
  obtain ⟨e2',base,k1',k2',k3'⟩:=hvr _ hr
  rw [cZ] at k3'
  simp only [Option.some.injEq,Prod.mk.injEq] at k3'
  have hρ:C.ρ q=[a.eval y1]:=by rw [k3'.1,hvv]
  obtain ⟨ys,my,Fy,g,hlivey,hency,_⟩:=adF R hv2 h
  clear h
  have hys:(ys=[]∧∃a' cap,a.eval y2=.slice a' 0 cap)∨∃b off cap cs T fz,a.eval y2=.slice (some ⟨b,off,none⟩) ys.length cap∧w.heap[b]?=some (.cells cs T fz)∧∀i x,ys[i]?=some x→cs[off+i]?=some (.int .i64 x):=by
   rcases hency with ⟨hg,_⟩|⟨_,hd,a',h⟩|⟨_,b,off,cap,cs,T,fz,hρ,hc,hle,hfit,hok,G,hG,hdj,hel⟩
   ·subst hg;simp [Mask.live] at hlivey
   ·simp only [List.cons.injEq,and_true] at h
    exact .inl ⟨hd,a',0,h⟩
   ·simp only [List.cons.injEq,and_true] at hρ
    simp only [K.size,Nat.mul_one] at hfit hel
    refine .inr ⟨b,off,cap,cs,T,fz,hρ,hc,fun i x hx=>?_⟩
    have hi:i<ys.length:=(List.getElem?_eq_some_iff.1 hx).1
    have h1:sub cs (off+i) 1=[.int .i64 x]:=hel i x hx
    have hle':ys.length≤cap:=hle
    have hlt:off+i<cs.size:=by omega
    rw [sub_one (Array.getElem?_eq_getElem hlt)] at h1
    rw [Array.getElem?_eq_getElem hlt]
    simpa using h1
  refine ⟨_,g,?_⟩
  clear g
  change List Int at yd ys
  intro hd' hal next Q hn
  unfold Oper.wp
  have hexec:∀w',(Builtin.copy_ #[t,t] 0 #[a.eval y1,a.eval y2]).run P w=.ok (goInt ((min ys.length yd.length:Nat):Int)) w'→(execOp a.eval o).run P w=.ok (.value (.int .i64 ((min ys.length yd.length:Nat):Int))) w':=by
   intro w' hrun
   have:∀ty,(Builtin.copy_ ts ty #[a.eval y1,a.eval y2]).run P w=.ok (goInt ((min ys.length yd.length:Nat):Int)) w':=fun ty=>by rw [ak5 ht1];exact hrun
   simp only [execOp,ho,resolve,Sem.run_bind,Sem.run_pure,Result.andThen_ok,invoke,builtin,hargs,this]
   rfl
  have hhead:∃da dcap,a.eval y1=.slice da yd.length dcap:=by
   rcases ahD (d:=yd) R hr hown with ⟨hd0,a',hh⟩|⟨b,off,cap,cs,T,H⟩
   ·rw [hρ] at hh
    simp only [List.cons.injEq,and_true] at hh
    exact ⟨a',0,by rw [hh,hd0];rfl⟩
   ·have:=H.ρ
    rw [hρ] at this
    simp only [List.cons.injEq,and_true] at this
    exact ⟨_,_,this⟩
  have hsrc:∃sa scap,a.eval y2=.slice sa ys.length scap:=by
   rcases hys with ⟨h1,a',cap,h2⟩|⟨b,off,cap,cs,T,fz,h2,_⟩
   ·exact ⟨a',cap,by rw [h2,h1];rfl⟩
   ·exact ⟨_,_,h2⟩
  by_cases h0:min ys.length yd.length=0
  ·obtain ⟨da,dcap,e1⟩:=hhead
   obtain ⟨sa,scap,e2⟩:=hsrc
   have hrun:(Builtin.copy_ #[t,t] 0 #[a.eval y1,a.eval y2]).run P w=.ok (goInt ((min ys.length yd.length:Nat):Int)) w:=by
    rw [e1,e2,h0]
    exact run_copy_none w t t 0 el da sa yd.length dcap ys.length scap hd hi1 h0
   rw [hexec w hrun]
   have hdata:ys.take yd.length++yd.drop ys.length=yd:=by
    rcases Nat.eq_zero_or_pos ys.length with hz|hz
    ·rw [List.length_eq_zero_iff.1 hz];simp
    ·have:yd=[]:=List.length_eq_zero_iff.1 (by omega)
     rw [this];simp
   have hsame:=afT (o:=o) R hr (ks:=[.at q [.idx 0]]) hd' (fun _ _ _=>bH.mkInt (z:=true) .i64 ((min ys.length yd.length:Nat):Int))
   refine hn _ _ C ?_
   have key:(⟨false,.sl (.int .i64),ym,ys.take yd.length++yd.drop ys.length⟩:Root)=⟨false,.sl (.int .i64),ym,yd⟩:=by rw [hdata]
   rw [←key] at hsame
   exact hsame
  ·rcases ahD (d:=yd) R hr hown with ⟨hd0,_⟩|⟨b,off,cap,cs,T,H⟩
   ·exfalso;apply h0;rw [hd0];simp
   rcases hys with ⟨h1,_⟩|⟨b2,off2,cap2,cs2,T2,fz2,e2,hb2,hel2⟩
   ·exfalso;apply h0;rw [h1];simp
   have hle:=H.le
   have hfit:=H.fit
   have e1:=H.ρ
   rw [hρ] at e1
   simp only [List.cons.injEq,and_true] at e1
   have hnl:((ys.take yd.length).map fun x=>Value.int .i64 x).length=min ys.length yd.length:=by rw [List.length_map,List.length_take,Nat.min_comm]
   have hrun:(Builtin.copy_ #[t,t] 0 #[a.eval y1,a.eval y2]).run P w=.ok (goInt ((min ys.length yd.length:Nat):Int)) (w.setRow b (bA cs off ((ys.take yd.length).map fun x=>Value.int .i64 x))):=by
    rw [e1,e2,←hnl]
    refine run_copy_row P w t t 0 el b off yd.length cap ⟨b2,off2,none⟩ ys.length cap2 cs T _ hd hi1 H.heap hnl (fun j v hv=>?_) (by rw [hnl];omega) (fun v hv=>?_)
    ·rw [List.getElem?_map,List.getElem?_take] at hv
     split at hv
     ·obtain ⟨x,hx,rfl⟩:=Option.map_eq_some_iff.1 hv
      rw [addr_add]
      exact arz hb2 (hel2 j x hx)
     ·cases hv
    ·obtain ⟨x,_,rfl⟩:=List.mem_map.1 hv
     rfl
   rw [hexec _ hrun]
   have hdl:(ys.take yd.length++yd.drop ys.length).length=yd.length:=by simp;omega
   refine hn _ _ C (aiM R hr hown H hdl (iC (by rw [hnl];omega)) (fun i x hx=>?_) hd' fun _ _ _=>bH.mkInt (z:=true) .i64 _)
   rw [ari (by rw [hnl];omega),hnl]
   rw [List.getElem?_append,List.length_take] at hx
   by_cases hlt:i<min ys.length yd.length
   ·rw [if_pos hlt,List.getElem?_map]
    rw [if_pos (by omega)] at hx
    rw [hx]
    rfl
   ·rw [if_neg hlt]
    rw [if_neg (by omega),List.getElem?_drop] at hx
    refine H.el i x ?_
    rw [←hx]
    congr 1
    have:=(List.getElem?_eq_some_iff.1 hx).1
    omega
 all_goals simp_all
theorem afl{P:Program}{w:World}{t e ty:TypeId}{z:Value}{b o n c:Nat}{cs:Array Value}{T:TypeId}(ht:P.underlying t=some (.slice e))(hv:∀w,(zeroValue e).run P w=.ok z w)(hn:0<n)
  (h1:∀v∈z.cells.toList,v.oneCell'=true) (hc:w.heap[b]?=some (.cells cs T (0,0))) (hfit:o+n*z.cells.size≤cs.size) :
  (Builtin.clear_ #[t] ty #[.slice (some ⟨b,o,none⟩) n c]).run P w=.ok (.tuple #[]) (w.setRow b (bA cs o (Builtin.zeroCells z.cells n).toList)):=by
 have hlen:(Builtin.zeroCells z.cells n).toList.length=n*z.cells.size:=by simp [Builtin.zeroCells]
 have hst:=run_storeCells_at P b o T (Builtin.zeroCells z.cells n).toList 0 cs w hc (by rw [hlen];simpa using hfit) (by
  intro v hv
  simp only [Builtin.zeroCells,Array.toList_map,List.mem_map,Array.toList_range,List.mem_range] at hv
  obtain ⟨k,hk,rfl⟩:=hv
  have hz:0<z.cells.size:=by
   rcases Nat.eq_zero_or_pos z.cells.size with h|h
   ·rw [h] at hk;simp at hk
   ·exact h
  refine h1 _ ?_
  rw [getElem!_pos z.cells _ (Nat.mod_lt _ hz)]
  simp)
 simp only [Nat.add_zero] at hst
 obtain ⟨k,rfl⟩:∃k,n=k+1:=⟨n-1,by omega⟩
 have hupd:(cs.toList.take o++(Builtin.zeroCells z.cells (k+1)).toList++cs.toList.drop (o+(Builtin.zeroCells z.cells (k+1)).toList.length)).toArray=bA cs o (Builtin.zeroCells z.cells (k+1)).toList:=rfl
 rw [hupd] at hst
 simp [Builtin.clear_,run_underlying ht,hv,hst]
theorem adL{P:Program}{w:World}{t ty e:TypeId}{a:Option Addr}{c:Nat}(ht:P.underlying t=some (.slice e)):(Builtin.clear_ #[t] ty #[.slice a 0 c]).run P w=.ok (.tuple #[]) w:=by
 cases a<;>simp [Builtin.clear_,run_underlying ht]
theorem aiJ{ts:Array TypeId}{t:TypeId}(h:ts[0]?=some t)(ty:TypeId)(vs:Array Value):Builtin.clear_ ts ty vs=Builtin.clear_ #[t] ty vs:=by
 unfold Builtin.clear_
 rw [h]
 rfl
theorem ale(hT:gq P V)(R:Rel w0 M0 n C0 C s a w){args:Array Operand}{ts:Array TypeId}(ho:o.op=.call { callee:=.builtin .clear,args:=args,argTypes:=ts })
  (h:bC V o s.tmps s.roots c=some r):∃x,c x=some r∧Does P w0 M0 n C0 s a w o x:=by
 simp only [bC,ho] at h
 unfold fH at h
 split at h
 case h_7 x1 e1 e2=>
  obtain ⟨y1,hy,hy1⟩:∃y1,args.toList=[y1]∧bf s.tmps y1=x1:=by
   match hh:args.toList,e2 with
   |[y1],e2=>exact ⟨y1,rfl,by simpa using e2⟩
  have hargs:args.map a.eval = #[a.eval y1]:=nY (by rw [hy];rfl)
  unfold KS at h
  split at h
  case h_2=>simp at h
  case h_1 q lo k bytes el hti0=>
  obtain ⟨t,ht1,hti⟩:∃t,ts[0]?=some t∧V.ti t=some ⟨.sl (.int .i64),bytes,el⟩:=by
   cases hh:ts[0]? with
   |none=>simp [hh] at hti0
   |some t=>exact ⟨t,rfl,by simpa [hh] using hti0⟩
  split at h
  case h_1=>simp at h
  case h_2 te hte=>
  split at h
  case isFalse=>simp at h
  case isTrue hke=>
  split at h
  case h_1=>simp at h
  case h_2 y hr=>
  split at h
  case isFalse=>simp at h
  case isTrue hk=>
  obtain ⟨ymem,yk,ym,yd⟩:=y
  dsimp only at hk h
  subst hk
  cases hml:(ymem||!ym.dU||!ym.live) with
  |true=>rw [hml] at h;simp at h
  |false=>
  rw [hml] at h
  simp only [cond_false] at h
  simp only [Bool.or_eq_false_iff,Bool.not_eq_false'] at hml
  obtain ⟨⟨rfl,hown⟩,hlive⟩:=hml
  split at h
  case isFalse=>simp at h
  case isTrue hfits=>
  obtain ⟨d,hd,hdok⟩:=(hT.ty _ _ hti).desc
  obtain ⟨rfl,te',hte',hk',hsz⟩:=hdok
  simp only at hte' hk'
  rw [hte] at hte'
  cases hte'
  obtain ⟨i,z,hi,hs,hb,hz,hzc,hzs⟩:=(hT.ty _ _ hte).zeroOf
  rw [hke] at hs hzc hzs
  have hv1:=R.eval y1
  rw [hy1] at hv1
  obtain ⟨⟨v,v0,hvv,hvr⟩,_⟩:=hv1.cell (by simp) rfl (by simp) (by simp)
  simp only [List.cons.injEq,and_true] at hvv
  obtain ⟨e2',base,k1',k2',k3',sa,sN,sc,sa',hsv,hsl,hsc,hsw,hsa⟩:=hvr _ hr
  rw [cZ] at k3'
  simp only [Option.some.injEq,Prod.mk.injEq] at k3'
  refine ⟨_,h,?_⟩
  clear h
  change List Int at yd
  intro hd' hal next Q hn
  unfold Oper.wp
  have hexec:∀w',(Builtin.clear_ #[t] 0 #[a.eval y1]).run P w=.ok (.tuple #[]) w'→(execOp a.eval o).run P w=.ok (.value (.tuple #[])) w':=by
   intro w' hrun
   have:∀ty,(Builtin.clear_ ts ty #[a.eval y1]).run P w=.ok (.tuple #[]) w':=fun ty=>by rw [aiJ ht1];exact hrun
   simp only [execOp,ho,resolve,Sem.run_bind,Sem.run_pure,Result.andThen_ok,invoke,builtin,hargs,this]
  have hres:∀w' C' rs',bH w' C' rs' (.tuple #[]) .tnil:=fun _ _ _=>.inr ⟨[],rfl,rfl⟩
  have hyv:a.eval y1=.slice sa' k (sc-lo):=by rw [hvv,hsw]
  by_cases h0:k=0
  ·subst h0
   rw [hexec w (by rw [hyv];exact adL hd)]
   have hsame:=afT (o:=o) R hr (ks:=[.at q [.idx 0]]) hd' hres
   refine hn _ _ C ?_
   have hdata:(List.take lo yd++List.replicate 0 0++List.drop (lo+0) yd:List Int)=yd:=by simp
   have key:(⟨false,.sl (.int .i64),ym,(List.take lo yd++List.replicate 0 0++List.drop (lo+0) yd:List Int)⟩:Root)=⟨false,.sl (.int .i64),ym,yd⟩:=by rw [hdata]
   rw [←key] at hsame
   exact hsame
  ·rcases ahD (d:=yd) R hr hown with ⟨hd0,_⟩|⟨b,off,cap,cs,T,H⟩
   ·exfalso
    rw [hd0] at hfits
    simp at hfits
    omega
   have hle:=H.le
   have hfit:=H.fit
   have e1:=H.ρ
   rw [k3'.1,hsv] at e1
   simp only [List.cons.injEq,and_true,Value.slice.injEq] at e1
   obtain ⟨rfl,rfl,rfl⟩:=e1
   have hsz1:e2'.size=1:=by
    simp only [K.at,Option.some.injEq,K.sl.injEq] at k1'
    rw [←k1'];rfl
   have ha':=hsa (by omega)
   rw [hsz1,Nat.mul_one,Option.map_some] at ha'
   have hz1:z.cells = #[.int .i64 0]:=by
    have:z.cells.toList=[.int .i64 0]:=hzc
    cases hzz:z.cells with
    |mk l=>rw [hzz] at this;simpa using this
   have hnews:(Builtin.zeroCells z.cells k).toList=List.replicate k (.int .i64 0):=by
    rw [hz1]
    refine List.eq_replicate_iff.2 ⟨by simp [Builtin.zeroCells],fun v hv=>?_⟩
    simp only [Builtin.zeroCells,Array.toList_map,List.mem_map] at hv
    obtain ⟨j,_,rfl⟩:=hv
    have:j%(#[Value.int .i64 0]:Array Value).size=0:=Nat.mod_one j
    rw [this]
    rfl
   have hrun:=afl (P:=P) (w:=w) (t:=t) (ty:=0) (z:=z) (b:=b) (o:=off+lo) (n:=k) (c:=sc-lo) (cs:=cs) (T:=T) hd (fun w=>Kk hi hz) (by omega) (by rw [hz1];simp;rfl) H.heap (by rw [hz1];show off+lo+k*1≤cs.size;omega)
   rw [hnews] at hrun
   have hyv2:a.eval y1=.slice (some ⟨b,off+lo,none⟩) k (sc-lo):=by rw [hyv,ha',addr_add]
   rw [hexec _ (by rw [hyv2];exact hrun)]
   have hdl:(List.take lo yd++List.replicate k 0++List.drop (lo+k) yd:List Int).length=yd.length:=by simp;omega
   refine hn _ _ C (aiM R hr hown H hdl (iC (by simp;omega)) (fun i x hx=>?_) hd' hres)
   rw [List.append_assoc,List.getElem?_append,List.length_take] at hx
   by_cases h1:i<lo
   ·rw [if_pos (by omega),List.getElem?_take,if_pos h1] at hx
    rw [as9 (by omega) (by omega)]
    exact H.el i x hx
   ·rw [if_neg (by omega),Nat.min_eq_left (by omega),List.getElem?_append,List.length_replicate] at hx
    rw [show off+i=off+lo+(i-lo) by omega,ari (by simp;omega),List.length_replicate]
    by_cases h2:i-lo<k
    ·rw [if_pos h2,List.getElem?_replicate,if_pos h2] at hx
     rw [if_pos h2,List.getElem?_replicate,if_pos h2,Option.some.inj hx]
    ·rw [if_neg h2,List.getElem?_drop] at hx
     rw [if_neg h2,show off+lo+(i-lo)=off+i by omega]
     refine H.el i x ?_
     rw [←hx]
     congr 1
     omega
 all_goals simp_all
end
end Go.Abs
namespace Go.Abs
variable {Γ : Glb}
section
variable {P : Program} {V : Env} {w0 w : World} {M0 : BS} {n : Nat} {C0 C : Ctx} {s : St} {a : Act}
variable {R' : Type} {r : R'} {o : Oper}
theorem amQ(hT:gq P V)(hE:XR P Γ V w0 M0 C0)(R:Rel w0 M0 n C0 C s a w){c:Del→Option R'}(h:bC V o s.tmps s.roots c=some r):∃x,c x=some r∧Does P w0 M0 n C0 s a w o x:=by
 cases ho:o.op with
 |move x=>exact anZ R ho h
 |assign x=>exact aiT R ho h
 |pick x y z=>exact an0 R ho h
 |alloc t=>exact alb hT R ho h
 |box t x=>exact apz R ho h
 |build t ps=>exact ald hT R ho h
 |buildSlice t k ps=>exact aaN hT R ho h
 |load t x=>exact anY hT R ho h
 |store t x y=>exact ali hT R ho h
 |nilCheck x=>exact aeP R ho h
 |binOp op t x y ty=>exact alc hT R ho h
 |unOp op t x=>exact an1 R ho h
 |convert t1 t2 x=>exact agL hT R ho h
 |makeFunc f f1 cs=>exact aeO R ho h
 |makeSlice t l cp=>exact ab7 hT R ho h
 |slice t x lo hi mx=>exact alh hT R ho h
 |field t x f=>exact alf hT R ho h
 |fieldAddr t x f=>exact ab5 hT R ho h
 |indexAddr t x i=>exact ab6 hT R ho h
 |index t x i=>exact alg hT R ho h
 |extract x i=>exact agM R ho h
 |call cl=>
  obtain ⟨cal,args,ts⟩:=cl
  cases cal with
  |value f=>exact anV hE R ho h
  |builtin b=>
   cases b with
   |len=>exact apB hT R ho h
   |append=>exact aiS hT R ho h
   |cap=>exact apA hT R ho h
   |min=>exact apD R ho h
   |max=>exact apC R ho h
   |copy=>exact anW hT R ho h
   |clear=>exact ale hT R ho h
   |_=>simp [bC,ho,fH] at h
  |invoke _ _=>simp [bC,ho] at h
 |_=>simp [bC,ho] at h
theorem Rel.Sn(R:Rel w0 M0 n C0 C s a w){t:Nat}{z b:Bool}(h:s.tmps t=.imm z .bool b):Rel w0 M0 n C0 C (Sn t (.imm z .bool b) s) a w where
 ext:=R.ext
 mem:=R.mem
 tm:=by
  intro t'
  simp only [Go.Abs.Sn]
  by_cases ht:t'=t
  ·rw [beq_iff.2 ht,ht]
   have hv:=R.tm t
   rw [h] at hv
   rw [hv.bool]
   exact bH.mQ b
  ·rw [gJ ht];exact R.tm t'
 kept:=R.kept
 foot:=R.foot
 pins:=R.pins
 defers:=R.defers
 room:=R.room
 parρ:=R.parρ
 zn:=R.zn
theorem bH.undef{v:Value}{rs:RF}(h:bH w C rs v .tnil):v=undef:=by
 rcases h with (h|⟨h,_⟩|⟨_,h,_⟩)|⟨vs,h,h2⟩
 ·cases h
 ·cases h
 ·exact h.elim
 ·have:vs=[]:=h2
  subst this;exact h
theorem Rel.skip(R:Rel w0 M0 n C0 C s a w)(hd:∀d,o.dst=some d→d<n):Rel w0 M0 n C0 C (gT o s) (a.put o.dst undef) w where
 ext:=R.ext
 mem:=R.mem
 tm:=by
  intro t
  simp only [gT]
  cases ho:o.dst with
  |none=>exact R.tm t
  |some d=>
   rw [acn (by rw [R.room];exact hd d ho)]
   by_cases ht:t=d
   ·rw [if_pos ht]
    simp only [beq_iff.2 ht,cond_true]
    exact .inr ⟨[],rfl,rfl⟩
   ·rw [if_neg ht]
    simp only [gJ ht,cond_false]
    exact R.tm t
 kept:=R.kept
 foot:=R.foot
 pins:=R.pins
 defers:=by cases ho:o.dst<;>exact R.defers
 room:=by cases ho:o.dst<;>simp [Act.put,R.room]
 parρ:=R.parρ
 zn:=R.zn
theorem D9.atK(R:D9 w0 M0 n C0 C s a w){t:Nat}{z b:Bool}(h:s.tmps t=.imm z .bool b):D9 w0 M0 n C0 C (Sn t (.imm z .bool b) s) a w:=by
 obtain ⟨w1,R1,hu⟩:=R
 exact ⟨w1,R1.Sn h,hu⟩
theorem D9.aq3(R:D9 w0 M0 n C0 C s a w)(hd:∀d,o.dst=some d→d<n):D9 w0 M0 n C0 C (gT o s) (a.put o.dst undef) w:=by
 obtain ⟨w1,R1,hu⟩:=R
 exact ⟨w1,R1.skip hd,hu⟩
theorem aaf(hT:gq P V)(hE:XR P Γ V w0 M0 C0)(R:D9 w0 M0 n C0 C s a w)(hd:∀d,o.dst=some d→d<n){c:St→Tr→Option R'}(h:WQ V o s c=some r) :
  ∃s' tr,c s' tr=some r∧∀(next:Act→World→Prop)(Q:Exit→Act→World→Prop),(∀a' w' C',D9 w0 M0 n C0 C' s' a' w'→next a' w')→o.wp P a w next Q:=by
 unfold WQ at h
 obtain ⟨x,h,hx⟩:=ZG hT R (fun R' h'=>amQ hT hE R' h') h
 cases hal:ku s o.dst x with
 |false=>rw [hal] at h;simp at h
 |true=>
 rw [hal] at h
 exact ⟨_,_,h,fun next Q hn=>hx hd hal next Q hn⟩
theorem ab4(hT:gq P V)(hE:XR P Γ V w0 M0 C0){ops:Array Oper}{i:Nat}(hi:ops[i]?=some o)(R:D9 w0 M0 n C0 C s a w)(hd:∀d,o.dst=some d→d<n){c:St→Tr→Option R'}(h:Ot V ops.toList o s c=some r) :
  ∃s' tr,c s' tr=some r∧∀(next:Act→World→Prop)(Q:Exit→Act→World→Prop),(∀a' w' C',D9 w0 M0 n C0 C' s' a' w'→next a' w')→wpOp P ops Q i next a w:=by
 unfold Ot at h
 split at h
 ·rename_i hg
  obtain ⟨s',tr,h1,h2⟩:=aaf hT hE R hd h
  refine ⟨s',tr,h1,fun next Q hn=>?_⟩
  unfold wpOp
  simp only [hi,Region.wanted,hg,if_true]
  exact .inl (h2 next Q hn)
 ·rename_i j want hg
  split at h
  ·simp at h
  ·rename_i t ht
   split at h
   case h_3=>simp at h
   case h_2 hb=>
    have hy:yielded ops a.tmps j=none:=by
     unfold yielded
     rw [Array.getElem?_toList] at ht
     rw [ht]
     simp only [Option.bind_some]
     obtain ⟨_,R1,_⟩:=id R
     have hv:=R1.tm t
     rw [hb] at hv
     have hvu:=bH.undef hv
     rw [Array.getD_eq_getD_getElem?] at hvu
     cases hh:a.tmps[t]? with
     |none=>rfl
     |some v=>rw [hh] at hvu;simp only [Option.getD_some] at hvu;subst hvu;rfl
    refine ⟨_,_,h,fun next Q hn=>?_⟩
    unfold wpOp
    simp only [hi,Region.wanted,hg,hy,show ((none:Option Bool) == some want)=false from rfl]
    exact hn _ _ C (R.aq3 hd)
   case h_1 z b hb=>
   obtain ⟨_,R1,_⟩:=id R
   have hv:=R1.tm t
   rw [hb] at hv
   have hvb:=hv.bool
   have hy:yielded ops a.tmps j=some b:=by
    unfold yielded
    rw [Array.getElem?_toList] at ht
    rw [ht]
    simp only [Option.bind_some]
    have:a.tmps[t]?=some (.bool b):=by
     rw [Array.getD_eq_getD_getElem?] at hvb
     cases hh:a.tmps[t]? with
     |none=>rw [hh] at hvb;cases hvb
     |some v=>rw [hh] at hvb;simp only [Option.getD_some] at hvb;rw [hvb]
    rw [this]
   have run:∀bb:Bool,b=bb→want=bb→∀{c':St→Tr→Option R'},WQ V o (Sn t (.imm z .bool bb) s) c'=some r →
     ∃s' tr,c' s' tr=some r∧∀(next:Act→World→Prop)(Q:Exit→Act→World→Prop),(∀a' w' C',D9 w0 M0 n C0 C' s' a' w'→next a' w')→wpOp P ops Q i next a w:=by
    intro bb hb1 hb2 c' hc
    subst hb1
    subst hb2
    obtain ⟨s',tr,h1,h2⟩:=aaf hT hE (R.atK hb) hd hc
    refine ⟨s',tr,h1,fun next Q hn=>?_⟩
    unfold wpOp
    simp only [hi,Region.wanted,hg,hy,beq_self_eq_true,if_true]
    exact .inl (h2 next Q hn)
   have skp:∀bb:Bool,b=bb→want≠bb→∀(tr:Tr){c':St→Tr→Option R'},c' (gT o (Sn t (.imm z .bool bb) s)) tr=some r →
     ∃s' tr,c' s' tr=some r∧∀(next:Act→World→Prop)(Q:Exit→Act→World→Prop),(∀a' w' C',D9 w0 M0 n C0 C' s' a' w'→next a' w')→wpOp P ops Q i next a w:=by
    intro bb hb1 hb2 tr c' hc
    subst hb1
    refine ⟨_,tr,hc,fun next Q hn=>?_⟩
    unfold wpOp
    have hne:(some b == some want)=false:=by cases b<;>cases want<;>first|rfl|exact absurd rfl hb2
    simp only [hi,Region.wanted,hg,hy,hne]
    exact hn _ _ C ((R.atK hb).aq3 hd)
   cases want<;>cases b
   ·exact run false rfl rfl h
   ·exact skp true rfl (by simp) _ h
   ·exact skp false rfl (by simp) _ h
   ·exact run true rfl rfl h
theorem agK(hT:gq P V)(hE:XR P Γ V w0 M0 C0){ops:Array Oper}(hd:∀o∈ops.toList,∀d,o.dst=some d→d<n){c:St→List Tr→Option R'}{Q:Exit→Act→World→Prop}
  (hq:∀s' accs' a' w' C',c s' accs'=some r→D9 w0 M0 n C0 C' s' a' w'→Q .normal a' w'):∀(l:List Oper)(k:Nat),ops.toList.drop k=l→∀{C:Ctx}{s:St}{a:Act}{w:World}(_:D9 w0 M0 n C0 C s a w){accs:List Tr},
  Ya V ops.toList l s accs c=some r→wpOps P ops Q (List.range' k l.length) a w:=by
 intro l
 induction l with
 |nil=>
  intro k hk C s a w R accs h
  exact hq s accs a w C h R
 |cons o l ih=>
  intro k hk C s a w R accs h
  have hok:ops[k]?=some o:=by
   rw [←Array.getElem?_toList]
   have:=congrArg (·[0]?) hk
   simpa using this
  have hk':ops.toList.drop (k+1)=l:=by
   rw [←List.drop_drop,hk];rfl
  simp only [Ya] at h
  obtain ⟨s1,tr,h1,h2⟩:=ab4 hT hE hok R (hd o (List.mem_of_getElem? (by rw [Array.getElem?_toList];exact hok))) h
  rw [show List.range' k (o::l).length=k::List.range' (k+1) l.length from rfl,wpOps_cons]
  exact h2 _ Q (fun a' w' C' R'=>ih (k+1) hk' R' h1)
theorem aiq(hT:gq P V)(hE:XR P Γ V w0 M0 C0){id:Nat}{ops:Array Oper}(hd:∀o∈ops.toList,∀d,o.dst=some d→d<n){c:St→Option R'}{Q:Exit→Act→World→Prop}
  (hq:∀s' a' w' C',c s'=some r→Rel w0 M0 n C0 C' s' a' w'→Q .normal a' w') (R:Rel w0 M0 n C0 C s a w) (h:zJ V ops.toList false s c=some r):(Code.region id ops false).wp P Q a w:=by
 refine wp_region ?_
 unfold zJ at h
 split at h
 ·simp at h
 rename_i hn
 have:=agK hT hE hd (Q:=Q) (fun s' _ a' w' C' h R=>by
  split at h
  ·simp at h
  ·rename_i hn'
   exact hq s' a' w' C' h (R.one hn')) ops.toList 0 rfl (R.two hn) h
 rw [List.range_eq_range']
 simpa using this
theorem ao5(tm:TF):∀(l:List Nat)(t:Nat),XM (SL tm l) t=tm t∨XM (SL tm l) t=.dead:=by
 intro l
 induction l with
 |nil=>intro t;exact .inr rfl
 |cons x l ih=>
  intro t
  simp only [SL,XM]
  by_cases h:t=x
  ·rw [beq_iff.2 h,h];exact .inl rfl
  ·rw [gJ h];exact ih t
theorem aoM(rs:RF):∀(l:List ay)(q:ay)(y:Root),WM (keepR rs l) q=some y→rs q=some y∧q∈l:=by
 intro l
 induction l with
 |nil=>intro q y h;cases h
 |cons x l ih=>
  intro q y h
  simp only [keepR,WM] at h
  by_cases hq:q=x
  ·rw [bW.2 hq] at h;subst hq;exact ⟨h,by simp⟩
  ·rw [gN hq] at h
   obtain ⟨h1,h2⟩:=ih q y h
   exact ⟨h1,by simp [h2]⟩
theorem amf{rs:RF}{q p:ay}{y:Root}(hy:rs q=some y)(hp:p∈aS y.k y.d):∀(l:List ay),q∈l→Jc rs l p.1=true:=by
 intro l
 induction l with
 |nil=>intro h;cases h
 |cons x l ih=>
  intro h
  simp only [Jc,Bool.or_eq_true]
  rcases List.mem_cons.1 h with rfl|h
  ·left
   rw [hy]
   simp only
   cases hpl:y.k.plain with
   |true=>rw [bV _ hpl] at hp;cases hp
   |false=>simp only [cond_false,List.any_eq_true];exact ⟨p,hp,beq_iff.2 rfl⟩
  ·exact .inr (ih h)
theorem Rel.restrict(R:Rel w0 M0 n C0 C s a w)(kp:Keep):Rel w0 M0 n C0 C (Go.Abs.restrict kp s) a w:=by
 have hr:∀q y,(Go.Abs.restrict kp s).roots q=some y→s.roots q=some y∧q∈kp.2:=fun q y h=>aoM _ _ q y h
 refine ⟨R.ext,⟨fun q y h=>R.mem.ok q y (hr q y h).1,fun q q' y y' h h'=>R.mem.disj q q' y y' (hr q y h).1 (hr q' y' h').1,fun q y b h=>R.mem.apart q y b (hr q y h).1,R.mem.ro,fun q y h p hp z hz=>R.mem.ptr q y (hr q y h).1 p hp z (hr p z hz).1⟩,
  fun t=>?_,R.kept,fun q y b h=>R.foot q y b (hr q y h).1,fun q y h p hp h2=>amf (hr q y h).1 hp _ (hr q y h).2,R.defers,R.room,fun i y h hm=>R.parρ i y (hr _ y h).1 hm,R.zn⟩
 show bH w C _ _ (XM (SL s.tmps kp.1) t)
 rcases ao5 s.tmps kp.1 t with h|h
 ·rw [h,←QY (s.tmps t)]
  exact (R.tm t).step fun av vs hl _ hav=>kN R.mem (fun _=>False) rfl rfl (fun _ _=>rfl) (fun _ _=>rfl) (fun q y _ hy=>(hr q y hy).1) (fun _ _=>rfl) hl (fun _ _ h=>h) hav
 ·rw [h];exact bH.dead
end
end Go.Abs
namespace Go.Abs
section
variable {R R' : Type}
theorem fP(b:Bool)(x y:Option R)(g:R→Option R'):(bif b then x else y).bind g=bif b then x.bind g else y.bind g:=by cases b<;>rfl
theorem uN(g:R→Option R'):∀(p:Path){k:K}{d:k.den}{m:Mask}(c:(k':K)→k'.den→Mask→Option R),(iF k d m p c).bind g=iF k d m p fun k' d' m'=>(c k' d' m').bind g:=by
 intro p
 induction p with
 |nil=>intro k d m c;cases k<;>rfl
 |cons s p ih=>
  intro k d m c
  cases s<;>cases k<;>first|rfl|exact ih _|skip
  simp only [iF]
  split
  ·split
   ·rfl
   ·exact ih _
  ·rfl
theorem aen(g:R→Option R'){k1:K}{d1:k1.den}{m1:Mask}:∀(p:Path){k:K}{d:k.den}{m:Mask}(c:k.den→Mask→Option R),(FW k d m p k1 d1 m1 c).bind g=FW k d m p k1 d1 m1 fun d' m'=>(c d' m').bind g:=by
 intro p
 induction p with
 |nil=>
  intro k d m c
  have h:∀{R:Type}(c:k.den→Mask→Option R),FW k d m [] k1 d1 m1 c=if h:k1=k then c (h ▸ d1) (bif k.flat then m else m1) else none:=by intro R c;cases k<;>rfl
  rw [h,h]
  split<;>rfl
 |cons s p ih=>
  intro k d m c
  cases s<;>cases k<;>first|rfl|exact ih _|skip
  simp only [FW]
  split
  ·cases m.dU with
   |false=>rfl
   |true=>
    simp only [cond_true]
    rw [ih]
    congr 1
    funext d' m'
    split<;>rfl
  ·rfl
theorem amH{r0:ay}(g:R→Option R'):∀(av:AV){k:K}{p:Path}{d:k.den}{m:Mask}(c:k.den→Mask→Option R),(qo r0 av k p d m c).bind g=qo r0 av k p d m fun d m=>(c d m).bind g:=by
 intro av
 induction av with
 |pair a b iha ihb=>
  intro k p d m c
  cases k<;>first|rfl|skip
  simp only [qo]
  rw [iha]
  congr 1
  funext d m
  rw [ihb]
 |imm z k d=>
  intro k p d m c
  cases k<;>simp only [qo]<;>split<;>rfl
 |ref q p'=>
  intro k p d m c
  cases k<;>first|rfl|skip
  simp only [qo]
  split<;>rfl
 |_=>intro k p d m c;cases k<;>rfl
theorem TB{rs:RF}(g:R→Option R'):∀(av:AV){k:K}{u:U}(c:k.den→Mask→U→List ay→List ay→Option R),(dL rs av k u c).bind g=dL rs av k u fun d m u e q=>(c d m u e q).bind g:=by
 intro av
 induction av with
 |pair a b iha ihb=>
  intro k u c
  cases k<;>first|rfl|skip
  simp only [dL]
  split
  ·split
   ·split
    ·rw [amH]
    ·rfl
   ·rfl
  ·rw [iha]
   congr 1
   funext d m u e q
   rw [ihb]
 |imm z k d=>
  intro k u c
  cases k<;>simp only [dL]<;>split<;>rfl
 |ref q p=>
  intro k u c
  cases p with
  |cons _ _=>cases k<;>rfl
  |nil=>
   cases k<;>simp only [dL]<;>split<;>first|rfl|skip
   all_goals
    rename_i x _
    cases x.mem<;>simp only [cond_true,cond_false]<;>first|rfl|(split<;>first|rfl|(cases x.roZ<;>rfl))
 |slc q p lo n=>
  intro k u c
  cases p with
  |cons _ _=>cases k<;>rfl
  |nil=>
   cases k<;>first|rfl|skip
   simp only [dL]
   split
   ·rename_i x _
    cases (x.mem||!x.m.dU)<;>simp only [cond_true,cond_false]<;>first|rfl|(split<;>rfl)
   ·rfl
 |ptr q p=>intro k u c;cases p<;>cases k<;>rfl
 |_=>intro k u c;cases k<;>rfl
theorem ait{rs:RF}{e:K}(g:R→Option R'):∀(l:List AV){u:U}{m:Option Mask}(c:List e.den→Option Mask→U→List ay→List ay→Option R),(qw rs e l u m c).bind g=qw rs e l u m fun d m u e q=>(c d m u e q).bind g:=by
 intro l
 induction l with
 |nil=>intro u m c;rfl
 |cons a l ih=>
  intro u m c
  simp only [qw]
  rw [TB]
  congr 1
  funext d ma u1 e1 q1
  cases m with
  |none=>exact ih _
  |some m0=>
   simp only
   split
   ·exact ih _
   ·rfl
theorem agy{rs:RF}{e:K}(g:R→Option R')(l:List AV)(c:List e.den→Option Mask→U→List ay→List ay→Option R):(qR rs e l c).bind g=qR rs e l fun d m u e q=>(c d m u e q).bind g:=by
 unfold qR
 split
 ·rfl
 ·rw [ait]
theorem kT{rs:RF}{u:U}{e:K}{av:AV}(g:R→Option R')(c:List e.den→Mask→Option R):(iB rs u e av c).bind g=iB rs u e av fun xs m=>(c xs m).bind g:=by
 cases av<;>first|rfl|skip
 ·simp only [iB];split<;>rfl
 ·simp only [iB];split<;>rfl
 ·simp only [iB]
  split
  ·rfl
  ·rw [uN]
   congr 1
   funext k d m
   split
   ·cases m.live<;>rfl
   ·rfl
 ·simp only [iB]
  split
  ·rfl
  ·rw [uN]
   congr 1
   funext k d m
   split
   ·cases m.live<;>rfl
   ·rfl
theorem aeu{r:ay}{u:U}{e:K}{x:Root}{p:Path}(g:R→Option R')(c:List e.den→Mask→U→List Kill→List ay→Option R):(MH r e u x p c).bind g=MH r e u x p fun xs m u k n=>(c xs m u k n).bind g:=by
 unfold MH
 rw [uN]
 congr 1
 funext k d m
 split
 ·cases m.dU with
  |false=>rfl
  |true=>simp only [cond_true];rw [aen]
 ·rfl
theorem QH{rs:RF}{u:U}{e:K}{av:AV}(g:R→Option R')(c:List e.den→Mask→U→List Kill→List ay→Option R):(fU rs e u av c).bind g=fU rs e u av fun xs m u k n=>(c xs m u k n).bind g:=by
 cases av with
 |ref q p=>
  simp only [fU]
  split
  ·rfl
  ·rename_i x _
   split
   ·cases (x.mem||Nat.beq q.1 0) with
    |true=>simp only [cond_true];exact aeu g c
    |false=>
     simp only [cond_false]
     split
     ·cases x.m.dU<;>rfl
     ·rfl
   ·cases dM p with
    |true=>rfl
    |false=>simp only [cond_false];exact aeu g c
 |slc q p lo n=>
  cases p with
  |cons=>rfl
  |nil=>
   simp only [fU]
   split
   ·rfl
   ·rename_i x _
    cases x.mem with
    |true=>rfl
    |false=>
     simp only [cond_false]
     split
     ·cases x.m.dU<;>rfl
     ·rfl
 |_=>rfl
theorem akL{rs:RF}{u:U}{e:K}{av:AV}(g:R→Option R')(c:List e.den→Mask→U→List Kill→List ay→Option R):(vV rs e u av c).bind g=vV rs e u av fun xs m u k n=>(c xs m u k n).bind g:=by
 cases av with
 |imm z k d=>simp only [vV];split<;>rfl
 |_=>simp only [vV];exact QH (rs:=rs) (u:=u) (e:=e) g c
theorem afK{op:BinOp}{k:IntKind}{x y:Int}(g:R→Option R')(c:AV→Option R):(arith op k x y c).bind g=arith op k x y fun v=>(c v).bind g:=by
 cases op<;>simp only [arith]<;>first|rfl|(split<;>rfl)
theorem XZ{kt:Option K}{op:BinOp}{a b:AV}(g:R→Option R')(c:AV→Option R):(Vw kt op a b c).bind g=Vw kt op a b fun v=>(c v).bind g:=by
 unfold Vw
 split
 ·cases QX op with
  |true=>exact afK g c
  |false=>
   simp only [cond_false]
   split
   ·exact afK g c
   ·rfl
 ·split<;>rfl
 ·split<;>first|rfl|(split<;>rfl)
 ·split<;>rfl
 ·split<;>rfl
 ·split<;>first|rfl|(split<;>rfl)
 ·rename_i k1 k2 _ _ k' _
  by_cases h:k'=K.pair k1 k2
  ·rw [dif_pos h,dif_pos h]
   cases (K.pair k1 k2).ints&&decide (kt=some (K.pair k1 k2))
   ·rfl
   ·simp only [cond_true];split<;>rfl
  ·rw [dif_neg h,dif_neg h];rfl
 ·rfl
theorem aey{op:UnOp}{a:AV}(g:R→Option R')(c:AV→Option R):(ain op a c).bind g=ain op a fun v=>(c v).bind g:=by
 unfold ain;split<;>rfl
theorem TN{s d:Option K}{a:AV}(g:R→Option R')(c:AV→Option R):(KT s d a c).bind g=KT s d a fun v=>(c v).bind g:=by
 unfold KT;split<;>rfl
theorem kK{a:Option AV}{d:Int}(g:R→Option R')(c:Int→Option R):(nX a d c).bind g=nX a d fun v=>(c v).bind g:=by
 unfold nX;split<;>rfl
theorem ZV{rs:RF}{e:K}{a:AV}{i:Int}(g:R→Option R')(c:AV→Option R):(yB rs e a i c).bind g=yB rs e a i fun v=>(c v).bind g:=by
 unfold yB
 split
 ·split
  ·split<;>rfl
  ·rfl
 ·rw [kT];congr 1;funext xs m;split<;>rfl
 ·rw [kT];congr 1;funext xs m;split<;>rfl
 ·rfl
theorem aga{rs:RF}{e:K}{a:AV}(g:R→Option R')(c:Nat→Option R):(SS rs e a c).bind g=SS rs e a fun v=>(c v).bind g:=by
 unfold SS
 split
 ·split<;>rfl
 ·rw [kT]
theorem aaE{V:Env}{t:Nat}{rs:RF}{a:AV}{lo hi mx:Option AV}(g:R→Option R')(c:AV→Option R):(A9 V t rs a lo hi mx c).bind g=A9 V t rs a lo hi mx fun v=>(c v).bind g:=by
 unfold A9
 split
 ·split
  ·split
   ·rw [kT];congr 1;funext xs m;split<;>rfl
   ·rfl
  ·split
   ·rw [kT];congr 1;funext xs m;split<;>rfl
   ·rfl
  ·rfl
 ·rfl
 ·split
  ·split
   ·rw [kK];congr 1;funext l;rw [kK];congr 1;funext h;split<;>rfl
   ·rfl
  ·split
   ·rw [kK];congr 1;funext l;rw [kK];congr 1;funext h;split<;>rfl
   ·split
    ·rw [kK];congr 1;funext l;rw [kK];congr 1;funext h;split<;>rfl
    ·rfl
   ·rw [kT];congr 1;funext xs m;rw [kK];congr 1;funext l;rw [kK];congr 1;funext h;split<;>rfl
   ·rw [kT];congr 1;funext xs m;rw [kK];congr 1;funext l;rw [kK];congr 1;funext h;split<;>rfl
   ·rfl
  ·rfl
theorem ajm{R R':Type}{z:Bool}{k:K}{d:k.den}{p:Path}(g:R→Option R')(c:AV→Option R):(QW z k d p c).bind g=QW z k d p fun a=>(c a).bind g:=by
 unfold QW
 split
 ·split<;>rfl
 ·rfl
theorem anM{rs:RF}{rw:Bool}(g:R→Option R'):∀(av:AV){kind:Option K}{sn:List ay}{gg:Reg}(c:AV→List ay→Reg→Option R),(jL rs rw kind av sn gg c).bind g=jL rs rw kind av sn gg fun a s r=>(c a s r).bind g:=by
 intro av
 induction av with
 |pair a b iha ihb=>
  intro kind sn gg c
  simp only [jL]
  rw [iha]
  congr 1
  funext a s r
  rw [ihb]
 |nil=>intro kind sn gg c;simp only [jL];split<;>first|rfl|(rename_i e;cases e.plain<;>cases rw<;>rfl)
 |emp=>intro kind sn gg c;simp only [jL];split<;>first|rfl|(rename_i e;cases e.plain<;>rfl)
 |ptr q p=>
  intro kind sn gg c
  cases p with
  |cons st p=>
   simp only [jL]
   cases rw with
   |false=>rfl
   |true=>
    simp only [cond_true]
    split
    ·rfl
    ·rw [uN]
     congr 1
     funext k d m
     cases (m.live&&k.plain)<;>rfl
  |nil=>
   simp only [jL]
   cases rw with
   |false=>rfl
   |true=>
    simp only [cond_true]
    split
    ·rfl
    ·rename_i x _
     cases (x.mem&&(x.m.live&&x.k.plain))<;>rfl
 |iptr z k d p=>
  intro kind sn gg c
  simp only [jL]
  exact ajm g _
 |ref q p=>
  intro kind sn gg c
  simp only [jL]
  split
  ·rfl
  ·cases rw with
   |true=>
    simp only [cond_true]
    split
    ·cases LP q gg<;>rfl
    ·rfl
   |false=>
    simp only [cond_false]
    rw [uN]
    congr 1
    funext k d m
    cases (m.live&&k.plain) with
    |false=>rfl
    |true=>cases m<;>rfl
 |slc q p lo n=>
  intro kind sn gg c
  simp only [jL]
  split
  ·rfl
  ·cases rw with
   |true=>rfl
   |false=>
    simp only [cond_false]
    rw [uN]
    congr 1
    funext k d m
    cases (m.live&&k.plain) with
    |false=>rfl
    |true=>simp only [cond_true];split<;>rfl
 |_=>intro kind sn gg c;rfl
theorem abX{rs:RF}{rw:List Nat}(g:R→Option R'):∀(l:List AV){kinds:List (Option K)}{i:Nat}{sn:List ay}{gg:Reg}(c:List AV→List ay→Reg→Option R),(zG rs rw kinds i l sn gg c).bind g=zG rs rw kinds i l sn gg fun a s r=>(c a s r).bind g:=by
 intro l
 induction l with
 |nil=>intro kinds i sn gg c;rfl
 |cons a l ih=>
  intro kinds i sn gg c
  simp only [zG]
  rw [anM]
  congr 1
  funext a s r
  rw [ih]
theorem aiN{V:Env}{f:Nat}{args:List AV}{kinds:List (Option K)}{dst:Nat}{rs:RF}(g:R→Option R')(c:Del→Option R):(Al V f args kinds dst rs c).bind g=Al V f args kinds dst rs fun x=>(c x).bind g:=by
 unfold Al
 split
 ·rfl
 ·rw [abX]
  congr 1
  funext args' sn gg
  split
  ·rfl
  ·rename_i g2 _
   cases (akW sn g2||!pQ rs g2 g2||KN (dst+2) g2||!Nat.blt g2.length 1000000) with
   |true=>rfl
   |false=>
    simp only [cond_false]
    split
    ·rfl
    ·rw [Tre.asB]
     congr 1
     funext co
     cases (rJ g2.length co.fresh.length co.roots&&rJ g2.length co.fresh.length co.fresh&&(sn.isEmpty||(nN co.roots&&nN co.fresh&&co.res.done))) with
     |false=>rfl
     |true=>simp only [cond_true];split<;>rfl
theorem abW{V:Env}{ts:Array TypeId}{dst:Nat}{a x:AV}{rs:RF}(g:R→Option R')(c:Del→Option R):(qW V ts dst a x rs c).bind g=qW V ts dst a x rs fun y=>(c y).bind g:=by
 unfold qW
 split
 ·split
  ·rfl
  ·split
   ·rw [fP]
    congr 1
    rw [QH]
    congr 1
    funext xs ma u1 k1 g1
    split<;>rfl
   ·rfl
 ·rfl
theorem abV{V:Env}{ts:Array TypeId}{dst:Nat}{a x:AV}{rs:RF}(g:R→Option R')(c:Del→Option R):(mI V ts dst a x rs c).bind g=mI V ts dst a x rs fun y=>(c y).bind g:=by
 unfold mI
 split
 ·split
  ·rfl
  ·split<;>rfl
 ·rfl
 ·rw [abW]
theorem ak4{V:Env}{ts:Array TypeId}{rs:RF}{a x:AV}(g:R→Option R')(c:Del→Option R):(TP V ts rs a x c).bind g=TP V ts rs a x fun y=>(c y).bind g:=by
 unfold TP
 split
 ·split
  ·rfl
  ·split
   ·split
    ·rfl
    ·split
     ·rw [fP]
      congr 1
      rw [kT]
     ·rfl
   ·rfl
 ·rfl
theorem aiI{V:Env}{ts:Array TypeId}{rs:RF}{a:AV}(g:R→Option R')(c:Del→Option R):(KS V ts rs a c).bind g=KS V ts rs a fun y=>(c y).bind g:=by
 unfold KS
 split
 ·split
  ·rfl
  ·split
   ·split
    ·rfl
    ·split
     ·rw [fP]
      congr 1
      split<;>rfl
     ·rfl
   ·rfl
 ·rfl
theorem ab3{V:Env}{b:Builtin}{ts:Array TypeId}{dst:Nat}{args:List AV}{rs:RF}(g:R→Option R')(c:Del→Option R):(fH V b ts dst args rs c).bind g=fH V b ts dst args rs fun x=>(c x).bind g:=by
 unfold fH
 split
 ·split
  ·rw [aga]
  ·split<;>rfl
  ·rfl
 ·split
  ·cases Y0 (ts[1]?.bind V.k) with
   |true=>simp only [cond_true];rw [abV]
   |false=>
    simp only [cond_false]
    split
    ·rfl
    ·split
     ·rw [QH]
      congr 1
      funext xs ma u1 k1 g1
      split
      ·split
       ·split<;>rfl
       ·rfl
      ·rw [kT]
       congr 1
       funext ys m
       split
       ·rw [fP]
        congr 1
        rw [fP]
        congr 1
        rw [akL]
        congr 1
        funext ys' mb' u2 k2 g2
        split
        ·rw [fP];rfl
        ·rfl
       ·rfl
     ·rfl
  ·rfl
 ·split<;>rfl
 ·split<;>rfl
 ·split<;>rfl
 ·rw [ak4]
 ·rw [aiI]
 ·rfl
theorem ak3{rs:RF}{k:K}{v:AV}(g:R→Option R')(c:Del→Option R):(KR rs k v c).bind g=KR rs k v fun x=>(c x).bind g:=by
 unfold KR
 split
 ·rw [fP];rfl
 ·rw [kT]
 ·rfl
theorem X9{V:Env}{o:Oper}{tm:TF}{rs:RF}(g:R→Option R')(c:Del→Option R):(bC V o tm rs c).bind g=bC V o tm rs fun x=>(c x).bind g:=by
 unfold bC
 dsimp only
 split
 ·rfl
 ·split
  ·rw [fP];congr 1
   split
   ·rfl
   ·rw [fP]
  ·rfl
 ·split
  ·rw [fP]
  ·rfl
 ·split<;>rfl
 ·split
  ·split
   ·rfl
   ·rw [TB]
  ·rfl
 ·split
  ·rw [fP];rfl
  ·rfl
 ·split
  ·split
   ·rfl
   ·rw [fP];congr 1;rw [agy]
  ·rfl
 ·split
  ·rfl
  ·split
   ·split
    ·rfl
    ·rw [uN];congr 1;funext k d m;split<;>rfl
   ·rw [uN];congr 1;funext k d m;split<;>rfl
   ·split
    ·rfl
    ·split
     ·rw [uN];congr 1;funext k d m;split<;>rfl
     ·split
      ·rfl
      ·split
       ·rw [uN];congr 1;funext k d m
        split
        ·rw [fP];rfl
        ·rfl
       ·rfl
   ·rfl
 ·split
  ·rfl
  ·split
   ·rw [TB];congr 1;funext d m u e q;rw [fP];congr 1
    split
    ·rfl
    ·rw [aen]
   ·rfl
 ·split<;>rfl
 ·rw [XZ]
 ·rw [aey]
 ·rw [TN]
 ·split<;>rfl
 ·split
  ·split
   ·split<;>rfl
   ·rfl
  ·rfl
 ·rw [aaE]
 ·split
  ·split
   ·rfl
   ·split<;>rfl
  ·split<;>rfl
  ·split
   ·rfl
   ·split<;>rfl
  ·rfl
 ·split
  ·rw [ZV]
  ·rfl
 ·split
  ·split
   ·split<;>rfl
   ·rfl
  ·rfl
 ·split
  ·rw [fP,ak3];rfl
  ·rfl
 ·rw [fP];rfl
 ·rw [ab3]
 ·unfold callee
  split
  ·rw [aiN]
  ·rfl
 ·rfl
theorem aiQ{V:Env}{x:TypeId×ay×Nat×Nat}{rs:RF}(g:R→Option R')(c:Del→Option R):(xQ V x rs c).bind g=xQ V x rs fun y=>(c y).bind g:=by
 unfold xQ
 split
 ·split
  ·rfl
  ·split
   ·rw [fP]
    congr 1
    split
    ·rfl
    ·split
     ·rw [fP]
      congr 1
      split<;>rfl
     ·rfl
   ·rfl
 ·rfl
theorem ak8{V:Env}{o:Oper}{tm:TF}{rs:RF}(g:R→Option R')(c:Del→Option R):(zI V o tm rs c).bind g=zI V o tm rs fun x=>(c x).bind g:=by
 unfold zI
 split
 ·exact aiQ g c
 ·rw [fP,X9]
  congr 1
  split
  ·rw [X9]
   congr 1
   funext x
   split<;>rfl
  ·rfl
def Bf (V:Env) (o:Oper) (tm:TF) (rs:RF):Option Del:=bC V o tm rs some
theorem Ou{V:Env}{o:Oper}{tm:TF}{rs:RF}(c:Del→Option R):bC V o tm rs c=(Bf V o tm rs).bind c:=(X9 c some).symm
theorem TQ{V:Env}{o:Oper}{tm:TF}{rs:RF}{x:Del}:(bC V o tm rs fun x=>match dn dF x.u with
  |none=>some x
  |some _=>none)=some x↔Bf V o tm rs=some x∧dn dF x.u=none:=by
 rw [Ou,Option.bind_eq_some_iff]
 constructor
 ·rintro ⟨y,h1,h2⟩
  split at h2
  ·rename_i h3;cases h2;exact ⟨h1,h3⟩
  ·cases h2
 ·rintro ⟨h1,h2⟩
  exact ⟨x,h1,by rw [h2]⟩
def IC (V:Env) (o:Oper) (tm:TF) (rs:RF):Option Del:=zI V o tm rs some
theorem ak9{V:Env}{o:Oper}{tm:TF}{rs:RF}(c:Del→Option R):zI V o tm rs c=(IC V o tm rs).bind c:=(ak8 c some).symm
end
end Go.Abs
namespace Go.Abs
section
variable {R : Type} {rs rs' : RF}
theorem rG{u:U}{q:ay}(h:rs' q=rs q):look rs' u q=look rs u q:=by
 unfold look;rw [h]
theorem afF:∀(a:AV)(p:Path){r0:ay},wholeAt a p=some r0→r0∈a.names:=by
 intro a
 induction a with
 |ref q p'=>
  intro p r0 h
  simp only [wholeAt] at h
  split at h
  ·cases h;simp [AV.names]
  ·cases h
 |pair a b iha ihb=>
  intro p r0 h
  simp only [wholeAt] at h
  split at h
  ·rename_i r1 h1
   cases h
   simp [AV.names,iha _ h1]
  ·simp [AV.names,ihb _ h]
 |_=>intro p r0 h;simp [wholeAt] at h
theorem KL:∀(av:AV){k:K}{u:U}(_:∀q∈av.names,rs' q=rs q)(c:k.den→Mask→U→List ay→List ay→Option R),dL rs' av k u c=dL rs av k u c:=by
 intro av
 induction av with
 |pair a b iha ihb=>
  intro k u h c
  cases k<;>first|rfl|skip
  simp only [dL]
  split
  ·rename_i r0 h0
   rw [rG (u:=u) (h r0 (afF _ _ h0))]
  ·rw [iha (fun q hq=>h q (by simp [AV.names,hq]))]
   congr 1
   funext d m u1 e1 q1
   rw [ihb (fun q hq=>h q (by simp [AV.names,hq]))]
 |ref q p=>
  intro k u h c
  have hq:=rG (u:=u) (h q (by simp [AV.names]))
  cases p with
  |nil=>cases k<;>simp only [dL,hq]
  |cons=>cases k<;>rfl
 |slc q p lo n=>
  intro k u h c
  have hq:=rG (u:=u) (h q (by simp [AV.names]))
  cases p with
  |nil=>cases k<;>first|rfl|simp only [dL,hq]
  |cons=>cases k<;>rfl
 |ptr q p=>intro k u h c;cases p<;>cases k<;>rfl
 |_=>intro k u h c;cases k<;>rfl
theorem Wx{q:ay}:∀{l:List AV}{a:AV},a∈l→q∈a.names→q∈bU l:=by
 intro l
 induction l with
 |nil=>intro a h;cases h
 |cons x l ih=>
  intro a h hq
  simp only [bU,List.mem_append]
  rcases List.mem_cons.1 h with rfl|h
  ·exact .inl hq
  ·exact .inr (ih h hq)
theorem aeF{e:K}:∀(l:List AV){u:U}{m:Option Mask}(_:∀q∈bU l,rs' q=rs q)(c:List e.den→Option Mask→U→List ay→List ay→Option R),qw rs' e l u m c=qw rs e l u m c:=by
 intro l
 induction l with
 |nil=>intro u m _ c;rfl
 |cons a l ih=>
  intro u m h c
  simp only [qw]
  rw [KL a (fun q hq=>h q (by simp [bU,hq]))]
  congr 1
  funext d ma u1 e1 q1
  cases m with
  |none=>simp only;rw [ih (fun q hq=>h q (by simp [bU,hq]))]
  |some m0=>
   simp only
   split
   ·rw [ih (fun q hq=>h q (by simp [bU,hq]))]
   ·rfl
theorem abR{e:K}(l:List AV)(h:∀q∈bU l,rs' q=rs q)(c:List e.den→Option Mask→U→List ay→List ay→Option R):qR rs' e l c=qR rs e l c:=by
 unfold qR
 split
 ·rfl
 ·exact aeF l h c
theorem jv{u:U}{e:K}{av:AV}(h:∀q∈av.names,rs' q=rs q)(c:List e.den→Mask→Option R):iB rs' u e av c=iB rs u e av c:=by
 cases av<;>first|rfl|skip
 ·rename_i q p
  simp only [iB,rG (u:=u) (h q (by simp [AV.names]))]
 ·rename_i q p lo n
  simp only [iB,rG (u:=u) (h q (by simp [AV.names]))]
theorem F8{u:U}{k:K}{av:AV}(h:∀q∈av.names,rs' q=rs q)(c:List k.den→Mask→U→List Kill→List ay→Option R):fU rs' k u av c=fU rs k u av c:=by
 cases av with
 |ref q p=>simp only [fU,rG (u:=u) (h q (by simp [AV.names]))]
 |slc q p lo n=>
  cases p with
  |nil=>simp only [fU,rG (u:=u) (h q (by simp [AV.names]))]
  |cons=>rfl
 |_=>rfl
theorem afE{u:U}{k:K}{av:AV}(h:∀q∈av.names,rs' q=rs q)(c:List k.den→Mask→U→List Kill→List ay→Option R):vV rs' k u av c=vV rs k u av c:=by
 cases av with
 |imm z k d=>rfl
 |_=>simp only [vV];exact F8 h c
theorem aju{e:K}{a:AV}(h:∀q∈a.names,rs' q=rs q)(c:Nat→Option R):SS rs' e a c=SS rs e a c:=by
 cases a with
 |slc q p lo n=>simp only [SS,h q (by simp [AV.names])]
 |_=>simp only [SS];exact jv h _
theorem afb{e:K}{a:AV}{i:Int}(h:∀q∈a.names,rs' q=rs q)(c:AV→Option R):yB rs' e a i c=yB rs e a i c:=by
 cases a with
 |ref q p=>simp only [yB];exact jv (av:=.ref q p) (by simpa [AV.names] using h) _
 |slc q p lo n=>simp only [yB];exact jv (av:=.ref q p) (by simpa [AV.names] using h) _
 |_=>rfl
theorem aix{rw:Bool}:∀(av:AV){kind:Option K}{sn:List ay}{g:Reg}(_:∀q∈av.names,rs' q=rs q)(c:AV→List ay→Reg→Option R),jL rs' rw kind av sn g c=jL rs rw kind av sn g c:=by
 intro av
 induction av with
 |pair a b iha ihb=>
  intro kind sn g h c
  simp only [jL]
  rw [iha (fun q hq=>h q (by simp [AV.names,hq]))]
  congr 1
  funext d m u1
  rw [ihb (fun q hq=>h q (by simp [AV.names,hq]))]
 |ref q p=>intro kind sn g h c;simp only [jL,h q (by simp [AV.names])]
 |slc q p lo n=>intro kind sn g h c;simp only [jL,h q (by simp [AV.names])]
 |ptr q p=>intro kind sn g h c;cases p<;>simp only [jL,h q (by simp [AV.names])]
 |_=>intro kind sn g h c;rfl
theorem agD{rw:List Nat}:∀(l:List AV){kinds:List (Option K)}{i:Nat}{sn:List ay}{g:Reg}(_:∀q∈bU l,rs' q=rs q)(c:List AV→List ay→Reg→Option R),zG rs' rw kinds i l sn g c=zG rs rw kinds i l sn g c:=by
 intro l
 induction l with
 |nil=>intro kinds i sn g h c;rfl
 |cons a l ih=>
  intro kinds i sn g h c
  simp only [zG]
  rw [aix a (fun q hq=>h q (by simp [bU,hq]))]
  congr 1
  funext d m u1
  rw [ih (fun q hq=>h q (by simp [bU,hq]))]
theorem ab2:∀(n i:Nat){g g':Reg},qX rs n i g=some g'→(∀q∈g',rs' q=rs q)→qX rs' n i g=some g':=by
 intro n
 induction n with
 |zero=>intro i g g' h;simp [qX] at h
 |succ n ih=>
  intro i g g' h hg
  simp only [qX] at h ⊢
  split at h
  ·simpa using h
  ·rename_i q hq
   have hmem:q∈g':=by
    have key:∀{n i:Nat}{g g':Reg},qX rs n i g=some g'→∀p∈g,p∈g':=by
     intro n i g g' h p hp
     obtain ⟨⟨t,rfl⟩,_⟩:=Sq n i h
     simp [hp]
    split at h
    ·simp at h
    ·rename_i x hx
     cases hp:x.k.plain with
     |true=>rw [hp] at h;exact key h q (List.mem_of_getElem? hq)
     |false=>
      rw [hp] at h
      simp only [cond_false] at h
      generalize hps:Reg.puts (aS x.k x.d) g=pr at h
      obtain ⟨l,g2⟩:=pr
      obtain ⟨⟨t,rfl⟩,_⟩:=Y4 _ hps
      exact key h q (by simp [List.mem_of_getElem? hq])
   rw [hg q hmem]
   split at h
   ·simp at h
   ·rename_i x hx
    cases hp:x.k.plain with
    |true=>rw [hp] at h;exact ih _ h hg
    |false=>rw [hp] at h;exact ih _ h hg
theorem aaK{g:Reg}:∀(l:List ay),(∀q∈l,rs' q=rs q)→pQ rs' g l=pQ rs g l:=by
 intro l
 induction l with
 |nil=>intro _;rfl
 |cons q l ih=>intro h;simp only [pQ,h q (by simp),ih (fun q hq=>h q (by simp [hq]))]
theorem adI{g:Reg}:∀(l:List ay),(∀q∈l,rs' q=rs q)→yH rs' g l=yH rs g l:=by
 intro l
 induction l with
 |nil=>intro _;rfl
 |cons q l ih=>intro h;simp only [yH,h q (by simp),ih (fun q hq=>h q (by simp [hq]))]
theorem aa5{g:Reg}{dst:Nat}:∀(l:List ay)(ys:List Root),(∀q∈l,rs' q=rs q)→nM rs' g dst l ys=nM rs g dst l ys:=by
 intro l
 induction l with
 |nil=>intro ys _;cases ys<;>rfl
 |cons q l ih=>
  intro ys h
  cases ys with
  |nil=>rfl
  |cons y ys=>simp only [nM,h q (by simp),ih ys (fun q hq=>h q (by simp [hq]))]
theorem adG:∀(l:List ay),(∀q∈l,rs' q=rs q)→pJ rs' l=pJ rs l:=by
 intro l
 induction l with
 |nil=>intro _;rfl
 |cons q l ih=>intro h;simp only [pJ,h q (by simp),ih (fun q hq=>h q (by simp [hq]))]
theorem aaJ{sf:Bool}{args:List AV}{l:List ay}(h:∀q∈l,rs' q=rs q):jh sf rs' args l=jh sf rs args l:=by
 unfold jh Ro
 rw [adG l h]
theorem ZA{rw:List Nat}{l:List AV}{kinds:List (Option K)}{i:Nat}{sn:List ay}{g:Reg}(c:List AV→List ay→Reg→Option R) :
  zG rs rw kinds i l sn g c=(zG rs rw kinds i l sn g fun a s r=>some (a,s,r)).bind fun t=>c t.1 t.2.1 t.2.2:=
 (abX (fun t:List AV×List ay×Reg=>c t.1 t.2.1 t.2.2) l fun a s r=>some (a,s,r)).symm
theorem aeL{V:Env}{f:Nat}{args:List AV}{kinds:List (Option K)}{dst:Nat}{x:Del}(h:Al V f args kinds dst rs some=some x)(ha:∀q∈bU args,rs' q=rs q)(hw:∀q∈x.wr,rs' q=rs q) :
  Al V f args kinds dst rs' some=some x:=by
 unfold Al at h ⊢
 split at h
 ·simp at h
 ·rename_i q hq
  rw [agD (rs:=rs) args ha]
  rw [ZA] at h ⊢
  cases hp:(zG rs q.rw kinds 0 args [] [] fun a s r=>some (a,s,r)) with
  |none=>rw [hp] at h;simp at h
  |some t=>
   rw [hp] at h
   simp only [Option.bind_some] at h ⊢
   obtain ⟨args',sn,g0⟩:=t
   simp only at h ⊢
   split at h
   ·simp at h
   ·rename_i g hg
    have hgw:∀p∈g,rs' p=rs p:=by
     cases hc:(akW sn g||!pQ rs g g||KN (dst+2) g||!Nat.blt g.length 1000000) with
     |true=>rw [hc] at h;simp at h
     |false=>
      rw [hc] at h
      simp only [cond_false] at h
      split at h
      ·simp at h
      ·obtain ⟨co,_,h⟩:=Tre.WT h
       ·cases hc2:(rJ g.length co.fresh.length co.roots&&rJ g.length co.fresh.length co.fresh&&(sn.isEmpty||(nN co.roots&&nN co.fresh&&co.res.done))) with
        |false=>rw [hc2] at h;simp at h
        |true=>
         rw [hc2] at h
         simp only [cond_true] at h
         split at h
         ·simp at h
         ·simp only [Option.some.injEq] at h
          subst h
          exact hw
    rw [ab2 24 0 hg hgw]
    simp only
    rw [aaK g hgw,adI g hgw,aaJ hgw]
    rw [←h]
    congr 1
    split
    ·rfl
    ·congr 1
     funext co
     rw [aa5 g _ hgw]
theorem aa4:∀(l l':List AV),bU (l++l')=bU l++bU l':=by
 intro l l'
 induction l with
 |nil=>rfl
 |cons a l ih=>simp only [List.cons_append,bU,ih,List.append_assoc]
theorem afg:∀(l:List ay),bU (ptrs l)=l:=by
 intro l
 induction l with
 |nil=>rfl
 |cons a l ih=>simp only [ptrs,bU,AV.names,ih,List.cons_append,List.nil_append]
theorem afB{V:Env}{t:Nat}{a:AV}{lo hi mx:Option AV}(h:∀q∈a.names,rs' q=rs q)(c:AV→Option R):A9 V t rs' a lo hi mx c=A9 V t rs a lo hi mx c:=by
 unfold A9
 split
 ·split
  ·split
   ·rw [jv h]
   ·rfl
  ·split
   ·rw [jv h]
   ·rfl
  ·rfl
 ·rfl
 ·split
  ·rfl
  ·split
   ·rfl
   ·rfl
   ·rw [jv h]
   ·rename_i q p lo0 n
    rw [jv (av:=.ref q p) (by simpa [AV.names] using h)]
   ·rfl
  ·rfl
theorem agH{k:K}{v:AV}(h:∀q∈v.names,rs' q=rs q)(c:Del→Option R):KR rs' k v c=KR rs k v c:=by
 unfold KR
 split
 ·rfl
 ·exact jv h _
 ·rfl
theorem aeS:∀(n:Nat)(a:AV){x:AV×Nat},kE a n=some x→∀q∈x.1.names,q∈a.names:=by
 intro n
 induction n with
 |zero=>
  intro a x h q hq
  cases a with
  |pair a b=>simp only [kE,Option.some.injEq] at h;subst h;simp [AV.names,hq]
  |imm z k d=>cases k<;>simp only [kE,Option.some.injEq] at h<;>first|(simp at h;done)|(subst h;simp [AV.names] at hq)
  |_=>simp [kE] at h
 |succ n ih=>
  intro a x h q hq
  cases a with
  |pair a b=>
   simp only [kE] at h
   split at h
   ·rename_i h1 h2
    simp only [Option.some.injEq] at h;subst h
    have:=ih b h2 q hq
    simp [AV.names,this]
   ·simp at h
  |imm z k d=>
   cases k<;>simp only [kE] at h<;>first|(simp at h;done)|skip
   split at h
   ·rename_i h1
    simp only [Option.some.injEq] at h;subst h
    have:=ih _ h1 q hq
    simp [AV.names] at this
   ·simp at h
  |_=>simp [kE] at h
theorem XW{V:Env}{ts:Array TypeId}{dst:Nat}{a x:AV}(ha:∀q∈a.names,rs' q=rs q)(c:Del→Option R):mI V ts dst a x rs' c=mI V ts dst a x rs c:=by
 unfold mI
 split
 ·rfl
 ·rfl
 ·unfold qW
  split
  ·split
   ·rfl
   ·split
    ·congr 1
     rw [F8 ha]
    ·rfl
  ·rfl
theorem X8{V:Env}{b:Builtin}{ts:Array TypeId}{dst:Nat}{args:List AV}(h:∀q∈bU args,rs' q=rs q)(c:Del→Option R):fH V b ts dst args rs' c=fH V b ts dst args rs c:=by
 unfold fH
 split
 ·split
  ·rw [aju (by simpa [bU] using h)]
  ·rfl
  ·rfl
 ·rename_i a x
  have ha:∀q∈a.names,rs' q=rs q:=fun q hq=>h q (by simp [bU,hq])
  have hx:∀q∈x.names,rs' q=rs q:=fun q hq=>h q (by simp [bU,hq])
  split
  ·congr 1
   exact XW ha c
   split
   ·rfl
   ·split
    ·rw [F8 ha]
     congr 1
     funext xs ma u1 k1 g1
     split
     ·rfl
     ·rw [jv hx]
      congr 1
      funext ys m
      split
      ·congr 1
       congr 1
       rw [afE hx]
      ·rfl
    ·rfl
  ·rfl
 ·rfl
 ·rfl
 ·rfl
 ·rename_i a x
  have ha:∀q∈a.names,rs' q=rs q:=fun q hq=>h q (by simp [bU,hq])
  have hx:∀q∈x.names,rs' q=rs q:=fun q hq=>h q (by simp [bU,hq])
  unfold TP
  split
  ·rename_i q _ _ _ _ _
   rw [ha q (by simp [AV.names])]
   split
   ·rfl
   ·split
    ·split
     ·rfl
     ·split
      ·congr 1
       rw [jv hx]
      ·rfl
    ·rfl
  ·rfl
 ·rename_i a
  have ha:∀q∈a.names,rs' q=rs q:=fun q hq=>h q (by simp [bU,hq])
  unfold KS
  split
  ·rename_i q _ _ _ _ _
   rw [ha q (by simp [AV.names])]
  ·rfl
 ·rfl
theorem ahn:∀{l:List AV}{a:AV}{q:ay},a∈l→q∈a.names→q∈bU l:=by
 intro l
 induction l with
 |nil=>intro a q h;cases h
 |cons b l ih=>
  intro a q h hq
  simp only [bU,List.mem_append]
  rcases List.mem_cons.1 h with rfl|h
  ·exact .inl hq
  ·exact .inr (ih h hq)
theorem amh{a:AV}(h:∀q∈a.names,rs' q=rs q):RP rs' a=RP rs a:=by
 cases a with
 |ref q p=>
  cases p with
  |nil=>simp only [RP,h q (by simp [AV.names])]
  |cons _ _=>rfl
 |_=>rfl
theorem ZF{V:Env}{o:Oper}{tm tm':TF}{x:Del}(h:Bf V o tm rs=some x)(ht:aZ tm' o=aZ tm o)(hr:∀q∈bU (aZ tm o),rs' q=rs q)(hw:∀q∈x.wr,rs' q=rs q) :
  Bf V o tm' rs'=some x:=by
 unfold Bf at h ⊢
 cases ho:o.op with
 |move a=>
  simp only [aZ,ho,Op.operands,List.map_cons,List.map_nil,List.cons.injEq,and_true] at ht
  simp only [bC,ho,ht] at h ⊢;exact h
 |assign a=>
  simp only [aZ,ho,Op.operands,List.map_cons,List.map_nil,List.cons.injEq,and_true,bU,List.append_nil] at ht hr
  simp only [bC,ho,ht] at h ⊢
  split at h
  ·rename_i d j hev
   rw [hev] at hr
   rw [hr (d+2,j) (by simp [AV.names])]
   exact h
  ·exact h
 |pick a b c=>
  simp only [aZ,ho,Op.operands,List.map_cons,List.map_nil,List.cons.injEq,and_true] at ht
  simp only [bC,ho,ht.1,ht.2.1,ht.2.2] at h ⊢;exact h
 |alloc t=>simp only [bC,ho] at h ⊢;exact h
 |box t a=>
  simp only [aZ,ho,Op.operands,List.map_cons,List.map_nil,List.cons.injEq,and_true,bU,List.append_nil] at ht hr
  simp only [bC,ho,ht] at h ⊢
  split at h
  ·split at h
   ·exact h
   ·rw [KL _ hr];exact h
  ·simp at h
 |load t a=>
  simp only [aZ,ho,Op.operands,List.map_cons,List.map_nil,List.cons.injEq,and_true,bU,List.append_nil] at ht hr
  simp only [bC,ho,ht] at h ⊢
  split at h
  ·simp at h
  ·split at h
   ·rename_i q p hev
    rw [hev] at hr
    rw [hr q (by simp [AV.names])]
    exact h
   ·exact h
   ·rename_i q p L hev
    rw [hev] at hr
    rw [hr q (by simp [AV.names])]
    split at h
    ·simp at h
    ·split at h
     ·exact h
     ·rw [hr _ (by simp only [AV.names];exact List.mem_cons_of_mem _ (List.mem_map.2 ⟨_,.head _,rfl⟩))]
      exact h
   ·simp at h
 |store t a b=>
  simp only [aZ,ho,Op.operands,List.map_cons,List.map_nil,List.cons.injEq,and_true,bU,List.append_nil] at ht hr
  simp only [bC,ho,ht.1,ht.2] at h ⊢
  split at h
  ·simp at h
  ·split at h
   ·rename_i q p hev
    rw [hev] at hr
    rw [KL _ (fun q hq=>hr q (by simp [hq]))]
    simp only [rG (hr q (by simp [AV.names]))]
    exact h
   ·simp at h
 |nilCheck a=>
  simp only [aZ,ho,Op.operands,List.map_cons,List.map_nil,List.cons.injEq,and_true] at ht
  simp only [bC,ho,ht] at h ⊢;exact h
 |binOp op t a b ty=>
  simp only [aZ,ho,Op.operands,List.map_cons,List.map_nil,List.cons.injEq,and_true] at ht
  simp only [bC,ho,ht.1,ht.2] at h ⊢;exact h
 |unOp op t a=>
  simp only [aZ,ho,Op.operands,List.map_cons,List.map_nil,List.cons.injEq,and_true] at ht
  simp only [bC,ho,ht] at h ⊢;exact h
 |convert t1 t2 a=>
  simp only [aZ,ho,Op.operands,List.map_cons,List.map_nil,List.cons.injEq,and_true] at ht
  simp only [bC,ho,ht] at h ⊢;exact h
 |extract a i=>
  simp only [aZ,ho,List.cons.injEq,and_true] at ht
  simp only [bC,ho,ht] at h ⊢;exact h
 |field t a f=>
  simp only [aZ,ho,Op.operands,List.map_cons,List.map_nil,List.cons.injEq,and_true,bU,List.append_nil] at ht hr
  simp only [bC,ho,ht] at h ⊢
  split at h
  ·rename_i k v e1 e2
   rw [agH (fun q hq=>hr q (aeS _ _ e2 q hq))];exact h
  ·simp at h
 |fieldAddr t a f=>
  simp only [aZ,ho,Op.operands,List.map_cons,List.map_nil,List.cons.injEq,and_true,bU,List.append_nil] at ht hr
  simp only [bC,ho,ht] at h ⊢
  split at h
  ·rename_i k q p _ hev
   rw [hev] at hr
   rw [hr q (by simp [AV.names])]
   exact h
  ·exact h
  ·rename_i k q p L _ hev
   rw [hev] at hr
   rw [hr q (by simp [AV.names])]
   exact h
  ·simp at h
 |indexAddr t a i=>
  simp only [aZ,ho,Op.operands,List.map_cons,List.map_nil,List.cons.injEq,and_true,bU,List.append_nil] at ht hr
  simp only [bC,ho,ht.1,ht.2] at h ⊢
  split at h
  ·rw [afb (fun q hq=>hr q (by simp [hq]))];exact h
  ·simp at h
 |index t a i=>
  simp only [aZ,ho,Op.operands,List.map_cons,List.map_nil,List.cons.injEq,and_true] at ht
  simp only [bC,ho,ht.1,ht.2] at h ⊢;exact h
 |makeSlice t l cp=>
  simp only [aZ,ho,Op.operands,List.map_cons,List.map_nil,List.cons.injEq,and_true] at ht
  simp only [bC,ho,ht.1,ht.2] at h ⊢;exact h
 |build t ps=>
  simp only [aZ,ho,Op.operands,List.map_map] at ht hr
  have he:∀y∈ps.toList,bf tm' y.2=bf tm y.2:=fun y hy=>by simpa using List.map_inj_left.1 ht y hy
  have h1:(ps.toList.map fun y=>(y.1,RP rs' (bf tm' y.2)))=ps.toList.map fun y=>(y.1,RP rs (bf tm y.2)):=List.map_congr_left fun y hy=>by
   rw [he y hy]
   exact congrArg (Prod.mk y.1) (amh (a:=bf tm y.2) fun q hq=>hr q (ahn (List.mem_map.2 ⟨y,hy,rfl⟩) hq))
  have h2:(ps.toList.map fun y=>bf tm' y.2)=ps.toList.map fun y=>bf tm y.2:=List.map_congr_left fun y hy=>by rw [he y hy]
  simp only [bC,ho,h1,h2] at h ⊢;exact h
 |buildSlice t k ps=>
  simp only [aZ,ho,Op.operands,List.map_map] at ht hr
  have he:∀y∈ps.toList,bf tm' y.2=bf tm y.2:=fun y hy=>by simpa using List.map_inj_left.1 ht y hy
  have h2:(ps.toList.map fun y=>bf tm' y.2)=ps.toList.map fun y=>bf tm y.2:=List.map_congr_left fun y hy=>by rw [he y hy]
  simp only [bC,ho,h2] at h ⊢
  split at h
  ·split at h
   ·simp at h
   ·rw [abR _ (by simpa [Function.comp_def] using hr)];exact h
  ·simp at h
 |makeFunc f f1 cs=>
  simp only [aZ,ho,Op.operands,Array.toList_append,List.map_append] at ht
  have hlen:(f1.toList.map (bf tm')).length=(f1.toList.map (bf tm)).length:=by simp
  have h2:=(List.append_inj ht hlen).2
  cases f<;>simp only [bC,ho,h2] at h ⊢ <;> exact h
 |slice t a lo hi mx=>
  simp only [aZ,ho,Op.operands] at ht hr
  have key:bf tm' a=bf tm a∧lo.map (bf tm')=lo.map (bf tm)∧hi.map (bf tm')=hi.map (bf tm)∧mx.map (bf tm')=mx.map (bf tm):=by
   cases lo<;>cases hi<;>cases mx<;>simp at ht ⊢ <;> simp [ht]
  simp only [bC,ho,key.1,key.2.1,key.2.2.1,key.2.2.2] at h ⊢
  rw [afB (fun q hq=>hr q (by simp [bU,hq]))];exact h
 |call cl=>
  obtain ⟨cal,args,ts⟩:=cl
  cases cal with
  |invoke _ _=>simp [bC,ho] at h
  |value f=>
   simp only [aZ,ho,Op.operands,Call.operands,Array.toList_append,List.map_cons,List.cons_append,List.nil_append,List.cons.injEq,bU] at ht hr
   simp only [bC,ho,callee,ht.1,ht.2] at h ⊢
   split at h
   ·rename_i fid caps hev
    rw [hev] at hr
    refine aeL h (fun q hq=>?_) hw
    rw [aa4] at hq
    rcases List.mem_append.1 hq with hq|hq
    ·exact hr q (by simp [hq])
    ·rw [afg] at hq;exact hr q (by simp [AV.names,hq])
   ·simp at h
  |builtin b=>
   simp only [aZ,ho,Op.operands,Call.operands,Array.toList_append,List.nil_append] at ht hr
   simp only [bC,ho,ht] at h ⊢
   rw [X8 hr];exact h
 |_=>simp [bC,ho] at h
theorem aaO{o:Oper}{tm tm':TF}(ht:aZ tm' o=aZ tm o):pV o tm'=pV o tm:=by
 unfold pV
 cases ho:o.op with
 |store t a x=>
  simp only [aZ,ho,Op.operands,List.map_cons,List.map_nil,List.cons.injEq,and_true] at ht
  simp only [ht.1,ht.2]
 |_=>rfl
theorem aeN{R:Type}{V:Env}{x:TypeId×ay×Nat×Nat}(h1:rs' x.2.1=rs x.2.1)(h2:rs' dF=rs dF)(c:Del→Option R):xQ V x rs' c=xQ V x rs c:=by
 unfold xQ
 rw [h1,h2]
theorem jZ{V:Env}{o:Oper}{tm tm':TF}{x:Del}(h:IC V o tm rs=some x)(ht:aZ tm' o=aZ tm o)(hr:∀q∈bU (aZ tm o),rs' q=rs q)(hw:∀q∈x.wr,rs' q=rs q)(hp:rs' dF=rs dF) :
  IC V o tm' rs'=some x:=by
 unfold IC zI at h ⊢
 rw [aaO ht]
 split at h
 ·rename_i y hy
  obtain ⟨a,b,ho,e1,e2⟩:=Sw hy
  rw [aeN (hr _ ?_) hp];exact h
  refine Wx (a:=bf tm a) ?_ (by rw [e1];simp [AV.names])
  simp [aZ,ho,Op.operands]
 ·cases hc:KQ o with
  |true=>rw [hc,cond_true] at h;exact ZF h ht hr hw
  |false=>
   rw [hc,cond_false] at h
   rw [cond_false,hp]
   split at h
   ·have h:=TQ.1 h
    exact TQ.2 ⟨ZF h.1 ht hr hw,h.2⟩
   ·simp at h
end
end Go.Abs
namespace Go.Abs
section
def Touch(d:Option Nat)(x:Del)(q:ay):Prop:=q∈x.wr∨(x.make=true∧q.1=d.getD 0+2)
structure Jv(d:Option Nat)(x:Del):Prop where
 ren:x.ren=none
 keys:∀q,dn q x.u≠none→Touch d x q
 kills:∀av:AV,av.dS=true→hit (dK (d.getD 0) x) av=true→∃q∈av.names,Touch d x q
theorem af7(k1 k2:List Kill)(a:AV)(h:a.dS=true):AV.kills k1 (AV.kills k2 a)=bif hit k1 a||hit k2 a then .dead else a:=by
 rw [fK k2 a h]
 cases h2:hit k2 a with
 |true=>simp only [cond_true,Bool.or_true];exact rA k1
 |false=>simp only [cond_false,Bool.or_false];exact fK k1 a h
theorem LG(k1 k2:List Kill):∀(a:AV),AV.kills k1 (AV.kills k2 a)=AV.kills k2 (AV.kills k1 a):=by
 intro a
 induction a with
 |pair a b iha ihb=>simp only [j6,iha,ihb]
 |tcons a b iha ihb=>simp only [kL,iha,ihb]
 |_=>rw [af7 _ _ _ rfl,af7 _ _ _ rfl,Bool.or_comm]
theorem acX{d:Option Nat}{x:Del}(hx:Jv d x):∀(a:AV),(∀q∈a.names,¬Touch d x q)→AV.kills (dK (d.getD 0) x) a=a:=by
 intro a
 induction a with
 |pair a b iha ihb=>intro h;rw [j6,iha (fun q hq=>h q (by simp [AV.names,hq])),ihb (fun q hq=>h q (by simp [AV.names,hq]))]
 |tcons a b iha ihb=>intro h;rw [kL,iha (fun q hq=>h q (by simp [AV.names,hq])),ihb (fun q hq=>h q (by simp [AV.names,hq]))]
 |_=>
  intro h
  rw [fK _ _ rfl]
  cases hh:hit (dK (d.getD 0) x) _ with
  |false=>rfl
  |true=>
   obtain ⟨q,hq,ht⟩:=hx.kills _ rfl hh
   exact absurd ht (h q hq)
theorem Pf(ks:List Kill):∀(a:AV),(AV.kills ks a).alive=true→AV.kills ks a=a:=by
 intro a
 induction a with
 |pair a b iha ihb=>intro h;rw [j6] at h ⊢;simp only [AV.alive,Bool.and_eq_true] at h;rw [iha h.1,ihb h.2]
 |tcons a b iha ihb=>intro h;rw [kL] at h ⊢;simp only [AV.alive,Bool.and_eq_true] at h;rw [iha h.1,ihb h.2]
 |_=>
  intro h
  rw [fK _ _ rfl] at h ⊢
  cases hh:hit ks _ with
  |false=>rfl
  |true=>rw [hh] at h;cases h
theorem St.ext'{s s':St}(h1:∀t,s.tmps t=s'.tmps t)(h2:∀q,s.roots q=s'.roots q)(h3:∀n,s.pins n=s'.pins n):s=s':=by
 cases s;cases s'
 simp only [St.mk.injEq]
 exact ⟨funext h1,funext h2,funext h3⟩
theorem akS{s:St}{di dj:Option Nat}{xi xj:Del}(hi:Jv di xi)(hj:Jv dj xj)(hd:∀a,di=some a→dj≠some a)
  (hvi:∀q∈xi.v.names,¬Touch dj xj q) (hvj:∀q∈xj.v.names,¬Touch di xi q) (ht:∀q,Touch di xi q→¬Touch dj xj q) :
  (s.after di xi).after dj xj=(s.after dj xj).after di xi:=by
 have hki:=acX hi
 have hkj:=acX hj
 refine St.ext' (fun t=>?_) (fun q=>?_) (fun n=>?_)
 ·simp only [St.after,hi.ren,hj.ren,mV]
  cases di with
  |none=>
   cases dj with
   |none=>exact LG _ _ _
   |some b=>
    by_cases hb:t=b
    ·simp only [beq_iff.2 hb,cond_true,cond_false];exact (hki _ hvj).symm
    ·simp only [gJ hb,cond_false];exact LG _ _ _
  |some a=>
   cases dj with
   |none=>
    by_cases ha:t=a
    ·simp only [beq_iff.2 ha,cond_true,cond_false];exact hkj _ hvi
    ·simp only [gJ ha,cond_false];exact LG _ _ _
   |some b=>
    by_cases ha:t=a
    ·have hb:t≠b:=by rintro rfl;exact hd a rfl (by rw [ha])
     simp only [beq_iff.2 ha,gJ hb,cond_true,cond_false];exact hkj _ hvi
    ·by_cases hb:t=b
     ·simp only [beq_iff.2 hb,gJ ha,cond_true,cond_false];exact (hki _ hvj).symm
     ·simp only [gJ ha,gJ hb,cond_false];exact LG _ _ _
 ·simp only [St.after]
  have hmi:(xi.make&&Nat.beq q.1 (di.getD 0+2))=true→Touch di xi q:=by
   intro h;simp only [Bool.and_eq_true] at h;exact .inr ⟨h.1,beq_iff.1 h.2⟩
  have hmj:(xj.make&&Nat.beq q.1 (dj.getD 0+2))=true→Touch dj xj q:=by
   intro h;simp only [Bool.and_eq_true] at h;exact .inr ⟨h.1,beq_iff.1 h.2⟩
  have ki:=hi.keys q
  have kj:=hj.keys q
  cases h1:dn q xi.u with
  |some y=>
   have t1:=ki (by rw [h1];simp)
   cases h2:dn q xj.u with
   |some z=>exact absurd (kj (by rw [h2];simp)) (ht q t1)
   |none=>
    cases h3:(xj.make&&Nat.beq q.1 (dj.getD 0+2)) with
    |true=>exact absurd (hmj h3) (ht q t1)
    |false=>rfl
  |none=>
   cases h2:dn q xj.u with
   |some z=>
    have t2:=kj (by rw [h2];simp)
    cases h3:(xi.make&&Nat.beq q.1 (di.getD 0+2)) with
    |true=>exact absurd t2 (ht q (hmi h3))
    |false=>rfl
   |none=>
    simp only
    cases (xi.make&&Nat.beq q.1 (di.getD 0+2))<;>cases (xj.make&&Nat.beq q.1 (dj.getD 0+2))<;>rfl
 ·simp only [St.after]
  rw [Bool.or_assoc,Bool.or_assoc]
  congr 1
  exact Bool.or_comm _ _
end
end Go.Abs
namespace Go.Abs
section
variable {R : Type} {r : R} {rs : RF}
theorem DR{x:Kill}{r:ay}{p:Path}{L:List (Path×Nat×Path)}(h:x.hits (.vw r p L)=true):∃b:AV,b.Wi=false∧x.hits b=true∧∀q∈b.names,q∈(AV.vw r p L).names:=by
 rw [amW,Bool.or_eq_true,List.any_eq_true] at h
 rcases h with h|⟨e,he,h⟩
 ·exact ⟨_,rfl,h,fun q hq=>by simp only [AV.names,List.mem_singleton] at hq;rw [hq];simp [AV.names]⟩
 ·rw [Bool.or_eq_true] at h
  rcases h with h|h
  ·exact ⟨_,rfl,h,fun q hq=>by simp only [AV.names,List.mem_singleton] at hq;rw [hq];simp [AV.names]⟩
  ·exact ⟨_,rfl,h,fun q hq=>by
    simp only [AV.names,List.mem_singleton] at hq
    rw [hq]
    simp only [AV.names]
    exact List.mem_cons_of_mem _ (List.mem_map.2 ⟨e,he,rfl⟩)⟩
theorem abD{q:ay}{av:AV}(h:(Kill.of q).hits av=true):q∈av.names:=by
 have key:∀av:AV,av.Wi=false→(Kill.of q).hits av=true→q∈av.names:=by
  intro av hv h
  cases av<;>simp only [Kill.hits] at h<;>first
   | (cases h;done)
   | (cases hv;done)
   | (simp only [AV.names,List.mem_singleton];exact bW.1 h)
   | (simp only [AV.names];exact BK.1 h)
 cases av with
 |vw r p L=>obtain ⟨b,h1,h2,h3⟩:=DR h;exact h3 _ (key b h1 h2)
 |_=>exact key _ rfl h
theorem QS{q:ay}{p:Path}{av:AV}(h:(Kill.at q p).hits av=true):q∈av.names:=by
 have key:∀av:AV,av.Wi=false→(Kill.at q p).hits av=true→q∈av.names:=by
  intro av hv h
  cases av<;>simp only [Kill.hits,Bool.and_eq_true] at h<;>first
   | (cases h;done)
   | (cases hv;done)
   | (simp only [AV.names,List.mem_singleton];exact bW.1 h.1)
   | (simp only [AV.names,List.mem_singleton];exact bW.1 h.1.1)
 cases av with
 |vw r p L=>obtain ⟨b,h1,h2,h3⟩:=DR h;exact h3 _ (key b h1 h2)
 |_=>exact key _ rfl h
theorem acp{q:ay}{av:AV}(h:(Kill.inn q).hits av=true):q∈av.names:=by
 have key:∀av:AV,av.Wi=false→(Kill.inn q).hits av=true→q∈av.names:=by
  intro av hv h
  cases av<;>simp only [Kill.hits,Bool.and_eq_true] at h<;>first
   | (cases h;done)
   | (cases hv;done)
   | (simp only [AV.names,List.mem_singleton];exact bW.1 h.1)
 cases av with
 |vw r p L=>obtain ⟨b,h1,h2,h3⟩:=DR h;exact h3 _ (key b h1 h2)
 |_=>exact key _ rfl h
theorem aco{d:Nat}{av:AV}(h:(Kill.dst d).hits av=true):∃q∈av.names,q.1=d+2:=by
 have key:∀av:AV,av.Wi=false→(Kill.dst d).hits av=true→∃q∈av.names,q.1=d+2:=by
  intro av hv h
  cases av<;>simp only [Kill.hits] at h<;>first
   | (cases h;done)
   | (cases hv;done)
   |exact ⟨_,by simp [AV.names],beq_iff.1 h⟩
   | (simp only [List.any_eq_true] at h;obtain ⟨q,h1,h2⟩:=h;exact ⟨q,by simpa [AV.names] using h1,beq_iff.1 h2⟩)
 cases av with
 |vw r p L=>obtain ⟨b,h1,h2,h3⟩:=DR h;obtain ⟨q,h4,h5⟩:=key b h1 h2;exact ⟨q,h3 _ h4,h5⟩
 |_=>exact key _ rfl h
def jK(ks:List Kill)(l:List ay):Prop:=∀av:AV,hit ks av=true→∃q∈av.names,q∈l
theorem jK.ofs(e:List ay):jK (ofs e) e:=by
 intro av h
 simp only [hit,List.any_eq_true] at h
 obtain ⟨x,hx,h⟩:=h
 have:∃q∈e,x=.of q:=by
  clear h
  induction e with
  |nil=>cases hx
  |cons q e ih=>
   simp only [Go.Abs.ofs,List.mem_cons] at hx
   rcases hx with rfl|hx
   ·exact ⟨q,by simp,rfl⟩
   ·obtain ⟨q',h1,h2⟩:=ih hx;exact ⟨q',by simp [h1],h2⟩
 obtain ⟨q,hq,rfl⟩:=this
 exact ⟨q,abD h,hq⟩
theorem jK.nil:jK [] []:=by intro av h;cases h
theorem jK.append{k1 k2:List Kill}{l1 l2:List ay}(h1:jK k1 l1)(h2:jK k2 l2):jK (k1++k2) (l1++l2):=by
 intro av h
 rw [Ed,Bool.or_eq_true] at h
 rcases h with h|h
 ·obtain ⟨q,a,b⟩:=h1 av h;exact ⟨q,a,by simp [b]⟩
 ·obtain ⟨q,a,b⟩:=h2 av h;exact ⟨q,a,by simp [b]⟩
theorem ES{d:Option Nat}{x:Del}(hk:jK x.kills x.wr)(av:AV)(h:hit (dK (d.getD 0) x) av=true):∃q∈av.names,Touch d x q:=by
 unfold dK at h
 cases hm:x.make with
 |false=>
  rw [hm] at h
  obtain ⟨q,a,b⟩:=hk av h
  exact ⟨q,a,.inl b⟩
 |true=>
  rw [hm] at h
  simp only [cond_true,hit,List.any_cons,Bool.or_eq_true] at h
  rcases h with h|h
  ·obtain ⟨q,a,b⟩:=aco h;exact ⟨q,a,.inr ⟨hm,b⟩⟩
  ·obtain ⟨q,a,b⟩:=hk av h;exact ⟨q,a,.inl b⟩
def nU(u u':U)(l:List ay):Prop:=∀q,dn q u'≠none→dn q u≠none∨q∈l
theorem nU.refl(u:U):nU u u []:=fun _ h=>.inl h
theorem nU.cons{u u':U}{l:List ay}(h:nU u u' l)(q0:ay)(x:Option Root):nU u ((q0,x)::u') (q0::l):=by
 intro q hq
 simp only [dn] at hq
 by_cases he:q=q0
 ·exact .inr (by simp [he])
 ·rw [gN he] at hq
  exact (h q hq).imp id (fun h=>by simp [h])
theorem akK{r0:ay}:∀(av:AV){k:K}{p:Path}{d:k.den}{m:Mask}{c:k.den→Mask→Option R},qo r0 av k p d m c=some r→∃d' m',c d' m'=some r:=by
 intro av
 induction av with
 |pair a b iha ihb=>
  intro k p d m c h
  cases k<;>simp only [qo] at h<;>first|(simp at h;done)|skip
  obtain ⟨_,_,h⟩:=iha h
  obtain ⟨_,_,h⟩:=ihb h
  exact ⟨_,_,h⟩
 |imm z k' d'=>
  intro k p d m c h
  simp only [qo] at h
  split at h
  ·exact ⟨_,_,h⟩
  ·cases h
 |ref q p'=>
  intro k p d m c h
  cases k<;>simp only [qo] at h<;>first|(simp at h;done)|skip
  split at h
  ·exact ⟨_,_,h⟩
  ·cases h
 |_=>intro k p d m c h;cases k<;>simp [qo] at h
theorem Ol:∀(av:AV){k:K}{u:U}{c:k.den→Mask→U→List ay→List ay→Option R},dL rs av k u c=some r→∃d m u' e q,c d m u' e q=some r∧nU u u' e:=by
 intro av
 induction av with
 |pair a b iha ihb=>
  intro k u c h
  cases k<;>simp only [dL] at h<;>first|(simp at h;done)|skip
  split at h
  case h_1=>
   split at h
   case h_2=>simp at h
   case h_1=>
   split at h
   case isFalse=>simp at h
   case isTrue=>
   obtain ⟨_,_,h⟩:=akK _ h
   exact ⟨_,_,_,_,_,h,(nU.refl u).cons _ _⟩
  case h_2=>
  obtain ⟨d,m,u1,e1,q1,h,h1⟩:=iha h
  obtain ⟨d2,m2,u2,e2,q2,h,h2⟩:=ihb h
  refine ⟨_,_,_,_,_,h,fun q hq=>?_⟩
  rcases h2 q hq with h|h
  ·exact (h1 q h).imp id (fun h=>by simp [h])
  ·exact .inr (by simp [h])
 |imm z k' d=>
  intro k u c h
  cases k<;>simp only [dL] at h<;>split at h<;>first|(simp at h;done)|exact ⟨_,_,_,_,_,h,.refl _⟩
 |ref q p=>
  intro k u c h
  cases p with
  |cons _ _=>cases k<;>simp [dL] at h
  |nil=>
   cases k<;>simp only [dL] at h<;>split at h<;>first|(simp at h;done)|skip
   all_goals
    rename_i x _
    cases hm:x.mem<;>rw [hm] at h<;>simp only [cond_true,cond_false] at h<;>first|(simp at h;done)|skip
    split at h<;>first|(simp at h;done)|skip
    split at h<;>first|exact ⟨_,_,_,_,_,h,.refl _⟩|exact ⟨_,_,_,_,_,h,(nU.refl u).cons _ _⟩
 |slc q p lo n=>
  intro k u c h
  cases p with
  |cons _ _=>cases k<;>simp [dL] at h
  |nil=>
   cases k<;>simp only [dL] at h<;>first|(simp at h;done)|skip
   split at h
   ·rename_i x _
    cases hm:(x.mem||!x.m.dU)<;>rw [hm] at h<;>simp only [cond_true,cond_false] at h<;>first|(simp at h;done)|skip
    split at h<;>first|(simp at h;done)|exact ⟨_,_,_,_,_,h,(nU.refl u).cons _ _⟩
   ·simp at h
 |ptr q p=>
  intro k u c h
  cases p<;>cases k<;>simp only [dL] at h<;>first|(simp at h;done)|exact ⟨_,_,_,_,_,h,.refl _⟩
 |_=>
  intro k u c h
  cases k<;>simp only [dL] at h<;>first|(simp at h;done)|exact ⟨_,_,_,_,_,h,.refl _⟩
theorem agz{e:K}:∀(l:List AV){u:U}{m:Option Mask}{c:List e.den→Option Mask→U→List ay→List ay→Option R},qw rs e l u m c=some r→∃d m' u' ee q,c d m' u' ee q=some r∧nU u u' ee:=by
 intro l
 induction l with
 |nil=>intro u m c h;exact ⟨_,_,_,_,_,h,.refl _⟩
 |cons a l ih=>
  intro u m c h
  simp only [qw] at h
  obtain ⟨d,ma,u1,e1,q1,h,h1⟩:=Ol a h
  have go:∀{m0:Option Mask}{c':List e.den→Option Mask→U→List ay→List ay→Option R},qw rs e l u1 m0 (fun ds m' u2 e2 q2=>c' (d::ds) m' u2 (e1++e2) (q1++q2))=some r→∃d m' u' ee q,c' d m' u' ee q=some r∧nU u u' ee:=by
   intro m0 c' h
   obtain ⟨ds,m',u2,e2,q2,h,h2⟩:=ih h
   refine ⟨_,_,_,_,_,h,fun q hq=>?_⟩
   rcases h2 q hq with h|h
   ·exact (h1 q h).imp id (fun h=>by simp [h])
   ·exact .inr (by simp [h])
  cases m with
  |none=>exact go h
  |some m0=>
   simp only at h
   split at h
   ·exact go h
   ·simp at h
theorem aeE{e:K}(l:List AV){c:List e.den→Option Mask→U→List ay→List ay→Option R}(h:qR rs e l c=some r):∃d m' u' ee q,c d m' u' ee q=some r∧nU [] u' ee:=by
 unfold qR at h
 split at h
 ·exact ⟨_,_,_,_,_,h,.refl _⟩
 ·exact agz l h
theorem agt{k k1:K}{d:k.den}{m:Mask}{p:Path}{d1:k1.den}{m1:Mask}{c:k.den→Mask→Option R}(h:FW k d m p k1 d1 m1 c=some r):∃d' m',c d' m'=some r:=by
 have hn:=aen (fun t:k.den×Mask=>c t.1 t.2) (k1:=k1) (d1:=d1) (m1:=m1) p (k:=k) (d:=d) (m:=m) fun d m=>some (d,m)
 have h2:=hn.trans h
 obtain ⟨t,_,h3⟩:=Option.bind_eq_some_iff.1 h2
 exact ⟨t.1,t.2,h3⟩
theorem aaG{q:ay}{e:K}{u:U}{x:Root}{p:Path}{c:List e.den→Mask→U→List Kill→List ay→Option R}(h:MH q e u x p c=some r):∃xs m u' ks l,c xs m u' ks l=some r∧nU u u' l∧jK ks l:=by
 have two:jK [Kill.at q p] [q]:=by
  intro av h
  simp only [hit,List.any_cons,List.any_nil,Bool.or_false] at h
  exact ⟨q,QS h,by simp⟩
 unfold MH at h
 obtain ⟨k',d',m',hc⟩:=jy p (Bj p h)
 rw [hc] at h
 split at h
 ·cases ho:m'.dU with
  |false=>rw [ho] at h;simp at h
  |true=>
   rw [ho] at h
   simp only [cond_true] at h
   obtain ⟨d2,m2,h⟩:=agt h
   exact ⟨_,_,_,_,_,h,(nU.refl u).cons _ _,two⟩
 ·simp at h
theorem MG{e:K}{u:U}{av:AV}{c:List e.den→Mask→U→List Kill→List ay→Option R}(h:fU rs e u av c=some r):∃xs m u' ks l,c xs m u' ks l=some r∧nU u u' l∧jK ks l:=by
 have one:∀q,jK [Kill.of q] [q]:=fun q=>jK.ofs [q]
 cases av with
 |nil=>exact ⟨_,_,_,_,_,h,.refl _,.nil⟩
 |emp=>exact ⟨_,_,_,_,_,h,.refl _,.nil⟩
 |ref q p=>
  simp only [fU] at h
  split at h
  ·simp at h
  ·rename_i x _
   split at h
   ·cases hm:(x.mem||Nat.beq q.1 0) with
    |true=>rw [hm] at h;exact aaG h
    |false=>
     rw [hm] at h
     simp only [cond_false] at h
     split at h
     ·cases ho:x.m.dU with
      |false=>rw [ho] at h;simp at h
      |true=>rw [ho] at h;exact ⟨_,_,_,_,_,h,(nU.refl u).cons _ _,one q⟩
     ·simp at h
   ·cases hi:dM p with
    |true=>rw [hi] at h;simp at h
    |false=>
     rw [hi] at h
     exact aaG h
 |slc q p lo n=>
  cases p with
  |cons=>simp [fU] at h
  |nil=>
   simp only [fU] at h
   split at h
   ·simp at h
   ·rename_i x _
    cases hm:x.mem with
    |true=>rw [hm] at h;simp at h
    |false=>
     rw [hm] at h
     simp only [cond_false] at h
     split at h
     ·cases ho:x.m.dU with
      |false=>rw [ho] at h;simp at h
      |true=>rw [ho] at h;exact ⟨_,_,_,_,_,h,(nU.refl u).cons _ _,one q⟩
     ·simp at h
 |_=>simp [fU] at h
theorem aif{e:K}{u:U}{av:AV}{c:List e.den→Mask→U→List Kill→List ay→Option R}(h:vV rs e u av c=some r):∃xs m u' ks l,c xs m u' ks l=some r∧nU u u' l∧jK ks l:=by
 cases av with
 |imm z k d=>
  simp only [vV] at h
  split at h
  ·exact ⟨_,_,_,_,_,h,.refl _,.nil⟩
  ·simp at h
 |_=>simp only [vV] at h;exact MG h
theorem Jv.plain(d:Option Nat)(v:AV)(rd:List ay):Jv d (dz v rd):=⟨rfl,fun q h=>absurd rfl h,fun av _ h=>by cases h⟩
theorem Jv.make{d:Option Nat}{x:Del}{j:Nat}{y:Option Root}{u':U}(hr:x.ren=none)(hu:x.u=(loc (d.getD 0) j,y)::u')(hm:x.make=true)(hk:nU [] u' x.wr)(hks:jK x.kills x.wr):Jv d x:=by
 refine ⟨hr,fun q h=>?_,fun av _ h=>ES hks av h⟩
 rw [hu] at h
 simp only [dn] at h
 by_cases he:q=loc (d.getD 0) j
 ·exact .inr ⟨hm,by rw [he]⟩
 ·rw [gN he] at h
  exact (hk q h).elim (fun h=>absurd rfl h) .inl
theorem al5{e:K}{a:AV}{c:Nat→Option R}(h:SS rs e a c=some r):∃n,c n=some r:=by
 have hn:=aga (rs:=rs) (e:=e) (a:=a) (fun n=>c n) some
 obtain ⟨n,_,h3⟩:=Option.bind_eq_some_iff.1 (hn.trans h)
 exact ⟨n,h3⟩
theorem PG{u:U}{e:K}{a:AV}{c:List e.den→Mask→Option R}(h:iB rs u e a c=some r):∃xs m,c xs m=some r:=by
 have hn:=kT (rs:=rs) (u:=u) (av:=a) (fun t:List e.den×Mask=>c t.1 t.2) fun xs m=>some (xs,m)
 obtain ⟨t,_,h3⟩:=Option.bind_eq_some_iff.1 (hn.trans h)
 exact ⟨t.1,t.2,h3⟩
theorem QO{k:K}{d:k.den}{m:Mask}{p:Path}{c:(k':K)→k'.den→Mask→Option R}(h:iF k d m p c=some r):∃k' d' m',c k' d' m'=some r:=by
 obtain ⟨k',d',m',hc⟩:=jy p (Bj p h)
 exact ⟨k',d',m',(hc c).symm.trans h⟩
theorem GI{f:(AV→Option R)→Option R}{f0:Option AV}{c:AV→Option R}(hn:f0.bind c=f c)(h:f c=some r):∃v,c v=some r:=by
 obtain ⟨v,_,h3⟩:=Option.bind_eq_some_iff.1 (hn.trans h)
 exact ⟨v,h3⟩
theorem dA{d:Option Nat}{v:AV}{rd:List ay}{x:Del}(h:some (dz v rd)=some x):Jv d x:=by
 cases h;exact .plain d v rd
theorem aa6{g:Reg}{dst:Nat}(ys:List Root)(u:U)(l:List ay)(h:∀q,dn q u≠none→q∈l):∀q,dn q (u++pU g dst 0 ys)≠none→q∈l∨q.1=dst+2:=by
 intro q hq
 rw [Ws] at hq
 cases h1:dn q u with
 |some z=>exact .inl (h q (by rw [h1];simp))
 |none=>
  rw [h1] at hq
  simp only at hq
  cases h2:dn q (pU g dst 0 ys) with
  |none=>exact absurd h2 hq
  |some z=>
   obtain ⟨j,_,rfl,_⟩:=OA _ _ _ _ h2
   exact .inr rfl
theorem PK:∀(l:List ay),jK (pJ rs l) l:=by
 intro l
 induction l with
 |nil=>exact .nil
 |cons q l ih=>
  intro av h
  simp only [pJ,hit,List.any_cons,Bool.or_eq_true] at h
  rcases h with h|h
  ·refine ⟨q,?_,by simp⟩
   cases hx:rs q with
   |none=>rw [hx] at h;exact abD h
   |some x=>
    rw [hx] at h
    simp only at h
    cases hm:x.mem with
    |true=>rw [hm] at h;exact QS h
    |false=>rw [hm] at h;exact acp h
  ·obtain ⟨q',a,b⟩:=ih av h
   exact ⟨q',a,by simp [b]⟩
theorem agG{sf:Bool}{args:List AV}{l:List ay}:jK (jh sf rs args l) l:=by
 unfold jh
 cases sf with
 |false=>exact PK l
 |true=>
  simp only [cond_true]
  unfold Ro
  split
  ·rename_i r p _ q
   cases req r (0,0) with
   |false=>exact PK _
   |true=>
    intro av h
    simp only [cond_true,hit,List.any_cons,List.any_nil,Bool.or_false] at h
    exact ⟨q,QS h,by simp⟩
  ·exact PK _
theorem ak7{V:Env}{f:Nat}{args:List AV}{kinds:List (Option K)}{d:Option Nat}{x:Del}(h:Al V f args kinds (d.getD 0) rs some=some x):Jv d x:=by
 unfold Al at h
 split at h
 ·simp at h
 ·rename_i q hq
  rw [ZA] at h
  obtain ⟨t,_,h⟩:=Option.bind_eq_some_iff.1 h
  split at h
  ·simp at h
  ·rename_i g hg
   rw [cond_eq_ite] at h
   split at h
   ·simp at h
   ·split at h
    ·simp at h
    ·obtain ⟨co,_,h⟩:=Tre.WT h
     ·rw [cond_eq_ite] at h
      split at h
      ·split at h
       ·simp at h
       ·rename_i u hu
        simp only [Option.some.injEq] at h
        subst h
        obtain ⟨_,h1,_⟩:=PL _ hu
        refine ⟨rfl,fun q hq=>?_,fun av _ h=>ES agG av h⟩
        rcases aa6 _ u g (fun q hq=>by
         cases hz:dn q u with
         |none=>exact absurd hz hq
         |some z=>obtain ⟨i,_,_,k1,_⟩:=h1 q z hz;exact List.mem_of_getElem? k1) q hq with h|h
        ·exact .inl h
        ·exact .inr ⟨rfl,h⟩
      ·simp at h
theorem aeK{V:Env}{b:Builtin}{ts:Array TypeId}{args:List AV}{d:Option Nat}{x:Del}(h:fH V b ts (d.getD 0) args rs some=some x)(hb:x.bar=false):Jv d x:=by
 unfold fH at h
 split at h
 ·split at h
  ·obtain ⟨v,h⟩:=al5 h
   exact dA h
  ·split at h
   ·exact dA h
   ·simp at h
  ·simp at h
 ·split at h
  ·rw [cond_eq_ite] at h
   split at h
   ·unfold mI at h
    split at h
    ·split at h
     ·simp at h
     ·split at h
      ·simp only [Option.some.injEq] at h
       subst h
       exact .make rfl rfl rfl (.refl _) .nil
      ·simp at h
    ·simp at h
    ·unfold qW at h
     split at h
     ·split at h
      ·simp at h
      ·split at h
       ·rw [cond_eq_ite] at h
        split at h
        ·obtain ⟨xs,ma,u1,k1,l1,h,hk1,hs1⟩:=MG h
         split at h
         ·simp only [Option.some.injEq] at h
          subst h
          exact .make rfl rfl rfl hk1 hs1
         ·simp at h
        ·simp at h
       ·simp at h
     ·simp at h
   ·split at h
    ·simp at h
    ·split at h
     ·obtain ⟨xs,ma,u1,k1,l1,h,hk1,hs1⟩:=MG h
      split at h
      ·split at h
       ·split at h
        ·simp only [Option.some.injEq] at h
         subst h
         exact .make rfl rfl rfl hk1 hs1
        ·simp at h
       ·simp at h
      ·obtain ⟨ys,mb,h⟩:=PG h
       split at h
       ·rw [cond_eq_ite] at h
        split at h
        ·simp only [Option.some.injEq] at h
         subst h
         exact .make rfl rfl rfl hk1 hs1
        ·rw [cond_eq_ite] at h
         split at h
         ·obtain ⟨ys',mb',u2,k2,l2,h,hk2,hs2⟩:=aif h
          split at h
          ·rw [cond_eq_ite] at h
           split at h
           ·simp at h
           ·simp only [Option.some.injEq] at h
            subst h
            refine .make rfl rfl rfl (fun q hq=>?_) (hs1.append hs2)
            rcases hk2 q hq with h|h
            ·exact (hk1 q h).imp id (fun h=>List.mem_append.2 (.inl h))
            ·exact .inr (List.mem_append.2 (.inr h))
          ·simp at h
         ·simp at h
       ·simp at h
     ·simp at h
  ·simp at h
 ·split at h
  ·exact dA h
  ·simp at h
 ·split at h
  ·exact dA h
  ·simp at h
 ·split at h
  ·exact dA h
  ·simp at h
 ·unfold TP at h
  split at h
  ·split at h
   ·simp at h
   ·split at h
    ·split at h
     ·simp at h
     ·split at h
      ·rw [cond_eq_ite] at h
       split at h
       ·simp at h
       ·obtain ⟨ys,mb,h⟩:=PG h
        cases h;cases hb
      ·simp at h
    ·simp at h
  ·simp at h
 ·unfold KS at h
  split at h
  ·split at h
   ·simp at h
   ·split at h
    ·split at h
     ·simp at h
     ·split at h
      ·rw [cond_eq_ite] at h
       split at h
       ·simp at h
       ·split at h
        ·cases h;cases hb
        ·simp at h
      ·simp at h
    ·simp at h
  ·simp at h
 ·simp at h
theorem aiO{V:Env}{o:Oper}{tm:TF}{x:Del}(h:Bf V o tm rs=some x)(hb:x.bar=false):Jv o.dst x:=by
 unfold Bf at h
 cases ho:o.op with
 |move a=>simp only [bC,ho] at h;exact dA h
 |assign a=>
  simp only [bC,ho] at h
  split at h
  ·rw [cond_eq_ite] at h
   split at h
   ·cases h;cases hb
   ·split at h
    ·simp at h
    ·rw [cond_eq_ite] at h
     split at h
     ·exact dA h
     ·cases h;cases hb
  ·exact dA h
 |pick a b c=>
  simp only [bC,ho] at h
  split at h
  ·rw [cond_eq_ite] at h
   split at h<;>exact dA h
  ·simp at h
 |alloc t=>
  simp only [bC,ho] at h
  split at h
  ·simp only [Option.some.injEq] at h;subst h;exact .make rfl rfl rfl (.refl _) .nil
  ·simp at h
 |box t a=>
  simp only [bC,ho] at h
  split at h
  ·split at h
   ·simp only [Option.some.injEq] at h;subst h;exact .make rfl rfl rfl (.refl _) .nil
   ·obtain ⟨d,m,u',e,q,h,hk⟩:=Ol _ h
    simp only [Option.some.injEq] at h;subst h;exact .make rfl rfl rfl hk (.ofs e)
  ·simp at h
 |build t ps=>
  simp only [bC,ho] at h
  split at h
  ·rw [cond_eq_ite] at h
   split at h
   ·exact dA h
   ·simp at h
  ·simp at h
 |buildSlice t k ps=>
  simp only [bC,ho] at h
  split at h
  ·split at h
   ·simp at h
   ·rw [cond_eq_ite] at h
    split at h
    ·obtain ⟨d,m,u',e,q,h,hk⟩:=aeE _ h
     simp only [Option.some.injEq] at h;subst h;exact .make rfl rfl rfl hk (.ofs e)
    ·simp at h
  ·simp at h
 |load t a=>
  simp only [bC,ho] at h
  split at h
  ·simp at h
  ·split at h
   ·split at h
    ·simp at h
    ·obtain ⟨k',d',m',h⟩:=QO h
     split at h
     ·exact dA h
     ·simp at h
   ·obtain ⟨k',d',m',h⟩:=QO h
    split at h
    ·exact dA h
    ·simp at h
   ·split at h
    ·simp at h
    ·split at h
     ·obtain ⟨k',d',m',h⟩:=QO h
      split at h
      ·exact dA h
      ·simp at h
     ·split at h
      ·simp at h
      ·split at h
       ·obtain ⟨k',d',m',h⟩:=QO h
        split at h
        ·rw [cond_eq_ite] at h
         split at h
         ·exact dA h
         ·simp at h
        ·simp at h
       ·simp at h
   ·simp at h
 |store t a b=>
  simp only [bC,ho] at h
  split at h
  ·simp at h
  ·split at h
   ·obtain ⟨d,m,u',e,q,h,hk⟩:=Ol _ h
    rw [cond_eq_ite] at h
    split at h
    ·simp at h
    ·split at h
     ·simp at h
     ·obtain ⟨d',m',h⟩:=agt h
      cases h
      refine ⟨rfl,fun q' hq'=>.inl ?_,fun av _ hh=>ES ?_ av hh⟩
      ·exact ((hk.cons _ _) q' hq').elim (fun h=>absurd rfl h) id
      ·intro av hh
       dsimp only at hh
       revert hh
       cases K.flat _
       ·intro hh
        simp only [cond_false,hit,List.any_cons,Bool.or_eq_true] at hh
        rcases hh with hh|hh
        ·exact ⟨_,QS hh,List.mem_cons_self ..⟩
        ·obtain ⟨q2,h1,h2⟩:=jK.ofs _ av hh
         exact ⟨q2,h1,List.mem_cons_of_mem _ h2⟩
       ·intro hh
        obtain ⟨q2,h1,h2⟩:=jK.ofs _ av hh
        exact ⟨q2,h1,List.mem_cons_of_mem _ h2⟩
   ·simp at h
 |nilCheck a=>simp only [bC,ho] at h;split at h<;>first|exact dA h|(simp at h;done)
 |binOp op t a b ty=>simp only [bC,ho] at h;obtain ⟨v,h⟩:=GI (f:=fun c=>Vw _ op _ _ c) (f0:=Vw _ op _ _ some) (XZ _ some) h;exact dA h
 |unOp op t a=>simp only [bC,ho] at h;obtain ⟨v,h⟩:=GI (f:=fun c=>ain op _ c) (f0:=ain op _ some) (aey _ some) h;exact dA h
 |convert t1 t2 a=>simp only [bC,ho] at h;obtain ⟨v,h⟩:=GI (f:=fun c=>KT _ _ _ c) (f0:=KT _ _ _ some) (TN _ some) h;exact dA h
 |makeFunc f f1 cs=>
  cases f<;>simp only [bC,ho] at h<;>first|(simp at h;done)|skip
  split at h
  ·exact dA h
  ·simp at h
 |makeSlice t l cp=>
  simp only [bC,ho] at h
  split at h
  ·split at h
   ·split at h
    ·simp only [Option.some.injEq] at h;subst h;exact .make rfl rfl rfl (.refl _) .nil
    ·simp at h
   ·simp at h
  ·simp at h
 |slice t a lo hi mx=>simp only [bC,ho] at h;obtain ⟨v,h⟩:=GI (f:=fun c=>A9 V t rs _ _ _ _ c) (f0:=A9 V t rs _ _ _ _ some) (aaE _ some) h;exact dA h
 |fieldAddr t a f=>
  simp only [bC,ho] at h
  split at h
  ·split at h
   ·simp at h
   ·split at h
    ·exact dA h
    ·simp at h
  ·split at h
   ·exact dA h
   ·simp at h
  ·split at h
   ·simp at h
   ·split at h
    ·exact dA h
    ·simp at h
  ·simp at h
 |indexAddr t a i=>
  simp only [bC,ho] at h
  split at h
  ·obtain ⟨v,h⟩:=GI (f:=fun c=>yB rs _ _ _ c) (f0:=yB rs _ _ _ some) (ZV _ some) h;exact dA h
  ·simp at h
 |index t a i=>
  simp only [bC,ho] at h
  split at h
  ·split at h
   ·split at h
    ·exact dA h
    ·simp at h
   ·simp at h
  ·simp at h
 |field t a f=>
  simp only [bC,ho] at h
  split at h
  ·rw [cond_eq_ite] at h
   split at h
   ·unfold KR at h
    split at h
    ·rw [cond_eq_ite] at h
     split at h
     ·simp at h
     ·exact dA h
    ·obtain ⟨_,_,h⟩:=PG h;exact dA h
    ·simp at h
   ·simp at h
  ·simp at h
 |extract a i=>
  simp only [bC,ho] at h
  rw [cond_eq_ite] at h
  split at h
  ·simp at h
  ·exact dA h
 |call cl=>
  obtain ⟨cal,args,ts⟩:=cl
  cases cal with
  |invoke _ _=>simp [bC,ho] at h
  |value f=>
   simp only [bC,ho,callee] at h
   split at h
   ·exact ak7 h
   ·simp at h
  |builtin b=>simp only [bC,ho] at h;exact aeK h hb
 |_=>simp [bC,ho] at h
theorem aiP{V:Env}{y:TypeId×ay×Nat×Nat}{x:Del}(h:xQ V y rs some=some x):x.bar=true:=by
 unfold xQ at h
 split at h
 ·split at h
  ·simp at h
  ·split at h
   ·rw [cond_eq_ite] at h
    split at h
    ·simp at h
    ·split at h
     ·simp only [Option.some.injEq] at h;subst h;rfl
     ·split at h
      ·rw [cond_eq_ite] at h
       split at h
       ·split at h
        ·simp only [Option.some.injEq] at h;subst h;rfl
        ·simp at h
       ·simp at h
      ·simp at h
   ·simp at h
 ·simp at h
theorem KU{V:Env}{o:Oper}{tm:TF}{x:Del}(h:IC V o tm rs=some x)(hb:x.bar=false):Jv o.dst x:=by
 unfold IC zI at h
 split at h
 ·rw [aiP h] at hb;cases hb
 ·cases hc:KQ o with
  |true=>rw [hc,cond_true] at h;exact aiO h hb
  |false=>
   rw [hc,cond_false] at h
   split at h
   ·exact aiO (TQ.1 h).1 hb
   ·simp at h
end
end Go.Abs
namespace Go.Abs
variable {Γ : Glb}
section
variable {V : Env} {ops : Array Oper}
def kI(o:Oper)(s:St)(x:Del):Tr:=⟨dF::(bU (aZ s.tmps o)++(x.rd++x.v.names)),x.wr++x.pins,bif x.make then o.dst else none,x.bar,qV (aZ s.tmps o),ahH o.dst x,dK (o.dst.getD 0) x,x.v::aZ s.tmps o,x.ren.isSome⟩
def Bc(V:Env)(o:Oper)(s s':St)(tr:Tr):Prop:=∃x,IC V o s.tmps s.roots=some x∧ku s o.dst x=true∧s'=s.after o.dst x∧tr=kI o s x
def gv:AV→Option (Option Bool)
 |.imm _ .bool b=>some (some b)
 |.tnil=>some none
 |_=>none
def Stp(V:Env)(ops:Array Oper)(o:Oper)(s s':St)(tr:Tr):Prop:=
 match o.guard with
 |none=>Bc V o s s' tr
 |some (j,want)=>∃t b,(ops[j]?).bind (·.dst)=some t∧gv (s.tmps t)=some b∧((b=some want∧Bc V o s s' tr)∨(b≠some want∧s'=gT o s∧tr=⟨[],[],none,false,true,false,[],[],false⟩))
theorem Zu{s:St}{t:Nat}{z b:Bool}(h:s.tmps t=.imm z .bool b):Sn t (.imm z .bool b) s=s:=by
 refine St.ext' (fun t'=>?_) (fun _=>rfl) (fun _=>rfl)
 simp only [Sn]
 by_cases ht:t'=t
 ·rw [beq_iff.2 ht,ht,h];rfl
 ·rw [gJ ht];rfl
theorem adJ{R:Type}{r:R}{o:Oper}{s:St}{c:St→Tr→Option R}(h:WQ V o s c=some r):∃s' tr,c s' tr=some r∧Bc V o s s' tr:=by
 unfold WQ at h
 rw [ak9] at h
 obtain ⟨x,hx,h⟩:=Option.bind_eq_some_iff.1 h
 cases hal:ku s o.dst x with
 |false=>rw [hal] at h;simp at h
 |true=>
  rw [hal] at h
  exact ⟨_,_,h,x,hx,hal,rfl,rfl⟩
theorem aeM{R:Type}{r:R}{o:Oper}{s:St}{c:St→Tr→Option R}(h:Ot V ops.toList o s c=some r):∃s' tr,c s' tr=some r∧Stp V ops o s s' tr:=by
 unfold Ot at h
 unfold Stp
 split at h
 ·rename_i hg
  obtain ⟨s',tr,h1,h2⟩:=adJ h
  exact ⟨s',tr,h1,by rw [hg];exact h2⟩
 ·rename_i j want hg
  split at h
  ·simp at h
  ·rename_i t ht
   rw [Array.getElem?_toList] at ht
   split at h
   case h_3=>simp at h
   case h_2 hb=>exact ⟨_,_,h,by rw [hg];exact ⟨t,none,ht,by rw [hb];rfl,.inr ⟨by simp,rfl,rfl⟩⟩⟩
   case h_1 z b hb=>
   have run:∀bb:Bool,b=bb→want=bb→WQ V o (Sn t (.imm z .bool bb) s) c=some r→∃s' tr,c s' tr=some r∧Bc V o s s' tr:=by
    intro bb h1 h2 h3
    subst h1
    rw [Zu hb] at h3
    exact adJ h3
   cases want<;>cases b
   ·obtain ⟨s',tr,h1,h2⟩:=run false rfl rfl h
    exact ⟨s',tr,h1,by rw [hg];exact ⟨t,some false,ht,by rw [hb];rfl,.inl ⟨rfl,h2⟩⟩⟩
   ·have h:c (gT o (Sn t (.imm z .bool true) s)) ⟨[],[],none,false,true,false,[],[],false⟩=some r:=h
    rw [Zu hb] at h
    exact ⟨_,_,h,by rw [hg];exact ⟨t,some true,ht,by rw [hb];rfl,.inr ⟨by simp,rfl,rfl⟩⟩⟩
   ·have h:c (gT o (Sn t (.imm z .bool false) s)) ⟨[],[],none,false,true,false,[],[],false⟩=some r:=h
    rw [Zu hb] at h
    exact ⟨_,_,h,by rw [hg];exact ⟨t,some false,ht,by rw [hb];rfl,.inr ⟨by simp,rfl,rfl⟩⟩⟩
   ·obtain ⟨s',tr,h1,h2⟩:=run true rfl rfl h
    exact ⟨s',tr,h1,by rw [hg];exact ⟨t,some true,ht,by rw [hb];rfl,.inl ⟨rfl,h2⟩⟩⟩
theorem ao2{P:Program}{w0 w:World}{M0:BS}{n:Nat}{C0 C:Ctx}{s s':St}{a:Act}{o:Oper}{tr:Tr}(hT:gq P V)(hE:XR P Γ V w0 M0 C0){i:Nat}(hi:ops[i]?=some o)(R:D9 w0 M0 n C0 C s a w)
  (hd:∀d,o.dst=some d→d<n) (h:Stp V ops o s s' tr) (next:Act→World→Prop) (Q:Exit→Act→World→Prop) (hn:∀a' w' C',D9 w0 M0 n C0 C' s' a' w'→next a' w'):wpOp P ops Q i next a w:=by
 have run:Bc V o s s' tr→o.wp P a w next Q:=by
  rintro ⟨x,hx,hal,rfl,_⟩
  obtain ⟨x',h1,h2⟩:=ZG hT R (fun R' h'=>amQ hT hE R' h') hx
  cases h1
  exact h2 hd hal next Q hn
 unfold Stp at h
 split at h
 ·rename_i hg
  unfold wpOp
  simp only [hi,Region.wanted,hg,if_true]
  exact .inl (run h)
 ·rename_i j want hg
  obtain ⟨t,b,ht,hb,h⟩:=h
  obtain ⟨_,R1,_⟩:=id R
  have hv:=R1.tm t
  have hy:yielded ops a.tmps j=b:=by
   unfold yielded
   rw [ht]
   simp only [Option.bind_some]
   unfold gv at hb
   split at hb
   ·rename_i z b' hb'
    rw [hb'] at hv
    have hvb:=hv.bool
    cases hb
    have:a.tmps[t]?=some (.bool b'):=by
     rw [Array.getD_eq_getD_getElem?] at hvb
     cases hh:a.tmps[t]? with
     |none=>rw [hh] at hvb;cases hvb
     |some v=>rw [hh] at hvb;simp only [Option.getD_some] at hvb;rw [hvb]
    rw [this]
   ·rename_i hb'
    rw [hb'] at hv
    have hvu:=bH.undef hv
    cases hb
    rw [Array.getD_eq_getD_getElem?] at hvu
    cases hh:a.tmps[t]? with
    |none=>rfl
    |some v=>rw [hh] at hvu;simp only [Option.getD_some] at hvu;subst hvu;rfl
   ·cases hb
  unfold wpOp
  rcases h with ⟨rfl,h⟩|⟨hne,rfl,_⟩
  ·simp only [hi,Region.wanted,hg,hy,beq_self_eq_true,if_true]
   exact .inl (run h)
  ·have hne':(b == some want)=false:=by rcases b with _|b<;>cases want<;>first|rfl|exact absurd rfl hne|(cases b<;>first|rfl|exact absurd rfl hne)
   simp only [hi,Region.wanted,hg,hy,hne']
   exact hn _ _ C (R.aq3 hd)
inductive abO (V:Env) (ops:Array Oper):List (Nat×Tr)→St→St→Prop
 |nil (s:St):abO V ops [] s s
 |cons {i:Nat} {o:Oper} {tr:Tr} {l:List (Nat×Tr)} {s s1 s2:St} (hi:ops[i]?=some o) (h:Stp V ops o s s1 tr) (t:abO V ops l s1 s2):abO V ops ((i,tr)::l) s s2
end
end Go.Abs
namespace Go.Abs
section
variable {V : Env} {ops : Array Oper}
theorem ZX(ks:List Kill)(v:Value):AV.kills ks (DK v)=DK v:=by
 have h:∀a:AV,a.dS=true→a.names=[]→AV.kills ks a=a:=by
  intro a hl hn
  rw [fK _ _ hl]
  cases hh:hit ks a with
  |false=>rfl
  |true=>
   simp only [hit,List.any_eq_true] at hh
   obtain ⟨x,_,hx⟩:=hh
   exfalso
   cases x with
   |of q=>have:=abD hx;rw [hn] at this;cases this
   |«at» q p=>have:=QS hx;rw [hn] at this;cases this
   |inn q=>have:=acp hx;rw [hn] at this;cases this
   |dst d=>obtain ⟨q,h1,_⟩:=aco hx;rw [hn] at h1;cases h1
 unfold DK
 split<;>exact h _ rfl rfl
theorem j5(ks:List Kill)(a:AV)(hl:a.dS=true)(hn:a.names=[]):AV.kills ks a=a:=by
 rw [fK _ _ hl]
 cases hh:hit ks a with
 |false=>rfl
 |true=>
  simp only [hit,List.any_eq_true] at hh
  obtain ⟨x,_,hx⟩:=hh
  exfalso
  cases x with
  |of q=>have:=abD hx;rw [hn] at this;cases this
  |«at» q p=>have:=QS hx;rw [hn] at this;cases this
  |inn q=>have:=acp hx;rw [hn] at this;cases this
  |dst d=>obtain ⟨q,h1,_⟩:=aco hx;rw [hn] at h1;cases h1
theorem acd{s:St}{d:Option Nat}{x:Del}(hr:x.ren=none)(y:Operand)(hy:∀t,d=some t→y≠.tmp t):bf (s.after d x).tmps y=AV.kills (dK (d.getD 0) x) (bf s.tmps y):=by
 cases y with
 |tmp t=>
  simp only [bf,St.after,hr,mV]
  cases d with
  |none=>rfl
  |some d=>
   have:t≠d:=by rintro rfl;exact hy t rfl rfl
   simp only [gJ this,cond_false]
 |const v=>simp only [bf];exact (ZX _ v).symm
 |func f=>simp only [bf];exact (j5 _ _ rfl rfl).symm
 |global g=>simp only [bf];exact (rA _).symm
theorem adv(ks:List Kill):∀(i:Nat)(a:AV),RO (AV.kills ks a) i=AV.kills ks (RO a i):=by
 have hleaf:∀(i:Nat)(a:AV),(∀x y,a≠.tcons x y)→RO a i=.dead:=fun i a h=>by
  cases a<;>first|(cases i<;>rfl)|exact absurd rfl (h _ _)
 have hk:∀a:AV,(∀x y,a≠.tcons x y)→∀x y,AV.kills ks a≠.tcons x y:=fun a h=>by
  cases a<;>first
   |exact absurd rfl (h _ _)
   | (rw [j6];intro x y hh;cases hh)
   | (rw [fK _ _ rfl];intro x y hh;cases hc:hit ks _<;>rw [hc] at hh<;>cases hh)
 intro i
 induction i with
 |zero=>
  intro a
  cases a<;>first
   | (rw [kL];rfl)
   | (rw [hleaf _ _ (hk _ (by simp)),hleaf _ _ (by simp),rA])
 |succ i ih=>
  intro a
  cases a<;>first
   | (rw [kL];exact ih _)
   | (rw [hleaf _ _ (hk _ (by simp)),hleaf _ _ (by simp),rA])
theorem AP{s:St}{d:Option Nat}{x:Del}(hr:x.ren=none)(o:Oper)(ho:∀t,d=some t→.tmp t ∉ o.op.operands.toList):aZ (s.after d x).tmps o=(aZ s.tmps o).map (AV.kills (dK (d.getD 0) x)):=by
 unfold aZ
 split
 ·rename_i y i hop
  rw [acd hr y fun t ht he=>ho t ht (by rw [hop,he];simp [Op.operands]),adv]
  rfl
 ·rw [List.map_map]
  exact List.map_congr_left fun y hy=>acd hr y fun t ht he=>ho t ht (he ▸ hy)
theorem Om(ks:List Kill):∀(l:List AV),qV (l.map (AV.kills ks))=true→l.map (AV.kills ks)=l:=by
 intro l
 induction l with
 |nil=>intro _;rfl
 |cons a l ih=>
  intro h
  simp only [List.map_cons,qV,Bool.and_eq_true] at h
  rw [List.map_cons,Pf ks a h.1,ih h.2]
theorem LM{l l':List ay}(h:CO l l'=false):∀q∈l,q ∉ l':=by
 induction l with
 |nil=>intro q hq;cases hq
 |cons x l ih=>
  simp only [CO,Bool.or_eq_false_iff] at h
  intro q hq hq'
  rcases List.mem_cons.1 hq with rfl|hq
  ·rw [BK.2 hq'] at h;cases h.1
  ·exact ih h.2 q hq hq'
theorem UJ{d:Nat}{l:List ay}(h:ajD (some d) l=false):∀q∈l,q.1≠d+2:=by
 intro q hq he
 simp only [ajD,List.any_eq_false] at h
 exact h q hq (beq_iff.2 he)
theorem aev{o:Oper}{s:St}{x:Del}{tr:Tr}(hal:allowed s o.dst x=true)(hw:CO (kI o s x).wr tr.rd=false)(hw2:CO (kI o s x).wr tr.wr=false)(hm:ajD (kI o s x).mak tr.rd=false)(hm2:ajD (kI o s x).mak tr.wr=false)
  {q:ay} (h:Touch o.dst x q):q ∉ tr.rd∧q ∉ tr.wr:=by
 rcases h with h|⟨h1,h2⟩
 ·exact ⟨LM hw q (by simp [kI,h]),LM hw2 q (by simp [kI,h])⟩
 ·obtain ⟨d,hd⟩:=Ea hal h1
  simp only [kI,h1,cond_true,hd] at hm hm2
  rw [hd] at h2
  simp only [Option.getD_some] at h2
  exact ⟨fun h=>UJ hm q h h2,fun h=>UJ hm2 q h h2⟩
theorem kM{s:St}{d:Option Nat}{x:Del}(hx:Jv d x){q:ay}(h:¬Touch d x q):(s.after d x).roots q=s.roots q:=by
 simp only [St.after]
 cases h1:dn q x.u with
 |some y=>exact absurd (hx.keys q (by rw [h1];simp)) h
 |none=>
  simp only
  cases h2:(x.make&&Nat.beq q.1 (d.getD 0+2)) with
  |false=>rfl
  |true=>
   simp only [Bool.and_eq_true] at h2
   exact absurd (.inr ⟨h2.1,beq_iff.1 h2.2⟩) h
theorem abU{s:St}{d:Option Nat}{x:Del}(h:ku s d x=true):allowed s d x=true:=by
 unfold ku at h
 rw [Bool.and_eq_true] at h
 exact h.1
theorem ao3{oi oj:Oper}{s s1 s2:St}{tri trj:Tr}(hi:Bc V oi s s1 tri)(hj:Bc V oj s1 s2 trj)(hc:clash tri trj=false)(hlive:trj.live=true)
  (hdst:∀t,oi.dst=some t→oj.dst≠some t) (hoj:∀t,oi.dst=some t→.tmp t ∉ oj.op.operands.toList) (hoi:∀t,oj.dst=some t→.tmp t ∉ oi.op.operands.toList) :
  ∃s1',Bc V oj s s1' trj∧Bc V oi s1' s2 tri:=by
 obtain ⟨xi,di,ai,rfl,rfl⟩:=hi
 obtain ⟨xj,dj,aj,rfl,rfl⟩:=hj
 have ai:=abU ai
 have aj:=abU aj
 simp only [clash,Bool.or_eq_false_iff] at hc
 obtain ⟨⟨⟨⟨⟨⟨⟨⟨hbi,hbj⟩,c1⟩,c2⟩,c3⟩,c4⟩,c5⟩,c6⟩,c7⟩:=hc
 have ki:=KU di hbi
 have kj:=KU dj hbj
-- the later one's operands are as they were
 have hopj:aZ (s.after oi.dst xi).tmps oj=aZ s.tmps oj:=by
  have h1:=AP (s:=s) ki.ren oj hoj
  have h2:qV (aZ (s.after oi.dst xi).tmps oj)=true:=hlive
  rw [h1] at h2 ⊢
  exact Om _ _ h2
 have hti:∀q,Touch oi.dst xi q→q ∉ (kI oj (s.after oi.dst xi) xj).rd∧q ∉ (kI oj (s.after oi.dst xi) xj).wr:=fun q h=>aev ai c1 c2 c4 c5 h
 have c2':CO (kI oj (s.after oi.dst xi) xj).wr (kI oi s xi).wr=false:=by
  cases h:CO (kI oj (s.after oi.dst xi) xj).wr (kI oi s xi).wr with
  |false=>rfl
  |true=>
   exfalso
   have key:∀(l l':List ay),CO l l'=true→∃q∈l,q∈l':=by
    intro l l'
    induction l with
    |nil=>intro h;cases h
    |cons x l ih=>
     intro h
     simp only [CO,Bool.or_eq_true] at h
     rcases h with h|h
     ·exact ⟨x,by simp,BK.1 h⟩
     ·obtain ⟨q,a,b⟩:=ih h;exact ⟨q,by simp [a],b⟩
   obtain ⟨q,a,b⟩:=key _ _ h
   exact LM c2 q b a
 have htj:∀q,Touch oj.dst xj q→q ∉ (kI oi s xi).rd∧q ∉ (kI oi s xi).wr:=fun q h=>aev aj c3 c2' c6 c7 h
 have hrd:∀q∈bU (aZ s.tmps oj),q∈(kI oj (s.after oi.dst xi) xj).rd:=by
  intro q hq
  simp only [kI,hopj,List.mem_cons,List.mem_append]
  exact .inr (.inl hq)
-- the later one does first what it did
 have dj':IC V oj s.tmps s.roots=some xj:=by
  refine jZ dj hopj.symm (fun q hq=>?_) (fun q hq=>?_) (kM ki fun ht=>(hti _ ht).1 (by simp [kI])).symm
  ·rw [hopj] at hq
   exact (kM ki fun ht=>(hti q ht).1 (hrd q hq)).symm
  ·exact (kM ki fun ht=>(hti q ht).2 (by simp [kI,hq])).symm
 have hopi:aZ (s.after oj.dst xj).tmps oi=aZ s.tmps oi:=by
  rw [AP kj.ren oi hoi]
  conv=>rhs;rw [←List.map_id (aZ s.tmps oi)]
  refine List.map_congr_left fun y hy=>?_
  exact acX kj y fun q hq ht=>(htj q ht).1 (by simp only [kI,List.mem_cons,List.mem_append];exact .inr (.inl (Wx hy hq)))
 have di':IC V oi (s.after oj.dst xj).tmps (s.after oj.dst xj).roots=some xi:=by
  refine jZ di hopi (fun q hq=>?_) (fun q hq=>?_) (kM kj fun ht=>(htj _ ht).1 (by simp [kI]))
  ·exact kM kj fun ht=>(htj q ht).1 (by simp only [kI,List.mem_cons,List.mem_append];exact .inr (.inl hq))
  ·exact kM kj fun ht=>(htj q ht).2 (by simp [kI,hq])
 have hnw:∀{st:St}{d:Option Nat}{x:Del},dF ∉ x.wr→allowed st d x=true→ku st d x=true:=by
  intro st d x h h2
  unfold ku
  rw [h2,show LP dF x.wr=false from Bool.eq_false_iff.2 fun hm=>h (BK.1 hm)]
  rfl
 have wj:dF ∉ xj.wr:=fun hm=>(htj dF (.inl hm)).1 (by simp [kI])
 have wi:dF ∉ xi.wr:=fun hm=>(hti dF (.inl hm)).1 (by simp [kI])
 have aj':allowed s oj.dst xj=true:=by
  unfold allowed at aj ⊢
  simp only [Bool.or_eq_true] at aj ⊢
  refine aj.imp id fun h=>?_
  cases hd:oj.dst with
  |none=>rw [hd] at h;cases h
  |some d=>
   rw [hd] at h
   simp only [Bool.and_eq_true,Bool.not_eq_true'] at h ⊢
   refine ⟨?_,h.2⟩
   have h1:=h.1
   simp only [St.after,Bool.or_eq_false_iff] at h1
   exact h1.1
 have ai':allowed (s.after oj.dst xj) oi.dst xi=true:=by
  unfold allowed at ai ⊢
  cases hm:xi.make with
  |false=>simp [ki.ren]
  |true=>
   rw [hm] at ai
   simp only [Bool.not_true,Bool.false_and,Bool.false_or] at ai ⊢
   cases hd:oi.dst with
   |none=>rw [hd] at ai;cases ai
   |some d=>
    rw [hd] at ai
    simp only [Bool.and_eq_true,Bool.not_eq_true'] at ai ⊢
    refine ⟨?_,ai.2⟩
    simp only [St.after,Bool.or_eq_false_iff]
    refine ⟨ai.1,?_⟩
    rw [List.any_eq_false]
    intro q hq hqd
    simp only [kI,hm,cond_true,hd] at c5
    exact UJ c5 q (by simp [hq]) (beq_iff.1 hqd).symm
 have hdisj:∀q,Touch oi.dst xi q→¬Touch oj.dst xj q:=by
  intro q h1 h2
  rcases h1 with h1|⟨m1,e1⟩
  ·exact (htj q h2).2 (by simp [kI,h1])
  ·rcases h2 with h2|⟨m2,e2⟩
   ·exact (hti q (.inr ⟨m1,e1⟩)).2 (by simp [kI,h2])
   ·obtain ⟨d1,hd1⟩:=Ea ai m1
    obtain ⟨d2,hd2⟩:=Ea aj m2
    rw [hd1] at e1
    rw [hd2] at e2
    simp only [Option.getD_some] at e1 e2
    exact hdst d1 hd1 (by rw [hd2];exact congrArg some (Nat.add_right_cancel (e2.symm.trans e1)))
 refine ⟨s.after oj.dst xj,⟨xj,dj',hnw wj aj',rfl,by simp only [kI,hopj]⟩,⟨xi,di',hnw wi ai',?_,by simp only [kI,hopi]⟩⟩
 exact akS ki kj hdst (fun q hq ht=>(htj q ht).1 (by simp [kI,hq])) (fun q hq ht=>(hti q ht).1 (by simp [kI,hq])) hdisj
end
end Go.Abs
namespace Go.Abs
section
variable {V : Env} {ops : Array Oper}
theorem afW{s:St}{o:Oper}(y:Operand)(hy:∀t,o.dst=some t→y≠.tmp t):bf (gT o s).tmps y=bf s.tmps y:=by
 cases y with
 |tmp t=>
  simp only [bf,gT]
  cases hd:o.dst with
  |none=>rfl
  |some d=>
   have:t≠d:=by rintro rfl;exact hy t hd rfl
   simp only [gJ this,cond_false]
 |_=>rfl
theorem sP{s:St}{o o2:Oper}(h:∀t,o.dst=some t→.tmp t ∉ o2.op.operands.toList):aZ (gT o s).tmps o2=aZ s.tmps o2:=by
 unfold aZ
 split
 ·rename_i y i hop
  rw [afW y fun t ht he=>h t ht (by rw [hop,he];simp [Op.operands])]
 ·exact List.map_congr_left fun y hy=>afW y fun t ht he=>h t ht (he ▸ hy)
theorem aep{s:St}{o:Oper}{d:Option Nat}{x:Del}(hr:x.ren=none)(h:∀t,d=some t→o.dst≠some t):gT o (s.after d x)=(gT o s).after d x:=by
 refine St.ext' (fun t=>?_) (fun _=>rfl) (fun _=>rfl)
 simp only [gT,St.after,hr,mV]
 cases ho:o.dst with
 |none=>rfl
 |some b=>
  cases d with
  |none=>
   by_cases hb:t=b
   ·simp only [beq_iff.2 hb,cond_true,cond_false];exact (j5 _ .tnil rfl rfl).symm
   ·simp only [gJ hb,cond_false]
  |some a=>
   by_cases hb:t=b
   ·have ha:t≠a:=by rintro rfl;exact h t rfl (by rw [ho,hb])
    simp only [beq_iff.2 hb,gJ ha,cond_true,cond_false];exact (j5 _ .tnil rfl rfl).symm
   ·simp only [gJ hb,cond_false]
theorem ao0{s:St}{o o2:Oper}:gT o (gT o2 s)=gT o2 (gT o s):=by
 refine St.ext' (fun t=>?_) (fun _=>rfl) (fun _=>rfl)
 simp only [gT]
 cases o.dst<;>cases o2.dst<;>simp only [cond_false]
 rename_i a b
 cases Nat.beq t a<;>cases Nat.beq t b<;>rfl
theorem aoQ{oi oj:Oper}{s s1:St}{tri:Tr}(hb:tri.bar=false)(h:Bc V oi s s1 tri)(hdst:∀t,oi.dst=some t→oj.dst≠some t)(hoi:∀t,oj.dst=some t→.tmp t ∉ oi.op.operands.toList) :
  Bc V oi (gT oj s) (gT oj s1) tri:=by
 obtain ⟨x,hx,hal,rfl,rfl⟩:=h
 have ho:=sP (s:=s) (o:=oj) (o2:=oi) hoi
 have kx:=KU hx hb
 exact ⟨x,jZ hx ho (fun _ _=>rfl) (fun _ _=>rfl) rfl,hal,aep kx.ren hdst,by simp only [kI,ho]⟩
def idle:Tr:=⟨[],[],none,false,true,false,[],[],false⟩
def Zx(ops:Array Oper)(o:Oper)(s s':St):Prop:=∀j want t,o.guard=some (j,want)→(ops[j]?).bind (·.dst)=some t→∀b,gv (s.tmps t)=some b→gv (s'.tmps t)=some b
theorem p8{o:Oper}{s s1:St}{tr:Tr}(h:Stp V ops o s s1 tr) :
  (Bc V o s s1 tr∧∀s' s1' tr',Zx ops o s s'→Bc V o s' s1' tr'→Stp V ops o s' s1' tr') ∨
  (s1=gT o s∧tr=idle∧∀s',Zx ops o s s'→Stp V ops o s' (gT o s') idle):=by
 unfold Stp at h
 split at h
 ·rename_i hg
  refine .inl ⟨h,fun s' s1' tr' _ h'=>?_⟩
  unfold Stp;rw [hg];exact h'
 ·rename_i j want hg
  obtain ⟨t,b,ht,hb,h⟩:=h
  rcases h with ⟨he,h⟩|⟨hne,h1,h2⟩
  ·refine .inl ⟨h,fun s' s1' tr' hs h'=>?_⟩
   unfold Stp;rw [hg]
   exact ⟨t,b,ht,hs j want t hg ht b hb,.inl ⟨he,h'⟩⟩
  ·refine .inr ⟨h1,h2,fun s' hs=>?_⟩
   unfold Stp;rw [hg]
   exact ⟨t,b,ht,hs j want t hg ht b hb,.inr ⟨hne,rfl,rfl⟩⟩
theorem D7{s:St}{d:Option Nat}{x:Del}(hr:x.ren=none){t:Nat}(h:∀a,d=some a→t≠a){b:Option Bool}:gv ((s.after d x).tmps t)=some b↔gv (s.tmps t)=some b:=by
 have he:(s.after d x).tmps t=AV.kills (dK (d.getD 0) x) (s.tmps t):=by
  simp only [St.after,hr,mV]
  cases d with
  |none=>rfl
  |some a=>simp only [gJ (h a rfl),cond_false]
 rw [he]
 constructor
 ·intro hk
  have:=Pf (dK (d.getD 0) x) (s.tmps t) (by
   revert hk
   generalize AV.kills (dK (d.getD 0) x) (s.tmps t)=a
   intro hk
   unfold gv at hk
   split at hk<;>first|rfl|cases hk)
  rw [←this];exact hk
 ·intro hk
  have:AV.kills (dK (d.getD 0) x) (s.tmps t)=s.tmps t:=by
   revert hk
   generalize s.tmps t=a
   intro hk
   unfold gv at hk
   split at hk<;>first|exact j5 _ _ rfl rfl|cases hk
  rw [this];exact hk
theorem BJ{s:St}{o:Oper}{t:Nat}(h:∀a,o.dst=some a→t≠a):(gT o s).tmps t=s.tmps t:=by
 simp only [gT]
 cases hd:o.dst with
 |none=>rfl
 |some a=>simp only [gJ (h a hd),cond_false]
def nV(ops:Array Oper)(d:Option Nat)(o:Oper):Prop:=∀j want t,o.guard=some (j,want)→(ops[j]?).bind (·.dst)=some t→d≠some t
theorem aq7{oi oj:Oper}{s s1 s2:St}{tri trj:Tr}(hi:Stp V ops oi s s1 tri)(hj:Stp V ops oj s1 s2 trj)(hc:clash tri trj=false)(hlive:trj.live=true)
  (hdst:∀t,oi.dst=some t→oj.dst≠some t) (hoj:∀t,oi.dst=some t→.tmp t ∉ oj.op.operands.toList) (hoi:∀t,oj.dst=some t→.tmp t ∉ oi.op.operands.toList)
  (hgj:nV ops oi.dst oj) (hgi:nV ops oj.dst oi):∃s1',Stp V ops oj s s1' trj∧Stp V ops oi s1' s2 tri:=by
 have hdst':∀t,oj.dst=some t→oi.dst≠some t:=fun t h1 h2=>hdst t h2 h1
 have hbars:tri.bar=false∧trj.bar=false:=by
  simp only [clash,Bool.or_eq_false_iff] at hc
  exact hc.1.1.1.1.1.1.1
 rcases p8 hi with ⟨ri,gi⟩|⟨rfl,rfl,gi⟩<;>rcases p8 hj with ⟨rj,gj⟩|⟨rfl,rfl,gj⟩
 ·obtain ⟨s1',a,b⟩:=ao3 ri rj hc hlive hdst hoj hoi
  have a0:=a
  obtain ⟨xj,dj,_,rfl,ej⟩:=a0
  obtain ⟨xi,di,_,rfl,ei⟩:=ri
  have ki:=KU di (by have h:=hbars.1;rw [ei] at h;exact h)
  have kj:=KU dj (by have h:=hbars.2;rw [ej] at h;exact h)
  refine ⟨_,gj _ _ _ (fun j want t hg ht b h=>(D7 ki.ren fun a ha=>?_).1 h) a,gi _ _ _ (fun j want t hg ht b h=>(D7 kj.ren fun a ha=>?_).2 h) b⟩
  ·rintro rfl;exact hgj j want _ hg ht ha
  ·rintro rfl;exact hgi j want _ hg ht ha
 ·have ri0:=ri
  obtain ⟨xi,di,_,rfl,ei⟩:=ri0
  have ki:=KU di (by have h:=hbars.1;rw [ei] at h;exact h)
  refine ⟨_,gj s (fun j want t hg ht b h=>(D7 ki.ren fun a ha=>?_).1 h),gi _ _ _ (fun j want t hg ht b h=>?_) (aoQ hbars.1 ri hdst hoi)⟩
  ·rintro rfl;exact hgj j want _ hg ht ha
  ·rw [BJ (fun a ha=>by rintro rfl;exact hgi j want _ hg ht ha)];exact h
 ·obtain ⟨xj,dj,al,rfl,ej⟩:=rj
  have kj:=KU dj (by have h:=hbars.2;rw [ej] at h;exact h)
  have ho:=sP (s:=s) (o:=oi) (o2:=oj) hoj
  have dj':IC V oj s.tmps s.roots=some xj:=jZ dj ho.symm (fun _ _=>rfl) (fun _ _=>rfl) rfl
  refine ⟨_,gj s _ _ (fun j want t hg ht b h=>?_) ⟨xj,dj',al,rfl,by rw [ej];simp only [kI,ho]⟩,?_⟩
  ·rw [BJ (fun a ha=>by rintro rfl;exact hgj j want _ hg ht ha)] at h;exact h
  ·rw [←aep kj.ren hdst']
   exact gi _ (fun j want t hg ht b h=>(D7 kj.ren fun a ha=>by rintro rfl;exact hgi j want _ hg ht ha).2 h)
 ·refine ⟨_,gj s (fun j want t hg ht b h=>?_),?_⟩
  ·rw [BJ (fun a ha=>by rintro rfl;exact hgj j want _ hg ht ha)] at h;exact h
  ·rw [ao0]
   exact gi _ (fun j want t hg ht b h=>by rw [BJ (fun a ha=>by rintro rfl;exact hgi j want _ hg ht ha)];exact h)
def lZ(d:Option Nat)(v:AV)(s:St):St:=⟨fun t=>bif (match d with|some d=>Nat.beq t d|none=>false) then v else s.tmps t,s.roots,s.pins⟩
theorem lK(s:St)(d:Option Nat)(v:AV)(rd:List ay):s.after d (dz v rd)=lZ d v s:=by
 refine St.ext' (fun t=>?_) (fun q=>?_) (fun n=>?_)
 ·simp only [St.after,lZ,dz,dK,mV,cond_false,AV.kills]
  cases d<;>rfl
 ·simp only [St.after,lZ,dz,dn,Bool.false_and,cond_false]
 ·simp only [St.after,lZ,dz,List.any_nil,Bool.or_false]
theorem TL{o:Oper}(hb:fE o=true)(tm:TF)(rs:RF):IC V o tm rs=Bf V o tm rs:=by
 unfold IC zI Bf pV KQ
 unfold fE at hb
 cases ho:o.op<;>rw [ho] at hb<;>first|(cases hb;done)|rfl
theorem X0{o:Oper}(hb:fE o=true){tm:TF}{rs:RF}{x:Del}(h:IC V o tm rs=some x):(∃v rd,x=dz v rd)∧∀rs',IC V o tm rs'=some x:=by
 have hx:∀rs',IC V o tm rs'=IC V o tm rs:=by
  intro rs'
  rw [TL hb,TL hb]
  unfold Bf
  unfold fE at hb
  cases ho:o.op<;>rw [ho] at hb<;>first|(cases hb;done)|skip
  all_goals simp only [bC,ho]
 refine ⟨?_,fun rs'=>by rw [hx rs'];exact h⟩
 rw [TL hb] at h
 unfold Bf at h
 unfold fE at hb
 cases ho:o.op<;>rw [ho] at hb<;>first|(cases hb;done)|skip
 all_goals simp only [bC,ho] at h
 ·cases h;exact ⟨_,_,rfl⟩
 ·split at h
  ·rename_i z t _
   cases t with
   |true=>cases h;exact ⟨_,_,rfl⟩
   |false=>cases h;exact ⟨_,_,rfl⟩
  ·cases h
 ·obtain ⟨v,h⟩:=GI (f:=fun c=>Vw _ _ _ _ c) (f0:=Vw _ _ _ _ some) (XZ _ some) h
  cases h;exact ⟨_,_,rfl⟩
 ·obtain ⟨v,h⟩:=GI (f:=fun c=>ain _ _ c) (f0:=ain _ _ some) (aey _ some) h
  cases h;exact ⟨_,_,rfl⟩
 ·obtain ⟨v,h⟩:=GI (f:=fun c=>KT _ _ _ c) (f0:=KT _ _ _ some) (TN _ some) h
  cases h;exact ⟨_,_,rfl⟩
 ·rename_i y i
  cases hd:(RO (bf tm y) i).alU<;>rw [hd] at h
  ·cases h;exact ⟨_,_,rfl⟩
  ·cases h
theorem ak2{o:Oper}(hb:fE o=true){s s1:St}{tr:Tr}(h:Bc V o s s1 tr):∃v,s1=lZ o.dst v s∧∀s',aZ s'.tmps o=aZ s.tmps o→Bc V o s' (lZ o.dst v s') tr:=by
 obtain ⟨x,hx,hal,rfl,rfl⟩:=h
 obtain ⟨⟨v,rd,rfl⟩,hrs⟩:=X0 hb hx
 refine ⟨v,lK _ _ _ _,fun s' hs'=>⟨dz v rd,jZ (hrs s'.roots) hs' (fun _ _=>rfl) (fun _ _=>rfl) rfl,by simp [ku,allowed,dz,LP],(lK _ _ _ _).symm,by simp only [kI,hs']⟩⟩
theorem afM{o:Oper}(hb:fE o=true){s s1:St}{tr:Tr}(h:Stp V ops o s s1 tr):∃v,s1=lZ o.dst v s∧∀s',aZ s'.tmps o=aZ s.tmps o→Zx ops o s s'→Stp V ops o s' (lZ o.dst v s') tr:=by
 rcases p8 h with ⟨r,g⟩|⟨rfl,rfl,g⟩
 ·obtain ⟨v,h1,h2⟩:=ak2 hb r
  exact ⟨v,h1,fun s' hs' hg=>g s' _ _ hg (h2 s' hs')⟩
 ·exact ⟨.tnil,rfl,fun s' _ hg=>g s' hg⟩
def aex(u:U)(rs:RF):RF:=fun q=>match dn q u with
 |some y=>y
 |none=>rs q
theorem agj{o:Oper}{s s1:St}{tr:Tr}(hq:tr.qt=true)(h:Stp V ops o s s1 tr):∃u:U,s1=⟨s.tmps,aex u s.roots,s.pins⟩∧o.dst=none∧∀s',aZ s'.tmps o=aZ s.tmps o→s'.roots=s.roots→Zx ops o s s'→Stp V ops o s' ⟨s'.tmps,aex u s'.roots,s'.pins⟩ tr:=by
 rcases p8 h with ⟨r,g⟩|⟨rfl,rfl,g⟩
 ·obtain ⟨x,hx,hal,rfl,rfl⟩:=r
  have hq:ahH o.dst x=true:=hq
  simp only [ahH,Bool.and_eq_true,Bool.not_eq_true',Option.isNone_iff_eq_none,List.isEmpty_iff] at hq
  obtain ⟨⟨⟨⟨⟨h1,h2⟩,h3⟩,h4⟩,h5⟩,h6⟩:=hq
  have haft:∀s':St,s'.after o.dst x=⟨s'.tmps,aex x.u s'.roots,s'.pins⟩:=by
   intro s'
   refine St.ext' (fun t=>?_) (fun q=>?_) (fun n=>?_)
   ·simp only [St.after,h1,h2,h3,h4,dK,mV,cond_false,AV.kills]
   ·simp only [St.after,aex,h3,Bool.false_and,cond_false];rfl
   ·simp only [St.after,h5,List.any_nil,Bool.or_false]
  refine ⟨x.u,haft s,h1,fun s' ho hr hg=>?_⟩
  refine g s' _ _ hg ⟨x,?_,by simp [ku,allowed,h3,h4,h6],(haft s').symm,by simp only [kI,ho]⟩
  exact jZ hx ho (fun q _=>by rw [hr]) (fun q _=>by rw [hr]) (by rw [hr])
 ·cases hq
theorem zZ{s:St}{d:Option Nat}{v:AV}{t:Nat}(h:d≠some t):(lZ d v s).tmps t=s.tmps t:=by
 simp only [lZ]
 cases d with
 |none=>rfl
 |some a=>
  have:t≠a:=by rintro rfl;exact h rfl
  simp only [gJ this,cond_false]
theorem D8{s:St}{d:Option Nat}{v:AV}{o:Oper}(h:∀t,d=some t→.tmp t ∉ o.op.operands.toList):aZ (lZ d v s).tmps o=aZ s.tmps o:=by
 have key:∀y∈o.op.operands.toList,bf (lZ d v s).tmps y=bf s.tmps y:=fun y hy=>by
  cases y with
  |tmp t=>
   simp only [bf]
   exact zZ fun hd=>h t hd hy
  |_=>rfl
 unfold aZ
 split
 ·rename_i y i hop
  rw [key y (by rw [hop];simp [Op.operands])]
 ·exact List.map_congr_left key
theorem aq6{oi oj:Oper}{s s1 s2:St}{tri trj:Tr}(hi:Stp V ops oi s s1 tri)(hj:Stp V ops oj s1 s2 trj)(hq:(fE oi=true∧trj.qt=true)∨(tri.qt=true∧fE oj=true))
  (hoj:∀t,oi.dst=some t→.tmp t ∉ oj.op.operands.toList) (hoi:∀t,oj.dst=some t→.tmp t ∉ oi.op.operands.toList) (hgj:nV ops oi.dst oj) (hgi:nV ops oj.dst oi) :
  ∃s1',Stp V ops oj s s1' trj∧Stp V ops oi s1' s2 tri:=by
 rcases hq with ⟨hb,hq⟩|⟨hq,hb⟩
 ·obtain ⟨v,rfl,g1⟩:=afM hb hi
  obtain ⟨u,rfl,hd,g2⟩:=agj hq hj
  refine ⟨_,g2 s (D8 hoj).symm rfl (fun j want t hg ht b h=>?_),?_⟩
  ·rw [zZ (hgj j want t hg ht)] at h;exact h
  ·exact g1 ⟨s.tmps,aex u s.roots,s.pins⟩ rfl (fun j want t hg ht b h=>h)
 ·obtain ⟨u,rfl,hd,g1⟩:=agj hq hi
  obtain ⟨v,rfl,g2⟩:=afM hb hj
  refine ⟨_,g2 s rfl (fun j want t hg ht b h=>h),?_⟩
  exact g1 (lZ oj.dst v s) (D8 hoi) rfl (fun j want t hg ht b h=>by rw [zZ (hgi j want t hg ht)];exact h)
theorem aaF{ks:List Kill}:∀{a:AV},a.still ks=true→AV.kills ks a=a:=by
 intro a
 induction a with
 |pair a b iha ihb=>intro h;simp only [AV.still,Bool.and_eq_true] at h;rw [j6,iha h.1,ihb h.2]
 |tcons a b iha ihb=>intro h;simp only [AV.still,Bool.and_eq_true] at h;rw [kL,iha h.1,ihb h.2]
 |_=>
  intro h
  simp only [AV.still,Bool.not_eq_true'] at h
  rw [fK _ _ rfl,h];rfl
theorem aib{ks:List Kill}:∀{l:List AV},vD ks l=true→∀a∈l,a.still ks=true:=by
 intro l
 induction l with
 |nil=>intro _ a ha;cases ha
 |cons b l ih=>
  intro h a ha
  simp only [vD,Bool.and_eq_true] at h
  rcases List.mem_cons.1 ha with rfl|ha
  ·exact h.1
  ·exact ih h.2 a ha
theorem agA:∀{l:List AV},qV l=true→∀a∈l,a.alive=true:=by
 intro l
 induction l with
 |nil=>intro _ a ha;cases ha
 |cons b l ih=>
  intro h a ha
  simp only [qV,Bool.and_eq_true] at h
  rcases List.mem_cons.1 ha with rfl|ha
  ·exact h.1
  ·exact ih h.2 a ha
theorem abZ{o:Oper}(hb:fE o=true){s s1:St}{tr:Tr}{ks:List Kill}(L:Prop)(hl:L→tr.live=true)(hst:vD ks tr.av=true)(h:Stp V ops o s s1 tr) :
  ∃v,s1=lZ o.dst v s∧AV.kills ks v=v∧∀s',((aZ s.tmps o).map (AV.kills ks)=aZ s.tmps o→(L→qV (aZ s.tmps o)=true)→aZ s'.tmps o=aZ s.tmps o)→Zx ops o s s'→Stp V ops o s' (lZ o.dst v s') tr:=by
 rcases p8 h with ⟨r,g⟩|⟨rfl,rfl,g⟩
 ·obtain ⟨x,hx,hal,rfl,rfl⟩:=r
  obtain ⟨⟨v,rd,rfl⟩,hrs⟩:=X0 hb hx
  have hmem:=aib hst
  refine ⟨v,lK _ _ _ _,aaF (hmem v (by simp [kI,dz])),fun s' hs' hg=>?_⟩
  have hop:aZ s'.tmps o=aZ s.tmps o:=hs' ((List.map_congr_left fun a ha=>aaF (hmem a (by simp only [kI,List.mem_cons];exact .inr ha))).trans (List.map_id _)) fun hL=>hl hL
  exact g s' _ _ hg ⟨dz v rd,jZ (hrs s'.roots) hop (fun _ _=>rfl) (fun _ _=>rfl) rfl,by simp [ku,allowed,dz,LP],(lK _ _ _ _).symm,by simp only [kI,hop]⟩
 ·exact ⟨.tnil,rfl,j5 _ _ rfl rfl,fun s' _ hg=>g s' hg⟩
theorem agi{s:St}{d d2:Option Nat}{x:Del}{v:AV}(hr:x.ren=none)(hv:AV.kills (dK (d2.getD 0) x) v=v)(hdst:∀t,d=some t→d2≠some t) :
  (lZ d v s).after d2 x=lZ d v (s.after d2 x):=by
 refine St.ext' (fun t=>?_) (fun q=>rfl) (fun n=>rfl)
 by_cases hti:d=some t
 ·have htj:=hdst t hti
  have h1:(lZ d v (s.after d2 x)).tmps t=v:=by simp only [lZ,hti,beq_iff.2 rfl,cond_true]
  have h2:(lZ d v s).tmps t=v:=by simp only [lZ,hti,beq_iff.2 rfl,cond_true]
  rw [h1]
  simp only [St.after,hr,mV,h2]
  cases hd:d2 with
  |none=>simp only [cond_false];rw [hd] at hv;exact hv
  |some b=>
   have:t≠b:=by rintro rfl;exact htj hd
   simp only [gJ this,cond_false];rw [hd] at hv;exact hv
 ·rw [zZ hti]
  simp only [St.after,zZ hti]
theorem WI{s:St}{d:Option Nat}{o:Oper}{v:AV}(hdst:∀t,d=some t→o.dst≠some t):gT o (lZ d v s)=lZ d v (gT o s):=by
 refine St.ext' (fun t=>?_) (fun q=>rfl) (fun n=>rfl)
 simp only [gT,lZ]
 cases hd:d<;>cases hd2:o.dst<;>simp only [cond_false]
 rename_i a b
 by_cases ha:t=a
 ·have:t≠b:=by rintro rfl;exact hdst t (by rw [hd,ha]) hd2
  simp only [gJ this,cond_false]
 ·simp only [gJ ha,cond_false]
theorem avN{oi oj:Oper}{s s1 s2:St}{tri trj:Tr}(hi:Stp V ops oi s s1 tri)(hj:Stp V ops oj s1 s2 trj)(hb:fE oi=true)(hbar:trj.rn=false)(hst:vD trj.ks tri.av=true)
  (hdst:∀t,oi.dst=some t→oj.dst≠some t) (hoj:∀t,oi.dst=some t→.tmp t ∉ oj.op.operands.toList) (hoi:∀t,oj.dst=some t→.tmp t ∉ oi.op.operands.toList) (hgj:nV ops oi.dst oj) (hgi:nV ops oj.dst oi) :
  ∃s1',Stp V ops oj s s1' trj∧Stp V ops oi s1' s2 tri:=by
 obtain ⟨v,rfl,hv,g1⟩:=abZ hb False (fun h=>h.elim) hst hi
 have hback:Zx ops oj (lZ oi.dst v s) s:=fun j want t hg ht b h=>by
  rw [zZ (hgj j want t hg ht)] at h;exact h
 have hopj:aZ (lZ oi.dst v s).tmps oj=aZ s.tmps oj:=D8 hoj
 rcases p8 hj with ⟨rj,gj⟩|⟨rfl,rfl,gj⟩
 ·obtain ⟨x,hx,hal,rfl,rfl⟩:=rj
  have kj:x.ren=none:=Option.isNone_iff_eq_none.1 (by have h:x.ren.isSome=false:=hbar;simpa using h)
  have hv:AV.kills (dK (oj.dst.getD 0) x) v=v:=hv
  have hx':IC V oj s.tmps s.roots=some x:=jZ hx hopj.symm (fun _ _=>rfl) (fun _ _=>rfl) rfl
  have hslot:∀t,oj.dst≠some t→(s.after oj.dst x).tmps t=AV.kills (dK (oj.dst.getD 0) x) (s.tmps t):=by
   intro t ht
   simp only [St.after,kj,mV]
   cases hd:oj.dst with
   |none=>rfl
   |some d=>
    have:t≠d:=by rintro rfl;exact ht hd
    simp only [gJ this,cond_false]
  refine ⟨s.after oj.dst x,gj s _ _ hback ⟨x,hx',hal,rfl,by simp only [kI,hopj]⟩,?_⟩
  have hfin:=agi (s:=s) kj hv hdst
  rw [hfin]
  refine g1 _ (fun hk _=>by rw [AP kj oi hoi];exact hk) (fun j want t hg ht b h=>?_)
  ·exact (D7 kj fun a ha=>by rintro rfl;exact hgi j want _ hg ht ha).2 h
 ·refine ⟨gT oj s,gj s hback,?_⟩
  have hfin:=WI (s:=s) (v:=v) hdst
  rw [hfin]
  refine g1 _ (fun _ _=>sP hoi) (fun j want t hg ht b h=>?_)
  rw [BJ (fun a ha=>by rintro rfl;exact hgi j want _ hg ht ha)];exact h
theorem as5{oi oj:Oper}{s s1 s2:St}{tri trj:Tr}(hi:Stp V ops oi s s1 tri)(hj:Stp V ops oj s1 s2 trj)(hb:fE oj=true)(hbar:tri.rn=false)(hlive:trj.live=true)(hst:vD tri.ks trj.av=true)
  (hdst:∀t,oi.dst=some t→oj.dst≠some t) (hoj:∀t,oi.dst=some t→.tmp t ∉ oj.op.operands.toList) (hoi:∀t,oj.dst=some t→.tmp t ∉ oi.op.operands.toList) (hgj:nV ops oi.dst oj) (hgi:nV ops oj.dst oi) :
  ∃s1',Stp V ops oj s s1' trj∧Stp V ops oi s1' s2 tri:=by
 have hdst':∀t,oj.dst=some t→oi.dst≠some t:=fun t h1 h2=>hdst t h2 h1
 obtain ⟨v,rfl,hv,g1⟩:=abZ hb True (fun _=>hlive) hst hj
 rcases p8 hi with ⟨ri,gi⟩|⟨rfl,rfl,gi⟩
 ·obtain ⟨x,hx,hal,rfl,rfl⟩:=ri
  have ki:x.ren=none:=Option.isNone_iff_eq_none.1 (by have h:x.ren.isSome=false:=hbar;simpa using h)
  have hv:AV.kills (dK (oi.dst.getD 0) x) v=v:=hv
  refine ⟨lZ oj.dst v s,g1 s (fun _ ha=>?_) (fun j want t hg ht b h=>?_),?_⟩
  ·have ha:=ha trivial
   rw [AP ki oj hoj] at ha ⊢
   exact (Om _ _ ha).symm
  ·exact (D7 ki fun a ha=>by rintro rfl;exact hgj j want _ hg ht ha).1 h
  ·rw [←agi ki hv hdst']
   have hop:aZ (lZ oj.dst v s).tmps oi=aZ s.tmps oi:=D8 hoi
   exact gi _ _ _ (fun j want t hg ht b h=>by rw [zZ (hgi j want t hg ht)];exact h) ⟨x,jZ hx hop (fun _ _=>rfl) (fun _ _=>rfl) rfl,hal,rfl,by simp only [kI,hop]⟩
 ·refine ⟨lZ oj.dst v s,g1 s (fun _ _=>(sP hoj).symm) (fun j want t hg ht b h=>?_),?_⟩
  ·rw [BJ (fun a ha=>by rintro rfl;exact hgj j want _ hg ht ha)] at h;exact h
  ·rw [←WI hdst']
   exact gi _ (fun j want t hg ht b h=>by rw [zZ (hgi j want t hg ht)];exact h)
theorem DY(ks:List Kill):∀{a:AV},a.names=[]→AV.kills ks a=a:=by
 intro a
 induction a with
 |pair a b iha ihb=>intro h;simp only [AV.names,List.append_eq_nil_iff] at h;rw [j6,iha h.1,ihb h.2]
 |tcons a b iha ihb=>intro h;simp only [AV.names,List.append_eq_nil_iff] at h;rw [kL,iha h.1,ihb h.2]
 |_=>intro h;exact j5 _ _ rfl h
theorem rH{x:Option (ay×ay)}:∀{a:AV},a.names=[]→mV x a=a:=by
 intro a
 cases x with
 |none=>intro _;rfl
 |some y=>
  simp only [mV]
  induction a with
  |pair a b iha ihb=>intro h;simp only [AV.names,List.append_eq_nil_iff] at h;rw [AV.ren,iha h.1,ihb h.2]
  |tcons a b iha ihb=>intro h;simp only [AV.names,List.append_eq_nil_iff] at h;rw [AV.ren,iha h.1,ihb h.2]
  |ref=>intro h;cases h
  |slc=>intro h;cases h
  |_=>intro _;rfl
theorem aac{x:Option (ay×ay)}{ks:List Kill}:∀{a:AV},(mV x (AV.kills ks a)).names=[]→(mV x (AV.kills ks a)).alive=true→mV x (AV.kills ks a)=a:=by
 have hren:∀{a:AV},(mV x a).names=[]→a.names=[]:=by
  intro a
  cases x with
  |none=>exact id
  |some y=>
   simp only [mV]
   induction a with
   |pair a b iha ihb=>intro h;simp only [AV.ren,AV.names,List.append_eq_nil_iff] at h ⊢;exact ⟨iha h.1,ihb h.2⟩
   |tcons a b iha ihb=>intro h;simp only [AV.ren,AV.names,List.append_eq_nil_iff] at h ⊢;exact ⟨iha h.1,ihb h.2⟩
   |ref r p=>intro h;simp only [AV.ren] at h;cases hc:req y.1 r<;>rw [hc] at h<;>cases h
   |slc r p lo n=>intro h;simp only [AV.ren] at h;cases hc:req y.1 r<;>rw [hc] at h<;>cases h
   |_=>intro h;exact h
 intro a h1 h2
 have h3:=hren h1
 rw [rH h3] at h2 ⊢
 exact Pf _ _ h2
theorem aqG(x:Option (ay×ay)):∀(i:Nat)(a:AV),RO (mV x a) i=mV x (RO a i):=by
 cases x with
 |none=>intro i a;rfl
 |some y=>
  simp only [mV]
  intro i
  induction i with
  |zero=>intro a;cases a<;>first|rfl|(simp only [AV.ren];cases hc:req y.1 _<;>rfl)
  |succ i ih=>intro a;cases a<;>first|rfl|(simp only [AV.ren,RO];exact ih _)|(simp only [AV.ren];cases hc:req y.1 _<;>rfl)
theorem aoK(x:Option (ay×ay))(v:Value):mV x (DK v)=DK v:=by
 refine rH ?_
 unfold DK
 split<;>rfl
theorem ZI{s:St}{d:Option Nat}{x:Del}(y:Operand)(hy:∀t,d=some t→y≠.tmp t):bf (s.after d x).tmps y=mV x.ren (AV.kills (dK (d.getD 0) x) (bf s.tmps y)):=by
 cases y with
 |tmp t=>
  simp only [bf,St.after]
  cases d with
  |none=>rfl
  |some d=>
   have:t≠d:=by rintro rfl;exact hy t rfl rfl
   simp only [gJ this,cond_false]
 |const v=>simp only [bf];rw [ZX,aoK]
 |func f=>simp only [bf];rw [j5 _ _ rfl rfl,rH rfl]
 |global g=>simp only [bf];rw [rA,rH rfl]
theorem Pv{s:St}{d:Option Nat}{x:Del}(o:Oper)(ho:∀t,d=some t→.tmp t ∉ o.op.operands.toList):aZ (s.after d x).tmps o=(aZ s.tmps o).map fun a=>mV x.ren (AV.kills (dK (d.getD 0) x) a):=by
 unfold aZ
 split
 ·rename_i y i hop
  rw [ZI y fun t ht he=>ho t ht (by rw [hop,he];simp [Op.operands]),aqG,adv]
  rfl
 ·rw [List.map_map]
  exact List.map_congr_left fun y hy=>ZI y fun t ht he=>ho t ht (he ▸ hy)
theorem Wy:∀{l:List AV},bU l=[]→∀a∈l,a.names=[]:=by
 intro l
 induction l with
 |nil=>intro _ a ha;cases ha
 |cons b l ih=>
  intro h a ha
  simp only [bU,List.append_eq_nil_iff] at h
  rcases List.mem_cons.1 ha with rfl|ha
  ·exact h.1
  ·exact ih h.2 a ha
theorem acR{s:St}{d:Option Nat}{x:Del}{t:Nat}(h:∀a,d=some a→t≠a){b:Option Bool}:gv ((s.after d x).tmps t)=some b↔gv (s.tmps t)=some b:=by
 have he:(s.after d x).tmps t=mV x.ren (AV.kills (dK (d.getD 0) x) (s.tmps t)):=by
  simp only [St.after]
  cases d with
  |none=>rfl
  |some a=>simp only [gJ (h a rfl),cond_false]
 rw [he]
 have hgn:∀a:AV,gv a=some b→a.names=[]∧a.alive=true:=by
  intro a hk
  unfold gv at hk
  split at hk<;>first|exact ⟨rfl,rfl⟩|cases hk
 constructor
 ·intro hk
  rw [aac (hgn _ hk).1 (hgn _ hk).2] at hk;exact hk
 ·intro hk
  rw [DY _ (hgn _ hk).1,rH (hgn _ hk).1];exact hk
theorem TJ{o:Oper}(hb:rz o=true){tm:TF}{rs:RF}{x:Del}(h:IC V o tm rs=some x):rs dF=none∧dn dF x.u=none∧Bf V o tm rs=some x:=by
 unfold rz at hb
 cases ho:o.op<;>rw [ho] at hb<;>first|(cases hb;done)|skip
 unfold IC zI pV KQ at h
 simp only [ho,cond_false] at h
 cases hp:rs dF with
 |some z=>rw [hp] at h;cases h
 |none=>
  rw [hp] at h
  refine ⟨rfl,?_⟩
  simp only [Ou] at h
  cases hd:Bf V o tm rs with
  |none=>rw [hd] at h;cases h
  |some y=>
   rw [hd] at h
   simp only [Option.bind_some] at h
   cases hl:dn dF y.u with
   |none=>rw [hl] at h;cases h;exact ⟨hl,rfl⟩
   |some z=>rw [hl] at h;cases h
theorem aiC{o:Oper}(hb:rz o=true){tm:TF}{rs:RF}{x:Del}(h:Bf V o tm rs=some x):x.make=false:=by
 unfold Bf at h
 unfold rz at hb
 cases ho:o.op<;>rw [ho] at hb<;>first|(cases hb;done)|skip
 simp only [bC,ho] at h
 split at h
 ·revert h
  cases Nat.beq _ (o.dst.getD 0)&&Nat.beq _ 0
  ·simp only [cond_false]
   intro h
   split at h
   ·cases h
   ·revert h
    cases (Root.mem _||aqE V _)<;>simp only [cond_true,cond_false]<;>intro h<;>cases h<;>rfl
  ·simp only [cond_true];intro h;cases h;rfl
 ·cases h;rfl
theorem akT{s:St}{d:Option Nat}{x:Del}(h:dn dF x.u=none)(hm:x.make=false):(s.after d x).roots dF=s.roots dF:=by
 simp only [St.after,h,hm,Bool.false_and,cond_false]
theorem aoc{o:Oper}(hb:fE o=true∨rz o=true){s s1:St}{tr:Tr}(hn:bU tr.av=[])(h:Bc V o s s1 tr) :
  ∃v,s1=lZ o.dst v s∧v.names=[]∧(fE o=true∨s.roots dF=none)∧(∀a∈aZ s.tmps o,a.names=[])∧∀s',aZ s'.tmps o=aZ s.tmps o→(fE o=true∨s'.roots dF=none)→Bc V o s' (lZ o.dst v s') tr:=by
 rcases hb with hb|hb
 ·obtain ⟨x,hx,hal,rfl,rfl⟩:=h
  obtain ⟨⟨v,rd,rfl⟩,hrs⟩:=X0 hb hx
  have hmem:=Wy hn
  exact ⟨v,lK _ _ _ _,hmem v (by simp [kI,dz]),.inl hb,fun a ha=>hmem a (by simp only [kI,List.mem_cons];exact .inr ha),
   fun s' hs' _=>⟨dz v rd,jZ (hrs s'.roots) hs' (fun _ _=>rfl) (fun _ _=>rfl) rfl,by simp [ku,allowed,dz,LP],(lK _ _ _ _).symm,by simp only [kI,hs']⟩⟩
 ·obtain ⟨x,hx,hal,rfl,rfl⟩:=h
  obtain ⟨h1,h2,h3⟩:=TJ hb hx
  have hmem:=Wy hn
  have hop:∀a∈aZ s.tmps o,a.names=[]:=fun a ha=>hmem a (by simp only [kI,List.mem_cons];exact .inr ha)
  unfold rz at hb
  cases ho:o.op<;>rw [ho] at hb<;>first|(cases hb;done)|skip
  rename_i y
  have hy:(bf s.tmps y).names=[]:=hop _ (by simp [aZ,ho,Op.operands])
  have key:∀s':St,aZ s'.tmps o=aZ s.tmps o→Bf V o s'.tmps s'.roots=some (dz (bf s.tmps y) (bf s.tmps y).names):=by
   intro s' hs'
   have he:bf s'.tmps y=bf s.tmps y:=by
    simp only [aZ,ho,Op.operands] at hs'
    simpa using hs'
   unfold Bf
   simp only [bC,ho,he]
   split
   ·rename_i hh;rw [hh] at hy;cases hy
   ·rfl
  have hx':=key s rfl
  rw [h3] at hx'
  obtain rfl:=Option.some.inj hx'
  refine ⟨_,lK _ _ _ _,hy,.inr h1,hop,fun s' hs' hp=>?_⟩
  have hp:s'.roots dF=none:=by
   rcases hp with hp|hp
   ·unfold fE at hp;rw [ho] at hp;cases hp
   ·exact hp
  refine ⟨dz (bf s.tmps y) (bf s.tmps y).names,?_,by simp [ku,allowed,dz,LP],(lK _ _ _ _).symm,by simp only [kI,hs']⟩
  unfold IC zI pV KQ
  simp only [ho,cond_false,hp]
  simp only [Ou,key s' hs',Option.bind_some]
  rfl
theorem ai0{o:Oper}(hb:fE o=true∨rz o=true){s s1:St}{tr:Tr}(hn:bU tr.av=[])(h:Stp V ops o s s1 tr) :
  ∃v,s1=lZ o.dst v s∧v.names=[]∧∀s',((∀a∈aZ s.tmps o,a.names=[])→(tr.live=true→qV (aZ s.tmps o)=true)→aZ s'.tmps o=aZ s.tmps o)→((fE o=true∨s.roots dF=none)→(fE o=true∨s'.roots dF=none))→Zx ops o s s'→Stp V ops o s' (lZ o.dst v s') tr:=by
 rcases p8 h with ⟨r,g⟩|⟨rfl,rfl,g⟩
 ·have hlive:tr.live=true→qV (aZ s.tmps o)=true:=by
   obtain ⟨x,_,_,_,rfl⟩:=r
   exact id
  obtain ⟨v,h1,h2,h3,h4,h5⟩:=aoc hb hn r
  exact ⟨v,h1,h2,fun s' ha hp hg=>g s' _ _ hg (h5 s' (ha h4 hlive) (hp h3))⟩
 ·exact ⟨.tnil,rfl,rfl,fun s' _ _ hg=>g s' hg⟩
theorem adD{s:St}{d d2:Option Nat}{x:Del}{v:AV}(hv:v.names=[])(hdst:∀t,d=some t→d2≠some t) :
  (lZ d v s).after d2 x=lZ d v (s.after d2 x):=by
 refine St.ext' (fun t=>?_) (fun q=>rfl) (fun n=>rfl)
 by_cases hti:d=some t
 ·have htj:=hdst t hti
  have h1:(lZ d v (s.after d2 x)).tmps t=v:=by simp only [lZ,hti,beq_iff.2 rfl,cond_true]
  have h2:(lZ d v s).tmps t=v:=by simp only [lZ,hti,beq_iff.2 rfl,cond_true]
  rw [h1]
  simp only [St.after,h2]
  cases hd:d2 with
  |none=>simp only [cond_false];rw [DY _ hv,rH hv]
  |some b=>
   have:t≠b:=by rintro rfl;exact htj hd
   simp only [gJ this,cond_false];rw [DY _ hv,rH hv]
 ·rw [zZ hti]
  simp only [St.after,zZ hti]
theorem ZJ{o o2:Oper}{tr:Tr}(h:Oz o o2 tr=true):(fE o=true∨(rz o=true∧rz o2=true))∧bU tr.av=[]:=by
 simp only [Oz,Bool.and_eq_true,Bool.or_eq_true,List.isEmpty_iff] at h
 exact h
theorem avO{oi oj:Oper}{s s1 s2:St}{tri trj:Tr}(hi:Stp V ops oi s s1 tri)(hj:Stp V ops oj s1 s2 trj)(hf:Oz oi oj tri=true)
  (hdst:∀t,oi.dst=some t→oj.dst≠some t) (hoj:∀t,oi.dst=some t→.tmp t ∉ oj.op.operands.toList) (hoi:∀t,oj.dst=some t→.tmp t ∉ oi.op.operands.toList) (hgj:nV ops oi.dst oj) (hgi:nV ops oj.dst oi) :
  ∃s1',Stp V ops oj s s1' trj∧Stp V ops oi s1' s2 tri:=by
 obtain ⟨hb,hn⟩:=ZJ hf
 obtain ⟨v,rfl,hv,g1⟩:=ai0 (hb.imp id (·.1)) hn hi
 have hback:Zx ops oj (lZ oi.dst v s) s:=fun j want t hg ht b h=>by
  rw [zZ (hgj j want t hg ht)] at h;exact h
 have hopj:aZ (lZ oi.dst v s).tmps oj=aZ s.tmps oj:=D8 hoj
 rcases p8 hj with ⟨rj,gj⟩|⟨rfl,rfl,gj⟩
 ·obtain ⟨x,hx,hal,rfl,rfl⟩:=rj
  have hx':IC V oj s.tmps s.roots=some x:=jZ hx hopj.symm (fun _ _=>rfl) (fun _ _=>rfl) rfl
  refine ⟨s.after oj.dst x,gj s _ _ hback ⟨x,hx',hal,rfl,by simp only [kI,hopj]⟩,?_⟩
  rw [adD hv hdst]
  refine g1 _ (fun hk _=>?_) (fun hp=>?_) (fun j want t hg ht b h=>?_)
  ·rw [Pv oi hoi]
   exact (List.map_congr_left fun a ha=>by rw [DY _ (hk a ha),rH (hk a ha)]).trans (List.map_id' _)
  ·rcases hb with hb|⟨_,hb⟩
   ·exact .inl hb
   ·refine hp.imp id fun hp=>?_
    obtain ⟨_,h2,h3⟩:=TJ hb hx
    rw [akT h2 (aiC hb h3)];exact hp
  ·exact (acR fun a ha=>by rintro rfl;exact hgi j want _ hg ht ha).2 h
 ·refine ⟨gT oj s,gj s hback,?_⟩
  rw [WI hdst]
  refine g1 _ (fun _ _=>sP hoi) (fun hp=>hp) (fun j want t hg ht b h=>?_)
  rw [BJ (fun a ha=>by rintro rfl;exact hgi j want _ hg ht ha)];exact h
theorem as6{oi oj:Oper}{s s1 s2:St}{tri trj:Tr}(hi:Stp V ops oi s s1 tri)(hj:Stp V ops oj s1 s2 trj)(hlive:trj.live=true)(hf:Oz oj oi trj=true)
  (hdst:∀t,oi.dst=some t→oj.dst≠some t) (hoj:∀t,oi.dst=some t→.tmp t ∉ oj.op.operands.toList) (hoi:∀t,oj.dst=some t→.tmp t ∉ oi.op.operands.toList) (hgj:nV ops oi.dst oj) (hgi:nV ops oj.dst oi) :
  ∃s1',Stp V ops oj s s1' trj∧Stp V ops oi s1' s2 tri:=by
 obtain ⟨hb,hn⟩:=ZJ hf
 have hdst':∀t,oj.dst=some t→oi.dst≠some t:=fun t h1 h2=>hdst t h2 h1
 obtain ⟨v,rfl,hv,g1⟩:=ai0 (hb.imp id (·.1)) hn hj
 rcases p8 hi with ⟨ri,gi⟩|⟨rfl,rfl,gi⟩
 ·obtain ⟨x,hx,hal,rfl,rfl⟩:=ri
  refine ⟨lZ oj.dst v s,g1 s (fun hk ha=>?_) (fun hp=>?_) (fun j want t hg ht b h=>?_),?_⟩
  ·have ha:=ha hlive
   rw [Pv oj hoj] at hk ha ⊢
   refine ((List.map_congr_left fun a hm=>?_).trans (List.map_id' _)).symm
   exact aac (hk _ (List.mem_map_of_mem hm)) (agA ha _ (List.mem_map_of_mem hm))
  ·rcases hb with hb|⟨_,hb⟩
   ·exact .inl hb
   ·exact .inr (TJ hb hx).1
  ·exact (acR fun a ha=>by rintro rfl;exact hgj j want _ hg ht ha).1 h
  ·rw [←adD hv hdst']
   have hop:aZ (lZ oj.dst v s).tmps oi=aZ s.tmps oi:=D8 hoi
   exact gi _ _ _ (fun j want t hg ht b h=>by rw [zZ (hgi j want t hg ht)];exact h) ⟨x,jZ hx hop (fun _ _=>rfl) (fun _ _=>rfl) rfl,hal,rfl,by simp only [kI,hop]⟩
 ·refine ⟨lZ oj.dst v s,g1 s (fun _ _=>(sP hoj).symm) (fun hp=>hp) (fun j want t hg ht b h=>?_),?_⟩
  ·rw [BJ (fun a ha=>by rintro rfl;exact hgj j want _ hg ht ha)] at h;exact h
  ·rw [←WI hdst']
   exact gi _ (fun j want t hg ht b h=>by rw [zZ (hgi j want t hg ht)];exact h)
end
end Go.Abs
namespace Go.Abs
section
variable {V : Env} {ops : Array Oper}
structure amL(ops:Array Oper)(ok oi:Oper)(trk tri:Tr):Prop where
 how:(clash trk tri=false∧tri.live=true)∨(fE ok=true∧tri.qt=true)∨(trk.qt=true∧fE oi=true)∨(fE ok=true∧tri.rn=false∧vD tri.ks trk.av=true)∨(fE oi=true∧trk.rn=false∧tri.live=true∧vD trk.ks tri.av=true)∨Oz ok oi trk=true∨(tri.live=true∧Oz oi ok tri=true)
 dst:∀t,ok.dst=some t→oi.dst≠some t
 opj:∀t,ok.dst=some t→.tmp t ∉ oi.op.operands.toList
 opi:∀t,oi.dst=some t→.tmp t ∉ ok.op.operands.toList
 gj:nV ops ok.dst oi
 gi:nV ops oi.dst ok
theorem bubble{i:Nat}{tri:Tr}{post:List (Nat×Tr)}{s':St}:∀(pre:List (Nat×Tr)){s:St},(∀x∈pre,∀ok oi,ops[x.1]?=some ok→ops[i]?=some oi→amL ops ok oi x.2 tri)→abO V ops (pre++(i,tri)::post) s s'→abO V ops ((i,tri)::(pre++post)) s s':=by
 intro pre
 induction pre with
 |nil=>intro s _ h;exact h
 |cons x pre ih=>
  intro s hf h
  obtain ⟨k,trk⟩:=x
  rw [List.cons_append] at h
  cases h with
  |cons hk h1 ht=>
   have h2:=ih (fun x hx=>hf x (by simp [hx])) ht
   cases h2 with
   |cons hi h3 ht2=>
    have F:=hf (k,trk) (by simp) _ _ hk hi
    obtain ⟨s1',a,b⟩:∃s1',Stp V ops _ _ s1' _∧Stp V ops _ s1' _ _:=by
     rcases F.how with ⟨c1,c2⟩|hq|hq|⟨c1,c2,c3⟩|⟨c1,c2,c3,c4⟩|c1|⟨c1,c2⟩
     ·exact aq7 h1 h3 c1 c2 F.dst F.opj F.opi F.gj F.gi
     ·exact aq6 h1 h3 (.inl hq) F.opj F.opi F.gj F.gi
     ·exact aq6 h1 h3 (.inr hq) F.opj F.opi F.gj F.gi
     ·exact avN h1 h3 c1 c2 c3 F.dst F.opj F.opi F.gj F.gi
     ·exact as5 h1 h3 c1 c2 c3 c4 F.dst F.opj F.opi F.gj F.gi
     ·exact avO h1 h3 c1 F.dst F.opj F.opi F.gj F.gi
     ·exact as6 h1 h3 c1 c2 F.dst F.opj F.opi F.gj F.gi
    exact .cons hi a (.cons hk b ht2)
theorem aiR{R:Type}{r:R}{c:St→List Tr→Option R}:∀(l:List Oper)(k:Nat),ops.toList.drop k=l→∀{s:St}{accs:List Tr},Ya V ops.toList l s accs c=some r →
  ∃s' trs,trs.length=l.length∧c s' (trs.reverse++accs)=some r∧abO V ops ((List.range' k l.length).zip trs) s s':=by
 intro l
 induction l with
 |nil=>intro k _ s accs h;exact ⟨s,[],rfl,h,.nil s⟩
 |cons o l ih=>
  intro k hk s accs h
  have hok:ops[k]?=some o:=by
   rw [←Array.getElem?_toList]
   have:=congrArg (·[0]?) hk
   simpa using this
  have hk':ops.toList.drop (k+1)=l:=by
   rw [←List.drop_drop,hk];rfl
  simp only [Ya] at h
  obtain ⟨s1,tr,h1,h2⟩:=aeM h
  obtain ⟨s',trs,h3,h4,h5⟩:=ih (k+1) hk' h1
  refine ⟨s',tr::trs,by simp [h3],by simpa using h4,?_⟩
  exact .cons hok h2 h5
theorem Rel.drawn{w0 w:World}{M0:BS}{n:Nat}{C0 C:Ctx}{s:St}{a:Act}(R:Rel w0 M0 n C0 C s a w)(k:Nat):Rel w0 M0 n C0 C s a { w with drawn:=k } where
 ext:=R.ext
 mem:=⟨fun q y h=>(R.mem.ok q y h).keep rfl rfl rfl rfl rfl (fun _ _=>rfl) (fun _ _=>rfl),R.mem.disj,R.mem.apart,R.mem.ro,R.mem.ptr⟩
 tm:=fun t=>by
  rw [←QY (s.tmps t)]
  exact bH.step (w':={ w with drawn:=k }) (xs:=[]) (fun av vs hl _ hav=>kN (w':={ w with drawn:=k }) R.mem (fun _=>False) rfl rfl (fun _ _=>rfl) (fun _ _=>rfl) (fun q y _ hy=>hy) (fun _ _=>rfl) hl (fun _ _ h=>h) hav) (R.tm t)
 kept:=⟨R.kept.os,R.kept.tape,R.kept.output,R.kept.size,R.kept.block⟩
 foot:=R.foot
 pins:=R.pins
 defers:=R.defers
 room:=R.room
 parρ:=R.parρ
 zn:=R.zn
end
end Go.Abs
namespace Go.Abs
variable {Γ : Glb}
section
variable {V : Env} {ops : Array Oper}
theorem anP{n:Nat}:∀{l:List Nat},below n l=true ↔ ∀k∈l,k<n:=by
 intro l
 induction l with
 |nil=>simp [below]
 |cons x l ih=>
  simp only [below,Bool.and_eq_true,ih,List.forall_mem_cons]
  constructor
  ·rintro ⟨h,h2⟩;exact ⟨Nat.le_of_ble_eq_true h,h2⟩
  ·rintro ⟨h,h2⟩;exact ⟨Nat.ble_eq_true_of_le h,h2⟩
theorem WH:∀(l:List Oper)(k:Nat),WG l k=true→∀i o,l[i]?=some o→∀p∈SX o,p<k+i:=by
 intro l
 induction l with
 |nil=>intro k _ i o h;simp at h
 |cons x l ih=>
  intro k h i o ho p hp
  simp only [WG,Bool.and_eq_true] at h
  cases i with
  |zero=>simp only [List.getElem?_cons_zero,Option.some.injEq] at ho;subst ho;simpa using anP.1 h.1 p hp
  |succ i=>have:=ih (k+1) h.2 i o (by simpa using ho) p hp;omega
def Closed(ops:List Oper)(S:Nat→Prop):Prop:=∀j o,ops[j]?=some o→S j→∀p∈SX o,S p
theorem Yh(n m:Nat):uE n m=m.testBit n:=by
 have h:Nat.land (Nat.shiftRight m n) 1=(m >>> n)&&&1:=rfl
 unfold uE Nat.testBit
 rw [h,Nat.and_comm 1]
 have:(m >>> n)&&&1=(m >>> n)%2:=Nat.and_one_is_mod _
 rw [this]
 rcases Nat.mod_two_eq_zero_or_one (m >>> n) with h|h<;>rw [h]<;>rfl
theorem G6(n:Nat):uE n 0=false:=by rw [Yh];simp
theorem alG(n a b:Nat):uE n (Nat.lor a b)=(uE n a||uE n b):=by
 simp only [Yh]
 exact Nat.testBit_or a b n
theorem alH{n k:Nat}(h:uE n (Nat.shiftLeft 1 k)=true):n=k:=by
 rw [Yh,show Nat.shiftLeft 1 k=2 ^ k by rw [show Nat.shiftLeft 1 k=1 <<< k from rfl,Nat.one_shiftLeft],Nat.testBit_two_pow] at h
 exact (of_decide_eq_true h).symm
theorem akV{S:Nat→Prop}{t:List Nat}(ht:∀j,S j→∀k,uE k (t.getD j 0)=true→S k):∀(l:List Nat),(∀p∈l,S p)→∀k,uE k (aiv t l)=true→S k:=by
 intro l
 induction l with
 |nil=>intro _ k h;simp only [aiv,G6] at h;cases h
 |cons x l ih=>
  intro hl k hk
  simp only [aiv,alG,Bool.or_eq_true] at hk
  rcases hk with (hk|hk)|hk
  ·rw [alH hk];exact hl _ (by simp)
  ·exact ht x (hl x (by simp)) k hk
  ·exact ih (fun p hp=>hl p (by simp [hp])) k hk
theorem anL{all:List Oper}{S:Nat→Prop}(hS:Closed all S):∀(l:List Oper)(t:List Nat),all.drop t.length=l→(∀j o,all[j]?=some o→(∀p∈SX o,S p)→∀k,uE k (t.getD j 0)=true→S k) →
  ∀j o,all[j]?=some o→(∀p∈SX o,S p)→∀k,uE k ((apm l t).getD j 0)=true→S k:=by
 intro l
 induction l with
 |nil=>intro t _ ht;exact ht
 |cons o l ih=>
  intro t hl ht
  have hot:all[t.length]?=some o:=by
   have:=congrArg (·[0]?) hl
   simpa using this
  refine ih _ (by rw [List.length_append];show all.drop (t.length+1)=l;rw [←List.drop_drop,hl];rfl) (fun j oj hoj hpj k hk=>?_)
  rw [List.getD_eq_getElem?_getD] at hk
  rcases Nat.lt_trichotomy j t.length with h|h|h
  ·rw [List.getElem?_append_left h] at hk
   exact ht j oj hoj hpj k (by rw [List.getD_eq_getElem?_getD];exact hk)
  ·subst h
   rw [hot] at hoj
   cases hoj
   simp only [List.getElem?_append_right (Nat.le_refl _),Nat.sub_self,List.getElem?_cons_zero,Option.getD_some] at hk
   refine akV (S:=S) (fun j hj k hk=>?_) _ hpj k hk
   cases haj:all[j]? with
   |some oj=>exact ht j oj haj (hS j oj haj hj) k hk
   |none=>
    have h1:t.length≤j:=by
     have h2:=List.getElem?_eq_none_iff.1 haj
     have h3:=(List.getElem?_eq_some_iff.1 hot).1
     omega
    rw [List.getD_eq_getElem?_getD,List.getElem?_eq_none h1,Option.getD_none,G6] at hk
    cases hk
  ·rw [List.getElem?_eq_none (by simp;omega),Option.getD_none,G6] at hk
   cases hk
theorem Zy{x y:Oper}(h:agC ops x y=true):(∀t,x.dst=some t→y.dst≠some t)∧(∀t,x.dst=some t→.tmp t ∉ y.op.operands.toList)∧nV ops x.dst y:=by
 unfold agC at h
 cases hx:x.dst with
 |none=>exact ⟨by simp,by simp,fun j want t _ _ h=>by cases h⟩
 |some d=>
  rw [hx] at h
  simp only [Bool.and_eq_true,Bool.not_eq_true',bne_iff_ne,ne_eq] at h
  obtain ⟨h1,h2⟩:=h
  have h1:d ∉ ade ops y:=by intro hm;rw [List.contains_iff_mem.2 hm] at h1;cases h1
  unfold ade at h1
  rw [List.mem_append,not_or] at h1
  refine ⟨fun t ht=>by cases ht;exact h2,fun t ht hm=>?_,fun j want t hg ht h=>?_⟩
  ·cases ht
   exact h1.1 (List.mem_filterMap.2 ⟨.tmp d,hm,rfl⟩)
  ·cases h
   refine h1.2 ?_
   rw [hg]
   simp [ht]
theorem aeW{o:Oper}{a:Tr}{anc:Nat}:∀(l:List (Oper×Tr))(k:Nat),VE ops o a anc l k=true→∀j x,l[j]?=some x→uE (k+j) anc=false→amL ops x.1 o x.2 a:=by
 intro l
 induction l with
 |nil=>intro k _ j x h;simp at h
 |cons y l ih=>
  intro k h j x hx hn
  obtain ⟨o',a'⟩:=y
  simp only [VE,Bool.and_eq_true,Bool.or_eq_true,Bool.not_eq_true'] at h
  cases j with
  |succ j=>exact ih (k+1) h.2 j x (by simpa using hx) (by rw [show k+1+j=k+(j+1) by omega];exact hn)
  |zero=>
   simp only [List.getElem?_cons_zero,Option.some.injEq] at hx
   subst hx
   rcases h.1 with h1|⟨⟨h1,h2⟩,h3⟩
   ·rw [Nat.add_zero,h1] at hn;cases hn
   ·obtain ⟨p1,p2,p3⟩:=Zy h2
    obtain ⟨_,q2,q3⟩:=Zy h3
    refine ⟨?_,p1,p2,q2,p3,q3⟩
    rcases h1 with (((((⟨c1,c2⟩|⟨c1,c2⟩)|⟨c1,c2⟩)|⟨c1,c2,c3⟩)|⟨c1,c2,c3,c4⟩)|c1)|⟨c1,c2⟩
    ·exact .inl ⟨c1,c2⟩
    ·exact .inr (.inl ⟨c1,c2⟩)
    ·exact .inr (.inr (.inl ⟨c1,c2⟩))
    ·exact .inr (.inr (.inr (.inl ⟨c1,c2,c3⟩)))
    ·exact .inr (.inr (.inr (.inr (.inl ⟨c1,c2,c3,c4⟩))))
    ·exact .inr (.inr (.inr (.inr (.inr (.inl c1)))))
    ·exact .inr (.inr (.inr (.inr (.inr (.inr ⟨c1,c2⟩)))))
theorem agV{anc:List Nat}:∀(l done:List (Oper×Tr)),abA ops anc l done done.length=true→∀i j x y,(done++l)[i]?=some x→done.length≤i→j<i→(done++l)[j]?=some y→uE j (anc.getD i 0)=false→amL ops y.1 x.1 y.2 x.2:=by
 intro l
 induction l with
 |nil=>intro done _ i j x y hx hi;rw [List.append_nil] at hx;rw [List.getElem?_eq_none hi] at hx;cases hx
 |cons z l ih=>
  intro done h i j x y hx hi hj hy hn
  obtain ⟨o,a⟩:=z
  simp only [abA,Bool.and_eq_true] at h
  by_cases he:i=done.length
  ·subst he
   rw [List.getElem?_append_right (Nat.le_refl _)] at hx
   simp only [Nat.sub_self,List.getElem?_cons_zero,Option.some.injEq] at hx
   subst hx
   rw [List.getElem?_append_left hj] at hy
   exact aeW done 0 h.1 j y hy (by rw [Nat.zero_add];exact hn)
  ·refine ih (done++[(o,a)]) (by rw [List.length_append];exact h.2) i j x y (by rw [List.append_assoc];exact hx) (by simp;omega) hj (by rw [List.append_assoc];exact hy) hn
theorem agb{o:Oper}{p:Nat}:p∈SX o ↔ ∃e∈o.after,Region.binds .any e=true∧e.on=p:=by
 unfold SX
 simp only [List.mem_map,List.mem_filter,Array.mem_toList_iff]
 constructor
 ·rintro ⟨e,⟨h1,h2⟩,h3⟩;exact ⟨e,h1,h2,h3⟩
 ·rintro ⟨e,h1,h2,h3⟩;exact ⟨e,⟨h1,h2⟩,h3⟩
variable {P : Program} {w0 : World} {M0 : BS} {n : Nat} {C0 : Ctx}
theorem aqV(hT:gq P V)(hE:XR P Γ V w0 M0 C0)(hd:∀o∈ops.toList,∀d,o.dst=some d→d<n)(hpo:WG ops.toList 0=true){Q:Exit→Act→World→Prop}{sf:St}
  (hQ:∀a' w' C',D9 w0 M0 n C0 C' sf a' w'→Q .normal a' w'):∀(fuel:Nat)(L:List (Nat×Tr))(s:St)(listed:Array Bool)(a:Act)(w:World)(C:Ctx),L.length=fuel→abO V ops L s sf →
  (L.map (·.1)).Pairwise (· < ·)→listed.size=ops.size→(∀j,j<ops.size→(listed.getD j true=false↔j∈L.map (·.1))) →
  (∀i o,ops[i]?=some o→listed.getD i true=true→∀p∈SX o,listed.getD p true=true) →
  (∀i j tri trj oi oj,(i,tri)∈L→(j,trj)∈L→j<i→ops[i]?=some oi→ops[j]?=some oj→uE j ((apm ops.toList []).getD i 0)=false→amL ops oj oi trj tri) →
  D9 w0 M0 n C0 C s a w→wpAny P .any ops Q fuel listed a w:=by
 intro fuel
 induction fuel with
 |zero=>
  intro L s listed a w C hlen hR hp hsz hl hc hf R
  have hL:L=[]:=List.eq_nil_of_length_eq_zero hlen
  subst hL
  cases hR
  refine ⟨?_,hQ _ _ _ R⟩
  rw [List.eq_nil_iff_forall_not_mem]
  intro j hj
  rw [mem_ready] at hj
  obtain ⟨h0,o,ho,_⟩:=hj
  have:=(hl j (Array.getElem?_eq_some_iff.1 ho).1).1 h0
  simp at this
 |succ fuel ih=>
  intro L s listed a w C hlen hR hp hsz hl hc hf R
-- which are ready
  have hgd:∀p,p<ops.size→listed.getD p false=listed.getD p true:=by
   intro p hp
   simp [hsz,hp]
  refine ⟨fun hnil=>?_,fun i hi=>?_⟩
  ·-- the first one is
   exfalso
   cases L with
   |nil=>simp at hlen
   |cons x L=>
    obtain ⟨i,tr⟩:=x
    cases hR with
    |cons hi h1 ht=>
     have hlt:=(Array.getElem?_eq_some_iff.1 hi).1
     have:i∈Region.ready .any ops listed:=by
      rw [mem_ready]
      refine ⟨(hl i hlt).2 (by simp),_,hi,fun e he hb=>?_⟩
      have hpl:=WH _ 0 hpo i _ (by rw [Array.getElem?_toList];exact hi) e.on (agb.2 ⟨e,he,hb,rfl⟩)
      rw [Nat.zero_add] at hpl
      rw [hgd _ (by omega)]
      cases hh:listed.getD e.on true with
      |true=>rfl
      |false=>
       have:=(hl e.on (by omega)).1 hh
       simp only [List.map_cons,List.mem_cons] at this
       rcases this with h|h
       ·omega
       ·have:=List.rel_of_pairwise_cons hp h
        simp at this;omega
     rw [hnil] at this
     cases this
  ·have hi0:=mem_ready.1 hi
   obtain ⟨h0,oi,hoi,hall⟩:=hi0
   have hlt:=(Array.getElem?_eq_some_iff.1 hoi).1
   obtain ⟨x,hx,hxi⟩:=List.mem_map.1 ((hl i hlt).1 h0)
   obtain ⟨i',tri⟩:=x
   cases hxi
   obtain ⟨pre,post,rfl⟩:=List.append_of_mem hx
   have hpreds:∀p∈SX oi,listed.getD p true=true:=by
    intro p hp
    obtain ⟨e,he,hb,rfl⟩:=agb.1 hp
    have hpl:=WH _ 0 hpo i' _ (by rw [Array.getElem?_toList];exact hoi) e.on hp
    have:=hall e he hb
    rw [hgd _ (by omega)] at this
    exact this
   have hanc:∀k,uE k ((apm ops.toList []).getD i' 0)=true→listed.getD k true=true:=
    anL (all:=ops.toList) (S:=fun k=>listed.getD k true=true) (fun j o ho hs p hp=>hc j o (by rw [←Array.getElem?_toList];exact ho) hs p hp) ops.toList [] (by simp) (fun j o _ _ k hk=>by simp [G6] at hk) i' oi (by rw [Array.getElem?_toList];exact hoi) hpreds
   have hpw:=hp
   rw [List.map_append,List.map_cons,List.pairwise_append] at hp
   have hb:=bubble pre (fun x hx ok oi' hok hoi'=>by
    obtain ⟨k,trk⟩:=x
    have hk:k∈(pre++(i',tri)::post).map (·.1):=List.mem_map.2 ⟨(k,trk),by simp [hx],rfl⟩
    refine hf i' k tri trk oi' ok (by simp) (by simp [hx]) (hp.2.2 k (List.mem_map.2 ⟨_,hx,rfl⟩) i' (by simp)) hoi' hok (Bool.eq_false_iff.2 fun hm=>?_)
    have h1:=hanc k hm
    rw [(hl k (Array.getElem?_eq_some_iff.1 hok).1).2 hk] at h1
    cases h1) hR
   cases hb with
   |cons hi1 hst hrest=>
    rw [hoi] at hi1
    cases hi1
    have hnot:i' ∉ (pre++post).map (·.1):=by
     intro hm
     rw [List.map_append,List.mem_append] at hm
     rcases hm with hm|hm
     ·have:=hp.2.2 i' hm i' (by simp);omega
     ·have:=List.rel_of_pairwise_cons hp.2.1 hm;omega
    refine ao2 hT hE hoi R (hd oi (List.mem_of_getElem? (by rw [Array.getElem?_toList];exact hoi))) hst _ Q (fun a' w' C' R'=>?_)
    refine ih (pre++post) _ _ a' w' C' (by simp at hlen ⊢;omega) hrest ?_ (by simp [hsz]) (fun j hj=>?_) (fun j oj hoj hs p hpp=>?_) (fun i2 j2 tr2 trj2 o2 oj2 h1 h2=>hf i2 j2 tr2 trj2 o2 oj2 ?_ ?_) R'
    ·exact hpw.sublist (List.Sublist.map _ (List.Sublist.append (List.Sublist.refl _) (List.sublist_cons_self _ _)))
    ·by_cases he:j=i'
     ·subst he
      constructor
      ·intro h;simp [hsz,hj] at h
      ·intro h;exact absurd h hnot
     ·rw [getD_set_ne true (Ne.symm he),hl j hj]
      simp only [List.map_append,List.map_cons,List.mem_append,List.mem_cons]
      constructor
      ·rintro (h|h|h)<;>first|exact .inl h|exact .inr h|exact absurd h he
      ·rintro (h|h)<;>first|exact .inl h|exact .inr (.inr h)
    ·have key:listed.getD p true=true→(listed.setIfInBounds i' true).getD p true=true:=by
      intro h
      by_cases he:p=i'
      ·subst he;simp [hsz,hlt]
      ·rw [getD_set_ne true (Ne.symm he)];exact h
     by_cases he:j=i'
     ·subst he
      rw [hoi] at hoj
      cases hoj
      exact key (hpreds p hpp)
     ·rw [getD_set_ne true (Ne.symm he)] at hs
      exact key (hc j oj hoj hs p hpp)
    ·rcases List.mem_append.1 h1 with h|h<;>simp [h]
    ·rcases List.mem_append.1 h2 with h|h<;>simp [h]
theorem afG(hT:gq P V)(hE:XR P Γ V w0 M0 C0){id:Nat}(hd:∀o∈ops.toList,∀d,o.dst=some d→d<n){R':Type}{r:R'}{c:St→Option R'}{Q:Exit→Act→World→Prop}
  (hq:∀s' a' w' C',c s'=some r→Rel w0 M0 n C0 C' s' a' w'→Q .normal a' w') {C:Ctx} {s:St} {a:Act} {w:World} (R:Rel w0 M0 n C0 C s a w) (h:zJ V ops.toList true s c=some r):(Code.region id ops true).wp P Q a w:=by
 unfold zJ at h
 split at h
 ·simp at h
 rename_i hn0
 obtain ⟨s',trs,h1,h2,h3⟩:=aiR (ops:=ops) ops.toList 0 rfl h
 split at h2
 ·simp at h2
 rename_i hn1
 simp only [List.append_nil,List.reverse_reverse,cond_true] at h2
 cases hfo:Yg ops.toList trs with
 |false=>rw [hfo] at h2;simp at h2
 |true=>
  rw [hfo] at h2
  simp only [cond_true] at h2
  simp only [Yg,Bool.and_eq_true] at hfo
  obtain ⟨hpo,hfa⟩:=hfo
  have hlen:((List.range' 0 ops.toList.length).zip trs).length=ops.size:=by simp [h1]
  refine wp_region_any hT.mixed ?_
  refine aqV hT hE hd hpo (fun a' w' C' R'=>hq s' a' w' C' h2 (R'.one hn1)) ops.size _ s _ a _ C hlen h3 ?_ (by simp) (fun j hj=>?_) (fun i o ho hs p hp=>?_) (fun i j tri trj oi oj hi hj hji hoi hoj hn=>?_) ((R.drawn _).two hn0)
  ·rw [List.map_fst_zip (by simp [h1])]
   exact List.pairwise_lt_range'
  ·rw [List.map_fst_zip (by simp [h1])]
   simp [hj]
  ·have hlt:=(Array.getElem?_eq_some_iff.1 ho).1
   simp [hlt] at hs
  ·have hget:∀{i:Nat}{tr:Tr},(i,tr)∈(List.range' 0 ops.toList.length).zip trs→trs[i]?=some tr:=by
    intro i tr hm
    obtain ⟨k,hk⟩:=List.mem_iff_getElem?.1 hm
    rw [List.getElem?_zip_eq_some] at hk
    obtain ⟨g1,g2⟩:=hk
    have:=(List.getElem?_eq_some_iff.1 g1)
    obtain ⟨g3,g4⟩:=this
    simp at g4
    subst g4
    exact g2
   have gi:=hget hi
   have gj:=hget hj
   refine agV (ops.toList.zip trs) [] (by rw [Array.toArray_toList] at hfa;exact hfa) i j (oi,tri) (oj,trj) ?_ (Nat.zero_le _) hji ?_ hn
   ·rw [List.nil_append,List.getElem?_zip_eq_some];exact ⟨by rw [Array.getElem?_toList];exact hoi,gi⟩
   ·rw [List.nil_append,List.getElem?_zip_eq_some];exact ⟨by rw [Array.getElem?_toList];exact hoj,gj⟩
end
end Go.Abs
