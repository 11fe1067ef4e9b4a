/- Part 4 of the proof of FnExactErrorLocator. -/
import Derived.Test.YtihiobjhogpmdaaGreatDl3
set_option maxRecDepth 100000
noncomputable section
namespace Go.Proofs.YtihiobjhogpmdaaGreat
open Go Go.Abs Go.Proofs
-- shared
theorem Xt{f:TF3}(hf:aO f=true):1≤f.1.toNat∧f.1.toNat≤5:=by
 obtain ⟨d,p,hq,rfl⟩:=Dq hf
 have:∀q∈jm,1≤q.1∧q.1≤5:=by decide
 exact this _ hq
theorem EC{f:TF3}(hf:aO f=true){a:Int}(h:inF f a):∃n:Nat,a=(n:Int)∧n<2 ^ f.1.toNat∧n<2 ^ 63:=by
 obtain ⟨h0,h1⟩:=h
 have hd:=(Xt hf).2
 have hp:2 ^ f.1.toNat≤2 ^ 5:=Nat.pow_le_pow_right (by omega) hd
 refine ⟨a.toNat,by omega,by omega,by omega⟩
theorem gG{f:TF3}:inF f 0:=⟨Int.le_refl 0,by exact_mod_cast Nat.two_pow_pos _⟩
theorem anU{f:TF3}(hf:aO f=true):inF f 1:=by
 have:2 ^ 1≤2 ^ f.1.toNat:=Nat.pow_le_pow_right (by omega) (Xt hf).1
 exact ⟨by omega,by omega⟩
theorem MP{f:TF3}(hf:aO f=true){a b:Int}(ha:inF f a)(hb:inF f b):inF f (jJ .i64 a b):=by
 obtain ⟨m,rfl,hm,hm2⟩:=EC hf ha
 obtain ⟨n,rfl,hn,hn2⟩:=EC hf hb
 rw [ou hm2 hn2]
 exact ⟨Int.natCast_nonneg _,by exact_mod_cast Nat.xor_lt_two_pow hm hn⟩
theorem qX{f:TF3}(hf:aO f=true){a:Int}(ha:inF f a):jJ .i64 0 a=a:=by
 obtain ⟨m,rfl,hm,hm2⟩:=EC hf ha
 have:=ou (a:=0) (b:=m) (by omega) hm2
 rw [show ((0:Nat):Int)=0 from rfl] at this
 rw [this,Nat.zero_xor]
def GR(f:TF3)(n:Nat)(L:List (List Int)):Prop:=∀r∈L,r.length=n∧∀y∈r,inF f y
def DX(c:Nat)(r:List Int):Bool:=match r[c]? with
 |some x=>!decide (x=0)
 |none=>false
def oN(f:TF3)(c k:Nat)(own:List Int)(i:Nat)(r:List Int):List Int:=match r[c]? with
 |some x=>bif decide (i=k)||decide (x=0) then r else (r.zip own).map fun p=>jJ .i64 p.1 (gu f x p.2)
 |none=>r
def aaX(f:TF3)(c:Nat)(row:List Int):List Int:=match row[c]? with
 |some x=>row.map fun y=>gu f y (Bc f x)
 |none=>row
def Um(f:TF3)(c k a:Nat)(L:List (List Int)):List (List Int):=match L[k]?,L[a]? with
 |some row,some r0=>(L.set k r0).set a (aaX f c row)
 |_,_=>L
def Gs(f:TF3)(c a:Nat)(L:List (List Int)):List (List Int):=match L[a]? with
 |some own=>L.mapIdx (oN f c a own)
 |none=>L
def jl(f:TF3)(c:Nat)(s:Nat×List (List Int)):Nat×List (List Int):=
 bif decide (oq (DX c) s.1 (s.2.drop s.1)<0) then s else (s.1+1,Gs f c s.1 (Um f c (oq (DX c) s.1 (s.2.drop s.1)).toNat s.1 s.2))
def gU(f:TF3):Nat→Nat→Nat×List (List Int)→Nat×List (List Int)
 |_,0,s=>s
 |c,m+1,s=>gU f (c+1) m (jl f c s)
def ES(f:TF3)(n:Nat)(L:List (List Int)):List (List Int):=(gU f 0 n (0,L)).2.take (gU f 0 n (0,L)).1
theorem aod{c:Nat}{r:List Int}(h:DX c r=true):∃x,r[c]?=some x∧x≠0:=by
 unfold DX at h
 split at h
 ·exact ⟨_,by assumption,by simpa using h⟩
 ·cases h
theorem EO{f:TF3}{n:Nat}{L:List (List Int)}(h:GR f n L){i:Nat}{r:List Int}(hi:L[i]?=some r):r.length=n∧∀y∈r,inF f y:=h r (List.mem_of_getElem? hi)
theorem avg{f:TF3}{n:Nat}{L:List (List Int)}(h:GR f n L){i:Nat}{r:List Int}(hr:r.length=n∧∀y∈r,inF f y):GR f n (L.set i r):=by
 intro x hx
 rcases List.mem_or_eq_of_mem_set hx with hx|rfl
 ·exact h x hx
 ·exact hr
theorem auV{f:TF3}(hf:aO f=true){n c:Nat}{r:List Int}(h:r.length=n∧∀y∈r,inF f y):(aaX f c r).length=n∧∀y∈aaX f c r,inF f y:=by
 unfold aaX
 split
 ·rename_i x hx
  refine ⟨by simpa using h.1,fun y hy=>?_⟩
  obtain ⟨z,hz,rfl⟩:=List.mem_map.1 hy
  exact (DW hf (h.2 z hz) (wD hf (h.2 x (List.mem_of_getElem? hx))).1).1
 ·exact h
theorem atW{f:TF3}(hf:aO f=true){n c k i:Nat}{own r:List Int}(ho:own.length=n∧∀y∈own,inF f y)(h:r.length=n∧∀y∈r,inF f y):(oN f c k own i r).length=n∧∀y∈oN f c k own i r,inF f y:=by
 unfold oN
 split
 ·rename_i x hx
  cases decide (i=k)||decide (x=0)
  ·rw [cond_false]
   refine ⟨by simp [h.1,ho.1],fun y hy=>?_⟩
   obtain ⟨p,hp,rfl⟩:=List.mem_map.1 hy
   have h1:=List.of_mem_zip (a:=p.1) (b:=p.2) hp
   exact MP hf (h.2 _ h1.1) (DW hf (h.2 x (List.mem_of_getElem? hx)) (ho.2 _ h1.2)).1
  ·exact h
 ·exact h
theorem aii{f:TF3}(hf:aO f=true){n c k a:Nat}{L:List (List Int)}(h:GR f n L):GR f n (Um f c k a L)∧(Um f c k a L).length=L.length:=by
 unfold Um
 split
 ·rename_i row r0 h1 h2
  exact ⟨avg (avg h (EO h h2)) (auV hf (EO h h1)),by simp⟩
 ·exact ⟨h,rfl⟩
theorem amf{f:TF3}(hf:aO f=true){n c a:Nat}{L:List (List Int)}(h:GR f n L):GR f n (Gs f c a L)∧(Gs f c a L).length=L.length:=by
 unfold Gs
 split
 ·rename_i own h1
  refine ⟨fun r hr=>?_,by simp⟩
  obtain ⟨i,hi,rfl⟩:=List.mem_mapIdx.1 hr
  exact atW hf (EO h h1) (h _ (List.getElem_mem hi))
 ·exact ⟨h,rfl⟩
theorem Ju{f:TF3}(hf:aO f=true){n c:Nat}{s:Nat×List (List Int)}(h:GR f n s.2)(ha:s.1≤s.2.length):GR f n (jl f c s).2∧(jl f c s).2.length=s.2.length∧(jl f c s).1≤s.2.length:=by
 unfold jl
 rcases zZ (DX c) (s.2.drop s.1) s.1 with ⟨h1,_⟩|⟨k,x,h1,_,h3⟩
 ·rw [h1];exact ⟨h,rfl,ha⟩
 ·rw [h3,decide_eq_false (by omega),cond_false]
  have hlt:=(List.getElem?_eq_some_iff.1 h1).1
  rw [List.length_drop] at hlt
  have hp:=aii (c:=c) (k:=((s.1+k:Nat):Int).toNat) (a:=s.1) hf h
  have hc:=amf (c:=c) (a:=s.1) hf hp.1
  exact ⟨hc.1,by rw [hc.2,hp.2],by show s.1+1≤_;omega⟩
theorem QJ{f:TF3}(hf:aO f=true){n:Nat}:∀(m c:Nat)(s:Nat×List (List Int)),GR f n s.2→s.1≤s.2.length→GR f n (gU f c m s).2∧(gU f c m s).2.length=s.2.length∧(gU f c m s).1≤s.2.length:=by
 intro m
 induction m with
 |zero=>intro c s h ha;exact ⟨h,rfl,ha⟩
 |succ m ih=>
  intro c s h ha
  have h1:=Ju (c:=c) hf h ha
  have h2:=ih (c+1) _ h1.1 (by rw [h1.2.1];exact h1.2.2)
  rw [h1.2.1] at h2
  exact h2
theorem axM{f:TF3}(hf:aO f=true){n m:Nat}{L:List (List Int)}(h:GR f n L):GR f n (ES f m L):=fun r hr=>(QJ hf m 0 (0,L) h (Nat.zero_le _)).1 r (List.mem_of_mem_take hr)
theorem aiQ{f:TF3}(hf:aO f=true){n m:Nat}{L:List (List Int)}(h:GR f n L):(ES f m L).length=(gU f 0 m (0,L)).1:=by
 have:=QJ hf m 0 (0,L) h (Nat.zero_le _)
 unfold ES
 rw [List.length_take,this.2.1]
 exact Nat.min_eq_left this.2.2
theorem apU{α:Type}(p:α→Bool):∀(l:List α)(i j:Nat),oq p (i+j) l=if oq p j l<0 then -1 else (i:Int)+oq p j l:=by
 intro l
 induction l with
 |nil=>intro i j;rfl
 |cons x l ih=>
  intro i j
  rcases Bool.eq_false_or_eq_true (p x) with hp|hp
  ·have e1:oq p (i+j) (x::l)=((i+j:Nat):Int):=by simp only [oq,hp,cond_true]
   have e2:oq p j (x::l)=(j:Int):=by simp only [oq,hp,cond_true]
   rw [e1,e2,if_neg (by omega)]
   omega
  ·have e1:oq p (i+j) (x::l)=oq p (i+(j+1)) l:=by simp only [oq,hp,cond_false];rfl
   have e2:oq p j (x::l)=oq p (j+1) l:=by simp only [oq,hp,cond_false]
   rw [e1,e2]
   exact ih i (j+1)
theorem aiW{α β γ:Type}(g:Nat→α→γ)(fin:List γ→β):∀(l:List α)(i:Nat)(acc:List γ),acc.length=i+l.length→qY (fun i acc x=>(.inl (acc.set i (g i x)):List γ ⊕ β)) fin i acc l=fin (acc.take i++l.mapIdx fun j x=>g (i+j) x):=by
 intro l
 induction l with
 |nil=>intro i acc h;simp only [qY,List.mapIdx_nil,List.append_nil];rw [List.take_of_length_le (by simp at h;omega)]
 |cons x l ih=>
  intro i acc h
  simp only [List.length_cons] at h
  simp only [qY]
  rw [ih (i+1) _ (by simp;omega),List.take_add_one,List.mapIdx_cons]
  simp [show i<acc.length by omega,List.take_set_of_le (Nat.le_refl i),Nat.add_assoc,Nat.add_comm 1]
-- shared
theorem axg{n d:Nat}(h0:n≠0)(hn:n<2 ^ d):∃i m,i<d∧m<n∧n=m^^^2 ^ i:=by
 have hl:=Nat.log2_lt (n:=n) (k:=d) h0 |>.2 hn
 have hself:=Nat.log2_self_le h0
 have hup:=Nat.lt_log2_self (n:=n)
 have hb1:n^^^2 ^ n.log2<2 ^ n.log2:=by
  apply Nat.lt_pow_two_of_testBit
  intro i hi
  rw [Nat.testBit_xor,Nat.testBit_two_pow]
  by_cases hi2:n.log2=i
  ·subst hi2
   rw [Nat.testBit_log2 h0]
   simp
  ·have:n.testBit i=false:=Nat.testBit_lt_two_pow (Nat.lt_of_lt_of_le hup (Nat.pow_le_pow_right (by omega) (by omega)))
   rw [this]
   simp [hi2]
 exact ⟨n.log2,n^^^2 ^ n.log2,hl,by omega,by rw [Nat.xor_assoc,Nat.xor_self,Nat.xor_zero]⟩
def aq8(d:Nat)(g:Nat→Nat):Prop:=∀a b,a<2 ^ d→b<2 ^ d→g (a^^^b)=g a^^^g b
theorem aq8.zero{d:Nat}{g:Nat→Nat}(h:aq8 d g):g 0=0:=by
 have e1:=h 0 0 (Nat.two_pow_pos d) (Nat.two_pow_pos d)
 rw [Nat.xor_self] at e1
 rw [Nat.xor_self] at e1
 exact e1
theorem azT{d:Nat}{g:Nat→Nat}(h0:g 0=0)(h:∀b i,b<2 ^ d→i<d→g (b^^^2 ^ i)=g b^^^g (2 ^ i)):aq8 d g:=by
 intro b c
 induction c using Nat.strongRecOn generalizing b with
 |ind c ih=>
  intro hb hc
  by_cases hz:c=0
  ·subst hz;rw [Nat.xor_zero,h0,Nat.xor_zero]
  ·obtain ⟨i,m,hi,hm,he⟩:=axg hz hc
   have hp:2 ^ i<2 ^ d:=Nat.pow_lt_pow_right (by omega) hi
   have hm2:m<2 ^ d:=by omega
   rw [he,←Nat.xor_assoc,h _ _ (Nat.xor_lt_two_pow hb hm2) hi,ih m hm b hb hm2,h _ _ hm2 hi,Nat.xor_assoc]
theorem as4{d:Nat}{g h:Nat→Nat}(hg:aq8 d g)(hh:aq8 d h)(hb:∀i,i<d→g (2 ^ i)=h (2 ^ i)):∀n,n<2 ^ d→g n=h n:=by
 intro n
 induction n using Nat.strongRecOn with
 |ind n ih=>
  intro hn
  by_cases h0:n=0
  ·subst h0;rw [hg.zero,hh.zero]
  ·obtain ⟨i,m,hi,hm,he⟩:=axg h0 hn
   have hp:2 ^ i<2 ^ d:=Nat.pow_lt_pow_right (by omega) hi
   rw [he,hg _ _ (by omega) hp,hh _ _ (by omega) hp,ih m hm (by omega),hb i hi]
def aA5(d p:Nat):Bool:=(List.range (2 ^ d)).all fun a=>(List.range (2 ^ d)).all fun b=>(List.range d).all fun i=>Nat.beq (mulN p a (Nat.xor b (2 ^ i))) (Nat.xor (mulN p a b) (mulN p a (2 ^ i)))
def jk(d p:Nat):Bool:=(List.range (2 ^ d)).all fun a=>(List.range d).all fun j=>(List.range d).all fun i=>Nat.beq (mulN p (mulN p a (2 ^ j)) (2 ^ i)) (mulN p a (mulN p (2 ^ j) (2 ^ i)))
def aBZ(d p:Nat):Bool:=(List.range (2 ^ d)).all fun a=>Nat.beq (mulN p a 1) a&&Nat.beq (mulN p a 0) 0
theorem atZ:(jm.all fun q=>aA5 q.1 q.2)=true:=by kernel_rfl
theorem aro:(jm.all fun q=>jk q.1 q.2)=true:=by kernel_rfl
theorem awS:(jm.all fun q=>aBZ q.1 q.2)=true:=by kernel_rfl
theorem oC{d p a b:Nat}(hq:(d,p)∈jm)(ha:a<2 ^ d)(hb:b<2 ^ d):mulN p a b<2 ^ d∧mulN p a b=mulN p b a:=by
 have h1:=List.all_eq_true.1 (List.all_eq_true.1 (List.all_eq_true.1 acg _ hq) a (List.mem_range.2 ha)) b (List.mem_range.2 hb)
 rw [Bool.and_eq_true] at h1
 exact ⟨Nat.le_of_ble_eq_true h1.1,Nat.eq_of_beq_eq_true h1.2⟩
theorem aci{d p a:Nat}(hq:(d,p)∈jm)(ha:a<2 ^ d):mulN p a 1=a∧mulN p a 0=0:=by
 have h1:=List.all_eq_true.1 (List.all_eq_true.1 awS _ hq) a (List.mem_range.2 ha)
 rw [Bool.and_eq_true] at h1
 exact ⟨Nat.eq_of_beq_eq_true h1.1,Nat.eq_of_beq_eq_true h1.2⟩
theorem F7{d p a:Nat}(hq:(d,p)∈jm)(ha:a<2 ^ d):aq8 d (mulN p a):=by
 refine azT (aci hq ha).2 fun b i hb hi=>?_
 have h1:=List.all_eq_true.1 (List.all_eq_true.1 (List.all_eq_true.1 (List.all_eq_true.1 atZ _ hq) a (List.mem_range.2 ha)) b (List.mem_range.2 hb)) i (List.mem_range.2 hi)
 exact Nat.eq_of_beq_eq_true h1
theorem Y3{d p b:Nat}(hq:(d,p)∈jm)(hb:b<2 ^ d):aq8 d (fun a=>mulN p a b):=by
 intro x y hx hy
 show mulN p (x^^^y) b=mulN p x b^^^mulN p y b
 rw [(oC hq (Nat.xor_lt_two_pow hx hy) hb).2,F7 hq hb x y hx hy,(oC hq hx hb).2,(oC hq hy hb).2]
theorem ajO{d p a b c:Nat}(hq:(d,p)∈jm)(ha:a<2 ^ d)(hb:b<2 ^ d)(hc:c<2 ^ d):mulN p (mulN p a b) c=mulN p a (mulN p b c):=by
 have hpow:∀i,i<d→2 ^ i<2 ^ d:=fun i hi=>Nat.pow_lt_pow_right (by omega) hi
 have k1:∀i,i<d→∀b,b<2 ^ d→mulN p (mulN p a b) (2 ^ i)=mulN p a (mulN p b (2 ^ i)):=by
  intro i hi
  refine as4 (g:=fun b=>mulN p (mulN p a b) (2 ^ i)) (h:=fun b=>mulN p a (mulN p b (2 ^ i))) ?_ ?_ ?_
  ·intro x y hx hy
   show mulN p (mulN p a (x^^^y)) (2 ^ i)=_
   rw [F7 hq ha x y hx hy]
   exact Y3 hq (hpow i hi) _ _ (oC hq ha hx).1 (oC hq ha hy).1
  ·intro x y hx hy
   show mulN p a (mulN p (x^^^y) (2 ^ i))=_
   rw [show mulN p (x^^^y) (2 ^ i)=_ from Y3 hq (hpow i hi) x y hx hy]
   exact F7 hq ha _ _ (oC hq hx (hpow i hi)).1 (oC hq hy (hpow i hi)).1
  ·intro j hj
   have h1:=List.all_eq_true.1 (List.all_eq_true.1 (List.all_eq_true.1 (List.all_eq_true.1 aro _ hq) a (List.mem_range.2 ha)) j (List.mem_range.2 hj)) i (List.mem_range.2 hi)
   exact Nat.eq_of_beq_eq_true h1
 refine as4 (g:=fun c=>mulN p (mulN p a b) c) (h:=fun c=>mulN p a (mulN p b c)) ?_ ?_ (fun i hi=>k1 i hi b hb) c hc
 ·exact F7 hq (oC hq ha hb).1
 ·intro x y hx hy
  show mulN p a (mulN p b (x^^^y))=_
  rw [F7 hq hb x y hx hy]
  exact F7 hq ha _ _ (oC hq hb hx).1 (oC hq hb hy).1
theorem anT{f:TF3}(hf:aO f=true):∃d p:Nat,(d,p)∈jm∧f=((d:Int),(p:Int),())∧∀a,inF f a→∃m:Nat,a=(m:Int)∧m<2 ^ d∧m<2 ^ 63:=by
 obtain ⟨d,p,hq,rfl⟩:=Dq hf
 refine ⟨d,p,hq,rfl,fun a ha=>?_⟩
 obtain ⟨m,e,h1,h2⟩:=EC hf ha
 exact ⟨m,e,by simpa using h1,h2⟩
theorem Cb{d p m n:Nat}:gu ((d:Int),(p:Int),()) (m:Int) (n:Int)=((mulN p m n:Nat):Int):=by
 unfold gu
 simp only [Int.toNat_natCast]
theorem xL{f:TF3}(hf:aO f=true){a b:Int}(ha:inF f a)(hb:inF f b):inF f (gu f a b):=(DW hf ha hb).1
theorem jc{f:TF3}(hf:aO f=true){a b:Int}(ha:inF f a)(hb:inF f b):gu f a b=gu f b a:=(DW hf ha hb).2
theorem azO{d p:Nat}(hq:(d,p)∈jm){x:Nat}(h:x<2 ^ d):x<2 ^ 63:=by
 have:∀q∈jm,q.1≤5:=by decide
 have h5:=this _ hq
 have:2 ^ d≤2 ^ 5:=Nat.pow_le_pow_right (by omega) h5
 omega
theorem ajN{f:TF3}(hf:aO f=true){a b c:Int}(ha:inF f a)(hb:inF f b)(hc:inF f c):gu f a (jJ .i64 b c)=jJ .i64 (gu f a b) (gu f a c):=by
 obtain ⟨d,p,hq,rfl,hn⟩:=anT hf
 obtain ⟨x,rfl,hx,hx6⟩:=hn a ha
 obtain ⟨y,rfl,hy,hy6⟩:=hn b hb
 obtain ⟨z,rfl,hz,hz6⟩:=hn c hc
 rw [ou hy6 hz6,Cb,Cb,Cb,ou (azO hq (oC hq hx hy).1) (azO hq (oC hq hx hz).1),F7 hq hx y z hy hz]
theorem aat{f:TF3}(hf:aO f=true){a b c:Int}(ha:inF f a)(hb:inF f b)(hc:inF f c):gu f (gu f a b) c=gu f a (gu f b c):=by
 obtain ⟨d,p,hq,rfl,hn⟩:=anT hf
 obtain ⟨x,rfl,hx,hx6⟩:=hn a ha
 obtain ⟨y,rfl,hy,hy6⟩:=hn b hb
 obtain ⟨z,rfl,hz,hz6⟩:=hn c hc
 rw [Cb,Cb,Cb,Cb,ajO hq hx hy hz]
theorem ach{f:TF3}(hf:aO f=true){a:Int}(ha:inF f a):gu f a 1=a:=by
 obtain ⟨d,p,hq,rfl,hn⟩:=anT hf
 obtain ⟨x,rfl,hx,hx6⟩:=hn a ha
 rw [show (1:Int)=((1:Nat):Int) from rfl,Cb,(aci hq hx).1]
theorem uo{f:TF3}(hf:aO f=true){a:Int}(ha:inF f a):gu f a 0=0:=by
 obtain ⟨d,p,hq,rfl,hn⟩:=anT hf
 obtain ⟨x,rfl,hx,hx6⟩:=hn a ha
 rw [show (0:Int)=((0:Nat):Int) from rfl,Cb,(aci hq hx).2]
theorem XR{f:TF3}(hf:aO f=true){a b:Int}(ha:inF f a)(hb:inF f b):jJ .i64 a b=jJ .i64 b a:=by
 obtain ⟨x,rfl,_,hx⟩:=EC hf ha
 obtain ⟨y,rfl,_,hy⟩:=EC hf hb
 rw [ou hx hy,ou hy hx,Nat.xor_comm]
theorem Al{f:TF3}(hf:aO f=true){a b c:Int}(ha:inF f a)(hb:inF f b)(hc:inF f c):jJ .i64 (jJ .i64 a b) c=jJ .i64 a (jJ .i64 b c):=by
 obtain ⟨x,rfl,hx1,hx⟩:=EC hf ha
 obtain ⟨y,rfl,hy1,hy⟩:=EC hf hb
 obtain ⟨z,rfl,hz1,hz⟩:=EC hf hc
 rw [ou hx hy,ou hy hz,ou (Nat.xor_lt_two_pow hx hy) hz,ou hx (Nat.xor_lt_two_pow hy hz),Nat.xor_assoc]
theorem QA{f:TF3}(hf:aO f=true){a:Int}(ha:inF f a):jJ .i64 a 0=a:=by
 rw [XR hf ha gG,qX hf ha]
theorem Qz{f:TF3}(hf:aO f=true){a:Int}(ha:inF f a):jJ .i64 a a=0:=by
 obtain ⟨x,rfl,_,hx⟩:=EC hf ha
 rw [ou hx hx,Nat.xor_self]
 rfl
-- shared
structure FO where
 q:Nat
 dg:Nat
 mul:Nat→Nat→Nat
 hq:1<q
 hd:1≤dg
 lt:∀a b,mul a b<q
 xlt:∀a b,a<q→b<q→a^^^b<q
 comm:∀a b,mul a b=mul b a
 assoc:∀a b c,mul (mul a b) c=mul a (mul b c)
 add:∀a b c,mul a (b^^^c)=mul a b^^^mul a c
 one:∀a,a<q→mul a 1=a
 inv:∀a,a<q→a≠0→∃b,b<q∧mul a b=1
namespace FO
variable (F : FO)
theorem mul_zero(a:Nat):F.mul a 0=0:=by
 have:=F.add a 0 0
 rw [Nat.xor_self,Nat.xor_self] at this
 exact this
theorem zero_mul(a:Nat):F.mul 0 a=0:=by rw [F.comm,F.mul_zero]
theorem avk(a b c:Nat):F.mul (a^^^b) c=F.mul a c^^^F.mul b c:=by rw [F.comm,F.add,F.comm c a,F.comm c b]
theorem nz{a b:Nat}(ha:a<F.q)(hb:b<F.q)(h:F.mul a b=0):a=0∨b=0:=by
 by_cases h0:a=0
 ·exact .inl h0
 ·right
  obtain ⟨c,hc,h1⟩:=F.inv a ha h0
  rw [←F.one b hb,←h1,F.comm,F.comm a c,F.assoc,h,F.mul_zero]
theorem zlt:0<F.q:=Nat.lt_trans Nat.zero_lt_one F.hq
def sq(a:Nat):Nat:=F.mul a a
theorem axh(a:Nat):F.sq a<F.q:=F.lt a a
theorem Jl:F.sq 0=0:=F.mul_zero 0
theorem aA1(a b c:Nat):(a^^^b)^^^(b^^^c)=a^^^c:=by rw [Nat.xor_assoc,←Nat.xor_assoc b b c,Nat.xor_self,Nat.zero_xor]
theorem akN(a b:Nat):F.sq (a^^^b)=F.sq a^^^F.sq b:=by
 unfold sq
 rw [F.add,F.avk,F.avk,F.comm b a,aA1]
theorem axi(a b:Nat):F.sq (F.mul a b)=F.mul (F.sq a) (F.sq b):=by
 unfold sq
 rw [F.assoc a b (F.mul a b),←F.assoc b a b,F.comm b a,F.assoc a b b,←F.assoc a a]
theorem aAW{a:Nat}(ha:a<F.q)(h:F.sq a=0):a=0:=(F.nz ha ha h).elim id id
def sqn:Nat→Nat→Nat
 |0,a=>a
 |k+1,a=>sqn k (F.sq a)
theorem Hw:∀(k:Nat){a:Nat},a<F.q→F.sqn k a<F.q:=by
 intro k
 induction k with
 |zero=>intro a h;exact h
 |succ k ih=>intro a _;exact ih (F.axh a)
theorem aqX:∀(k:Nat),F.sqn k 0=0:=by
 intro k
 induction k with
 |zero=>rfl
 |succ k ih=>unfold sqn;rw [F.Jl];exact ih
theorem atJ:∀(k:Nat){a:Nat},a<F.q→F.sqn k a=0→a=0:=by
 intro k
 induction k with
 |zero=>intro a _ h;exact h
 |succ k ih=>intro a ha h;exact F.aAW ha (ih (F.axh a) h)
theorem ail:∀(i j a:Nat),F.sqn (i+j) a=F.sqn j (F.sqn i a):=by
 intro i
 induction i with
 |zero=>intro j a;rw [Nat.zero_add];rfl
 |succ i ih=>intro j a;rw [show i+1+j=(i+j)+1 by omega];exact ih j (F.sq a)
theorem aqW(k a:Nat):F.sqn (k+1) a=F.sq (F.sqn k a):=F.ail k 1 a
def lp:List Nat→Nat→Nat
 |[],_=>0
 |c::p,x=>F.mul c x^^^lp p (F.sq x)
theorem asg:∀(p:List Nat)(x y:Nat),F.lp p (x^^^y)=F.lp p x^^^F.lp p y:=by
 intro p
 induction p with
 |nil=>intro x y;simp [lp]
 |cons c p ih=>
  intro x y
  simp only [lp]
  rw [F.add,F.akN,ih]
  ac_rfl
theorem as6:∀(p:List Nat),F.lp p 0=0:=by
 intro p
 induction p with
 |nil=>rfl
 |cons c p ih=>simp only [lp];rw [F.mul_zero,F.Jl,ih];rfl
theorem ace:∀(p:List Nat)(x:Nat),F.lp p x<F.q:=by
 intro p
 induction p with
 |nil=>intro x;exact F.zlt
 |cons c p ih=>intro x;exact F.xlt _ _ (F.lt _ _) (ih _)
def LQ:Nat→List Nat→List Nat×Nat
 |_,[]=>([],0)
 |_,[c]=>([],c)
 |g,c::d::ps=>((LQ (F.sq g) (d::ps)).2::(LQ (F.sq g) (d::ps)).1,c^^^F.mul (LQ (F.sq g) (d::ps)).2 g)
theorem avE:∀(p:List Nat)(g:Nat),p≠[]→(F.LQ g p).1.length+1=p.length:=by
 intro p
 induction p with
 |nil=>intro g h;exact absurd rfl h
 |cons c p ih=>
  intro g _
  cases p with
  |nil=>rfl
  |cons d ps=>
   have:=ih (F.sq g) (by simp)
   simp only [LQ,List.length_cons] at this ⊢
   omega
theorem asP:∀(p:List Nat)(g x:Nat),F.lp p x=F.lp (F.LQ g p).1 (F.sq x^^^F.mul g x)^^^F.mul (F.LQ g p).2 x:=by
 intro p
 induction p with
 |nil=>intro g x;simp only [LQ,lp];rw [F.zero_mul];rfl
 |cons c p ih=>
  intro g x
  cases p with
  |nil=>simp only [LQ,lp];rw [Nat.xor_zero,Nat.zero_xor]
  |cons d ps=>
   have h:=ih (F.sq g) (F.sq x)
   have h1:F.sq (F.sq x^^^F.mul g x)=F.sq (F.sq x)^^^F.mul (F.sq g) (F.sq x):=by rw [F.akN,F.axi]
   show F.mul c x^^^F.lp (d::ps) (F.sq x)=(F.mul (F.LQ (F.sq g) (d::ps)).2 (F.sq x^^^F.mul g x)^^^F.lp (F.LQ (F.sq g) (d::ps)).1 (F.sq (F.sq x^^^F.mul g x)))^^^F.mul (c^^^F.mul (F.LQ (F.sq g) (d::ps)).2 g) x
   rw [h,h1,F.add,F.avk,F.assoc]
   generalize F.lp (F.LQ (F.sq g) (d::ps)).1 _=A
   generalize F.mul (F.LQ (F.sq g) (d::ps)).2 (F.sq x)=B
   generalize F.mul (F.LQ (F.sq g) (d::ps)).2 (F.mul g x)=D
   generalize F.mul c x=E
   calc E^^^(A^^^B)=(B^^^A^^^E)^^^0:=by rw [Nat.xor_zero];ac_rfl
    _=(B^^^A^^^E)^^^(D^^^D):=by rw [Nat.xor_self]
    _=B^^^D^^^A^^^(E^^^D):=by ac_rfl
theorem at0:∀(p:List Nat)(g:Nat),(∀y∈(F.LQ g p).1,y=0)→(F.LQ g p).2=0→∀y∈p,y=0:=by
 intro p
 induction p with
 |nil=>intro g _ _ y hy;cases hy
 |cons c p ih=>
  intro g h1 h2
  cases p with
  |nil=>intro y hy;rw [List.mem_singleton.1 hy];exact h2
  |cons d ps=>
   simp only [LQ] at h1 h2
   have h3:=h1 _ (List.mem_cons_self ..)
   have h4:=ih (F.sq g) (fun y hy=>h1 y (List.mem_cons_of_mem _ hy)) h3
   rw [h3,F.zero_mul,Nat.xor_zero] at h2
   intro y hy
   rcases List.mem_cons.1 hy with rfl|hy
   ·exact h2
   ·exact h4 y hy
theorem axK:∀(p:List Nat)(g:Nat),(∀y∈p,y<F.q)→(F.LQ g p).2<F.q∧∀y∈(F.LQ g p).1,y<F.q:=by
 intro p
 induction p with
 |nil=>intro g _;exact ⟨F.zlt,fun y hy=>by cases hy⟩
 |cons c p ih=>
  intro g h
  cases p with
  |nil=>exact ⟨h c (List.mem_cons_self ..),fun y hy=>by cases hy⟩
  |cons d ps=>
   have:=ih (F.sq g) fun y hy=>h y (List.mem_cons_of_mem _ hy)
   refine ⟨F.xlt _ _ (h c (List.mem_cons_self ..)) (F.lt _ _),fun y hy=>?_⟩
   rcases List.mem_cons.1 hy with rfl|hy
   ·exact this.1
   ·exact this.2 y hy
def oL:List Bool→List Nat→Nat
 |b::bs,x::xs=>(bif b then x else 0)^^^oL bs xs
 |_,_=>0
def yZ(xs:List Nat):Prop:=∀bs:List Bool,bs.length=xs.length→oL bs xs=0→∀b∈bs,b=false
theorem aqT{φ:Nat→Nat}(h0:φ 0=0)(hφ:∀a b,φ (a^^^b)=φ a^^^φ b):∀(bs:List Bool)(xs:List Nat),oL bs (xs.map φ)=φ (oL bs xs):=by
 intro bs
 induction bs with
 |nil=>intro xs;cases xs<;>exact h0.symm
 |cons b bs ih=>
  intro xs
  cases xs with
  |nil=>exact h0.symm
  |cons x xs=>
   simp only [List.map_cons,oL]
   rw [ih,hφ]
   cases b
   ·simp only [cond_false];rw [h0]
   ·rfl
theorem aaY:∀(n:Nat)(xs:List Nat),oL (List.replicate n false) xs=0:=by
 intro n
 induction n with
 |zero=>intro xs;cases xs<;>rfl
 |succ n ih=>
  intro xs
  cases xs with
  |nil=>rfl
  |cons x xs=>simp only [List.replicate_succ,oL,cond_false];rw [ih];rfl
theorem ayC:∀(bs:List Bool)(xs:List Nat),(∀x∈xs,x<F.q)→oL bs xs<F.q:=by
 intro bs
 induction bs with
 |nil=>intro xs _;cases xs<;>exact F.zlt
 |cons b bs ih=>
  intro xs h
  cases xs with
  |nil=>exact F.zlt
  |cons x xs=>
   simp only [oL]
   refine F.xlt _ _ ?_ (ih xs fun y hy=>h y (List.mem_cons_of_mem _ hy))
   cases b
   ·exact F.zlt
   ·exact h x (List.mem_cons_self ..)
theorem aha:∀(b1:List Bool)(x1:List Nat)(b2:List Bool)(x2:List Nat),b1.length=x1.length→oL (b1++b2) (x1++x2)=oL b1 x1^^^oL b2 x2:=by
 intro b1
 induction b1 with
 |nil=>intro x1 b2 x2 h;cases x1 with
  |nil=>simp [oL]
  |cons _ _=>simp at h
 |cons b b1 ih=>
  intro x1 b2 x2 h
  cases x1 with
  |nil=>simp at h
  |cons x x1=>
   simp only [List.cons_append,oL]
   rw [ih x1 b2 x2 (by simpa using h),Nat.xor_assoc]
theorem yZ.head{g:Nat}{gs:List Nat}(h:yZ (g::gs)):g≠0:=by
 intro h0
 have:=h (true::List.replicate gs.length false) (by simp) (by simp only [oL,cond_true];rw [aaY,h0];rfl) true (List.mem_cons_self ..)
 cases this
theorem yZ.tail{g:Nat}{gs:List Nat}(h:yZ (g::gs)):yZ gs:=by
 intro bs hl hs b hb
 exact h (false::bs) (by simp [hl]) (by simp only [oL,cond_false];rw [hs];rfl) b (List.mem_cons_of_mem _ hb)
theorem ash:∀(n:Nat)(gs p:List Nat),gs.length=n→p.length≤gs.length→(∀g∈gs,g<F.q)→(∀c∈p,c<F.q)→yZ gs→(∀g∈gs,F.lp p g=0)→∀c∈p,c=0:=by
 intro n
 induction n with
 |zero=>
  intro gs p hn hl _ _ _ _ c hc
  rw [List.length_eq_zero_iff.1 (show p.length=0 by omega)] at hc
  cases hc
 |succ n ih=>
  intro gs p hn hl hg hp hi hr
  cases gs with
  |nil=>simp at hn
  |cons g gs=>
  simp only [List.length_cons,Nat.add_right_cancel_iff] at hn
  by_cases hp0:p=[]
  ·subst hp0;intro c hc;cases hc
  have hlen:=F.avE p g hp0
  have hlt:=F.axK p g hp
  have hg0:=hi.head
  have hgq:=hg g (List.mem_cons_self ..)
  have h1:=F.asP p g g
  rw [hr g (List.mem_cons_self ..),show F.sq g^^^F.mul g g=0 from Nat.xor_self _,F.as6,Nat.zero_xor] at h1
  have hc0:(F.LQ g p).2=0:=(F.nz hlt.1 hgq h1.symm).resolve_right hg0
  have hφ0:(fun x=>F.sq x^^^F.mul g x) 0=0:=by show F.sq 0^^^F.mul g 0=0;rw [F.Jl,F.mul_zero];rfl
  have hφ:∀a b,(fun x=>F.sq x^^^F.mul g x) (a^^^b)=(fun x=>F.sq x^^^F.mul g x) a^^^(fun x=>F.sq x^^^F.mul g x) b:=by
   intro a b
   show F.sq (a^^^b)^^^F.mul g (a^^^b)=(F.sq a^^^F.mul g a)^^^(F.sq b^^^F.mul g b)
   rw [F.akN,F.add]
   ac_rfl
  refine F.at0 p g (ih (gs.map fun x=>F.sq x^^^F.mul g x) (F.LQ g p).1 (by simpa using hn) ?_ ?_ hlt.2 ?_ ?_) hc0
  ·rw [List.length_map];simp only [List.length_cons] at hl;omega
  ·intro y hy
   obtain ⟨x,_,rfl⟩:=List.mem_map.1 hy
   exact F.xlt _ _ (F.axh x) (F.lt _ _)
  ·intro bs hbl hbs
   rw [List.length_map] at hbl
   rw [aqT hφ0 hφ] at hbs
   have hS:=F.ayC bs gs fun y hy=>hg y (List.mem_cons_of_mem _ hy)
   have h2:F.mul (oL bs gs^^^g) (oL bs gs)=0:=by rw [F.avk];exact hbs
   rcases F.nz (F.xlt _ _ hS hgq) hS h2 with h3|h3
   ·exfalso
    have:=hi (true::bs) (by simp [hbl]) (by simp only [oL,cond_true];rw [Nat.xor_comm];exact h3) true (List.mem_cons_self ..)
    cases this
   ·exact hi.tail bs hbl h3
  ·intro y hy
   obtain ⟨x,hx,rfl⟩:=List.mem_map.1 hy
   have h2:=F.asP p g x
   rw [hr x (List.mem_cons_of_mem _ hx),hc0,F.zero_mul,Nat.xor_zero] at h2
   exact h2.symm
theorem awF(gs p:List Nat)(hl:p.length≤gs.length)(hg:∀g∈gs,g<F.q)(hp:∀c∈p,c<F.q)(hi:yZ gs)(h:∀g∈gs,F.lp p g=0):∀c∈p,c=0:=F.ash _ gs p rfl hl hg hp hi h
def FX(us:List Nat)(v:Nat):Prop:=∃bs:List Bool,bs.length=us.length∧v=oL bs us
theorem aw9:∀(b1 b2:List Bool)(us:List Nat),b1.length=us.length→b2.length=us.length→oL (List.zipWith xor b1 b2) us=oL b1 us^^^oL b2 us:=by
 intro b1
 induction b1 with
 |nil=>intro b2 us h1 h2;cases us with
  |nil=>simp [oL]
  |cons _ _=>simp at h1
 |cons b b1 ih=>
  intro b2 us h1 h2
  cases us with
  |nil=>simp at h1
  |cons u us=>
   cases b2 with
   |nil=>simp at h2
   |cons b' b2=>
    simp only [List.zipWith_cons_cons,oL]
    rw [ih b2 us (by simpa using h1) (by simpa using h2)]
    have:(bif xor b b' then u else 0)=(bif b then u else 0)^^^(bif b' then u else 0):=by
     cases b<;>cases b'<;>simp
    rw [this]
    ac_rfl
theorem FX.add{us:List Nat}{a b:Nat}(ha:FX us a)(hb:FX us b):FX us (a^^^b):=by
 obtain ⟨b1,h1,rfl⟩:=ha
 obtain ⟨b2,h2,rfl⟩:=hb
 exact ⟨List.zipWith xor b1 b2,by simp [h1,h2],(aw9 b1 b2 us h1 h2).symm⟩
theorem FX.zero(us:List Nat):FX us 0:=⟨List.replicate us.length false,by simp,(aaY _ _).symm⟩
theorem FX.cons{u:Nat}{us:List Nat}{v:Nat}(h:FX (u::us) v):FX us v∨FX us (v^^^u):=by
 obtain ⟨bs,hl,rfl⟩:=h
 cases bs with
 |nil=>simp at hl
 |cons b bs=>
  simp only [List.length_cons,Nat.add_right_cancel_iff] at hl
  cases b
  ·left;exact ⟨bs,hl,by simp only [oL,cond_false];rw [Nat.zero_xor]⟩
  ·right;exact ⟨bs,hl,by simp only [oL,cond_true];rw [Nat.xor_comm u,Nat.xor_assoc,Nat.xor_self,Nat.xor_zero]⟩
theorem FX.map{φ:Nat→Nat}(h0:φ 0=0)(hφ:∀a b,φ (a^^^b)=φ a^^^φ b){us:List Nat}{v:Nat}(h:FX us v):FX (us.map φ) (φ v):=by
 obtain ⟨bs,hl,rfl⟩:=h
 exact ⟨bs,by simpa using hl,(aqT h0 hφ bs us).symm⟩
theorem asy(ψ:Nat→Prop) [∀g,Decidable (ψ g)] (g0:Nat):∀(bs:List Bool)(gs:List Nat),bs.length=gs.length→∃b:Bool,oL bs (gs.map fun g=>if ψ g then g else g^^^g0)=oL (b::bs) (g0::gs):=by
 intro bs
 induction bs with
 |nil=>intro gs h;cases gs with
  |nil=>exact ⟨false,by simp [oL]⟩
  |cons _ _=>simp at h
 |cons b bs ih=>
  intro gs h
  cases gs with
  |nil=>simp at h
  |cons g gs=>
   obtain ⟨b',hb'⟩:=ih gs (by simpa using h)
   simp only [List.map_cons,oL] at hb' ⊢
   rw [hb']
   cases b
   ·exact ⟨b',by simp only [cond_false,Nat.zero_xor]⟩
   ·simp only [cond_true]
    by_cases hg:ψ g
    ·exact ⟨b',by rw [if_pos hg];ac_rfl⟩
    ·refine ⟨!b',?_⟩
     rw [if_neg hg]
     cases b'
     ·simp only [cond_false,Bool.not_false,cond_true,Nat.zero_xor];ac_rfl
     ·simp only [cond_true,Bool.not_true,cond_false,Nat.zero_xor]
      calc g^^^g0^^^(g0^^^oL bs gs)=g^^^oL bs gs^^^(g0^^^g0):=by ac_rfl
       _=g^^^oL bs gs:=by rw [Nat.xor_self,Nat.xor_zero]
theorem ay0{φ:Nat→Nat}(hφ:∀a b,φ (a^^^b)=φ a^^^φ b)(u:Nat)(us:List Nat):∀gs:List Nat,(∀g∈gs,g<F.q)→(∀g∈gs,FX (u::us) (φ g)) →
  ∃gs',gs.length≤gs'.length+1∧(∀g∈gs',g<F.q)∧(∀g∈gs',FX us (φ g))∧∀zs,yZ (zs++gs)→yZ (zs++gs'):=by
 intro gs
 induction gs with
 |nil=>intro _ _;exact ⟨[],by simp,fun g hg=>absurd hg List.not_mem_nil,fun g hg=>absurd hg List.not_mem_nil,fun zs h=>h⟩
 |cons g0 gs ih=>
  intro hlt hs
  have hlt2:∀g∈gs,g<F.q:=fun g hg=>hlt g (List.mem_cons_of_mem _ hg)
  by_cases h0:FX us (φ g0)
  ·obtain ⟨gs',h1,h2,h3,h4⟩:=ih hlt2 fun g hg=>hs g (List.mem_cons_of_mem _ hg)
   refine ⟨g0::gs',by simp only [List.length_cons];omega,fun g hg=>?_,fun g hg=>?_,fun zs hz=>?_⟩
   ·rcases List.mem_cons.1 hg with rfl|hg
    ·exact hlt _ (List.mem_cons_self ..)
    ·exact h2 g hg
   ·rcases List.mem_cons.1 hg with rfl|hg
    ·exact h0
    ·exact h3 g hg
   ·have:=h4 (zs++[g0]) (by simpa using hz)
    simpa using this
  ·have hu:=(hs g0 (List.mem_cons_self ..)).cons.resolve_left h0
   haveI:∀g,Decidable (FX us (φ g)):=fun g=>Classical.propDecidable _
   refine ⟨gs.map fun g=>if FX us (φ g) then g else g^^^g0,by simp,fun g hg=>?_,fun g hg=>?_,fun zs hz=>?_⟩
   ·obtain ⟨x,hx,rfl⟩:=List.mem_map.1 hg
    split
    ·exact hlt2 x hx
    ·exact F.xlt _ _ (hlt2 x hx) (hlt g0 (List.mem_cons_self ..))
   ·obtain ⟨x,hx,rfl⟩:=List.mem_map.1 hg
    split
    ·assumption
    ·rename_i hn
     have h1:=(hs x (List.mem_cons_of_mem _ hx)).cons.resolve_left hn
     rw [hφ]
     have h2:=h1.add hu
     rw [show φ x^^^u^^^(φ g0^^^u)=φ x^^^φ g0 from by
      calc φ x^^^u^^^(φ g0^^^u)=φ x^^^φ g0^^^(u^^^u):=by ac_rfl
       _=φ x^^^φ g0:=by rw [Nat.xor_self,Nat.xor_zero]] at h2
     exact h2
   ·intro bs hl hb b hbm
    simp only [List.length_append,List.length_map] at hl
    have hsp:bs=bs.take zs.length++bs.drop zs.length:=(List.take_append_drop _ _).symm
    have hl1:(bs.take zs.length).length=zs.length:=by rw [List.length_take];omega
    have hl2:(bs.drop zs.length).length=gs.length:=by rw [List.length_drop];omega
    rw [hsp,aha _ _ _ _ hl1] at hb
    obtain ⟨c,hc⟩:=asy (fun g=>FX us (φ g)) g0 (bs.drop zs.length) gs hl2
    rw [hc,←aha _ _ _ _ hl1] at hb
    have hall:=hz _ (by simp [hl1,hl2]) hb
    rw [hsp] at hbm
    refine hall b ?_
    rcases List.mem_append.1 hbm with h|h
    ·exact List.mem_append.2 (.inl h)
    ·exact List.mem_append.2 (.inr (List.mem_cons_of_mem _ h))
theorem aAV{φ:Nat→Nat}(hφ:∀a b,φ (a^^^b)=φ a^^^φ b):∀(us gs:List Nat),(∀g∈gs,g<F.q)→(∀g∈gs,FX us (φ g))→yZ gs →
  ∃hs,gs.length≤hs.length+us.length∧(∀h∈hs,h<F.q)∧(∀h∈hs,φ h=0)∧yZ hs:=by
 intro us
 induction us with
 |nil=>
  intro gs hlt hs hi
  refine ⟨gs,by simp,hlt,fun g hg=>?_,hi⟩
  obtain ⟨bs,_,h⟩:=hs g hg
  rw [h]
  cases bs<;>rfl
 |cons u us ih=>
  intro gs hlt hs hi
  obtain ⟨gs',h1,h2,h3,h4⟩:=F.ay0 hφ u us gs hlt hs
  obtain ⟨hs',k1,k2,k3,k4⟩:=ih gs' h2 h3 (h4 [] hi)
  exact ⟨hs',by simp only [List.length_cons];omega,k2,k3,k4⟩
theorem awG{us gs p:List Nat}(hl:p.length+us.length≤gs.length)(hg:∀g∈gs,g<F.q)(hp:∀c∈p,c<F.q)(hi:yZ gs)(h:∀g∈gs,FX us (F.lp p g)):∀c∈p,c=0:=by
 obtain ⟨hs,h1,h2,h3,h4⟩:=F.aAV (φ:=F.lp p) (F.asg p) us gs hg h hi
 exact F.awF hs p (by omega) h2 hp h4 h3
end FO
-- shared
def cf(p:List Nat)(i:Nat):Nat:=p.getD i 0
theorem Bf(i:Nat):cf [] i=0:=by simp [cf]
theorem QG(a:Nat)(p:List Nat):cf (a::p) 0=a:=by simp [cf]
theorem rC(a:Nat)(p:List Nat)(i:Nat):cf (a::p) (i+1)=cf p i:=by simp [cf]
theorem aiF{p:List Nat}{i:Nat}(h:p.length≤i):cf p i=0:=by
 unfold cf
 rw [List.getD_eq_getElem?_getD,List.getElem?_eq_none h];rfl
theorem avt{p:List Nat}(h:∀i,cf p i=0):∀c∈p,c=0:=by
 intro c hc
 obtain ⟨i,hi⟩:=List.getElem?_of_mem hc
 have:=h i
 unfold cf at this
 rw [List.getD_eq_getElem?_getD,hi] at this
 exact this
theorem atV{p:List Nat}(h:∀c∈p,c=0)(i:Nat):cf p i=0:=by
 unfold cf
 rw [List.getD_eq_getElem?_getD]
 cases hi:p[i]? with
 |none=>rfl
 |some c=>exact h c (List.mem_of_getElem? hi)
theorem anz{g:Nat→Nat}(h0:g 0=0)(p:List Nat)(i:Nat):cf (p.map g) i=g (cf p i):=by
 unfold cf
 rw [List.getD_eq_getElem?_getD,List.getD_eq_getElem?_getD,List.getElem?_map]
 cases p[i]? with
 |none=>exact h0.symm
 |some c=>rfl
theorem arv:∀{p q:List Nat},p.length=q.length→(∀i,cf p i=cf q i)→p=q:=by
 intro p
 induction p with
 |nil=>intro q h _;exact (List.length_eq_zero_iff.1 h.symm).symm
 |cons a p ih=>
  intro q h hc
  cases q with
  |nil=>simp at h
  |cons b q=>
   have h0:=hc 0
   rw [QG,QG] at h0
   rw [h0,ih (by simpa using h) fun i=>by have:=hc (i+1);rwa [rC,rC] at this]
def jS:List Nat→List Nat→List Nat
 |[],q=>q
 |a::p,[]=>a::p
 |a::p,b::q=>(a^^^b)::jS p q
theorem aiv(p:List Nat):jS p []=p:=by cases p<;>rfl
theorem OO:∀(p q:List Nat),(jS p q).length=max p.length q.length:=by
 intro p
 induction p with
 |nil=>intro q;simp [jS]
 |cons a p ih=>
  intro q
  cases q with
  |nil=>simp [jS]
  |cons b q=>simp only [jS,List.length_cons,ih];omega
theorem Ew:∀(p q:List Nat)(i:Nat),cf (jS p q) i=cf p i^^^cf q i:=by
 intro p
 induction p with
 |nil=>intro q i;rw [Bf,Nat.zero_xor];rfl
 |cons a p ih=>
  intro q i
  cases q with
  |nil=>rw [Bf,Nat.xor_zero];rfl
  |cons b q=>
   cases i with
   |zero=>rfl
   |succ i=>simp only [jS,rC];exact ih q i
def bX:List Nat→List Nat
 |[]=>[]
 |a::p=>match bX p with
  |[]=>if a=0 then [] else [a]
  |b::q=>a::b::q
theorem jP:∀(p:List Nat)(i:Nat),cf (bX p) i=cf p i:=by
 intro p
 induction p with
 |nil=>intro i;rfl
 |cons a p ih=>
  intro i
  unfold bX
  cases ht:bX p with
  |nil=>
   rw [ht] at ih
   simp only
   split
   ·rename_i h
    subst h
    cases i with
    |zero=>rfl
    |succ i=>rw [rC,←ih i,Bf,Bf]
   ·cases i with
    |zero=>rfl
    |succ i=>rw [rC,rC,←ih i]
  |cons b q=>
   rw [ht] at ih
   simp only
   cases i with
   |zero=>rfl
   |succ i=>rw [rC,rC,←ih i]
theorem wX:∀(p:List Nat),bX p≠[]→cf (bX p) ((bX p).length-1)≠0:=by
 intro p
 induction p with
 |nil=>intro h;exact absurd rfl h
 |cons a p ih=>
  unfold bX
  cases ht:bX p with
  |nil=>
   simp only
   split
   ·intro h;exact absurd rfl h
   ·rename_i h;intro _;exact h
  |cons b q=>
   rw [ht] at ih
   intro _
   have:=ih (by simp)
   simp only [List.length_cons,Nat.add_sub_cancel] at this ⊢
   rw [rC];exact this
theorem jI:∀(p:List Nat),(bX p).length≤p.length:=by
 intro p
 induction p with
 |nil=>exact Nat.le_refl _
 |cons a p ih=>
  unfold bX
  cases ht:bX p with
  |nil=>
   simp only
   split<;>simp
  |cons b q=>rw [ht] at ih;simp only [List.length_cons] at ih ⊢;omega
theorem ani{p:List Nat}(h:∀i,cf p i=0):bX p=[]:=by
 apply Classical.byContradiction
 intro hn
 exact wX p hn (by rw [jP];exact h _)
theorem afy{p q:List Nat}(hp:p≠[]→cf p (p.length-1)≠0)(hq:q≠[]→cf q (q.length-1)≠0)(h:∀i,cf p i=cf q i):p=q:=by
 have key:∀{p q:List Nat},(p≠[]→cf p (p.length-1)≠0)→(∀i,cf p i=cf q i)→p.length≤q.length:=by
  intro p q hp h
  by_cases hn:p=[]
  ·subst hn;exact Nat.zero_le _
  ·have:=hp hn
   have hl:0<p.length:=List.length_pos_iff.2 hn
   apply Classical.byContradiction
   intro hlt
   rw [h,aiF (by omega)] at this
   exact this rfl
 exact arv (Nat.le_antisymm (key hp h) (key hq fun i=>(h i).symm)) h
def uW(k:Nat)(p:List Nat):List Nat:=p++List.replicate (k-p.length) 0
theorem asK(k:Nat)(p:List Nat)(i:Nat):cf (uW k p) i=cf p i:=by
 unfold uW cf
 rw [List.getD_eq_getElem?_getD,List.getD_eq_getElem?_getD]
 by_cases h:i<p.length
 ·rw [List.getElem?_append_left h]
 ·rw [List.getElem?_append_right (by omega),List.getElem?_eq_none (l:=p) (by omega),List.getElem?_replicate]
  split<;>rfl
theorem acr{k:Nat}{p:List Nat}(h:p.length≤k):(uW k p).length=k:=by simp [uW];omega
theorem Rv{k:Nat}{m:List Nat}(h:m.length=k):uW k (bX m)=m:=by
 have:=jI m
 exact arv (by rw [acr (by omega),h]) fun i=>by rw [asK,jP]
namespace FO
variable (F : FO)
theorem as5:∀(p q:List Nat)(x:Nat),F.lp (jS p q) x=F.lp p x^^^F.lp q x:=by
 intro p
 induction p with
 |nil=>intro q x;simp [jS,lp]
 |cons a p ih=>
  intro q x
  cases q with
  |nil=>simp [jS,lp]
  |cons b q=>
   simp only [jS,lp]
   rw [F.avk,ih]
   ac_rfl
def fD:List Nat→(Nat→Nat)→Nat→Nat
 |[],_,_=>0
 |v::vs,x,i=>F.mul v (x i)^^^(match i with
  |0=>0
  |i+1=>fD vs (fun j=>F.sq (x j)) i)
def tq:List Nat→List Nat→List Nat
 |[],_=>[]
 |v::vs,m=>jS (m.map (F.mul v)) (0::tq vs (m.map F.sq))
theorem OP:∀(V m:List Nat)(i:Nat),cf (F.tq V m) i=F.fD V (cf m) i:=by
 intro V
 induction V with
 |nil=>intro m i;exact Bf i
 |cons v vs ih=>
  intro m i
  simp only [tq,fD]
  rw [Ew,anz (F.mul_zero v)]
  cases i with
  |zero=>rfl
  |succ i=>
   rw [rC,ih]
   rw [show cf (m.map F.sq)=fun j=>F.sq (cf m j) from funext fun j=>anz F.Jl m j]
theorem Xn:∀(V m:List Nat),V≠[]→m≠[]→(F.tq V m).length+1=V.length+m.length:=by
 intro V
 induction V with
 |nil=>intro m h;exact absurd rfl h
 |cons v vs ih=>
  intro m _ hm
  have hl:0<m.length:=List.length_pos_iff.2 hm
  simp only [tq]
  rw [OO,List.length_map,List.length_cons]
  by_cases hv:vs=[]
  ·subst hv;simp only [tq,List.length_nil,List.length_cons];omega
  ·have:=ih (m.map F.sq) hv (by simpa using hm)
   rw [List.length_map] at this
   simp only [List.length_cons];omega
theorem ah6:∀{p q:List Nat},(∀c∈p,c<F.q)→(∀c∈q,c<F.q)→∀c∈jS p q,c<F.q:=by
 intro p
 induction p with
 |nil=>intro q _ hq;exact hq
 |cons a p ih=>
  intro q hp hq
  cases q with
  |nil=>exact hp
  |cons b q=>
   intro c hc
   rcases List.mem_cons.1 hc with rfl|hc
   ·exact F.xlt _ _ (hp _ (List.mem_cons_self ..)) (hq _ (List.mem_cons_self ..))
   ·exact ih (fun c hc=>hp c (List.mem_cons_of_mem _ hc)) (fun c hc=>hq c (List.mem_cons_of_mem _ hc)) c hc
theorem apj:∀(V m:List Nat),∀c∈F.tq V m,c<F.q:=by
 intro V
 induction V with
 |nil=>intro m c hc;cases hc
 |cons v vs ih=>
  intro m
  refine F.ah6 (fun c hc=>?_) (fun c hc=>?_)
  ·obtain ⟨x,_,rfl⟩:=List.mem_map.1 hc
   exact F.lt _ _
  ·rcases List.mem_cons.1 hc with rfl|hc
   ·exact F.zlt
   ·exact ih _ c hc
theorem auB(v:Nat):∀(m:List Nat)(x:Nat),F.lp (m.map (F.mul v)) x=F.mul v (F.lp m x):=by
 intro m
 induction m with
 |nil=>intro x;exact (F.mul_zero v).symm
 |cons c m ih=>
  intro x
  simp only [List.map_cons,lp]
  rw [ih,F.add,F.assoc]
theorem awH:∀(m:List Nat)(x:Nat),F.lp (m.map F.sq) (F.sq x)=F.sq (F.lp m x):=by
 intro m
 induction m with
 |nil=>intro x;exact F.Jl.symm
 |cons c m ih=>
  intro x
  simp only [List.map_cons,lp]
  rw [ih,F.akN,F.axi]
theorem awE:∀(V m:List Nat)(x:Nat),F.lp (F.tq V m) x=F.lp V (F.lp m x):=by
 intro V
 induction V with
 |nil=>intro m x;rfl
 |cons v vs ih=>
  intro m x
  simp only [tq]
  rw [F.as5,F.auB]
  simp only [lp]
  rw [F.zero_mul,Nat.zero_xor,ih,F.awH]
theorem amg:∀(V:List Nat)(x y:Nat→Nat)(i:Nat),F.fD V (fun j=>x j^^^y j) i=F.fD V x i^^^F.fD V y i:=by
 intro V
 induction V with
 |nil=>intro x y i;simp [fD]
 |cons v vs ih=>
  intro x y i
  simp only [fD]
  rw [F.add]
  cases i with
  |zero=>simp
  |succ i=>
   simp only
   rw [show (fun j=>F.sq (x j^^^y j))=fun j=>F.sq (x j)^^^F.sq (y j) from funext fun j=>F.akN _ _,ih]
   ac_rfl
theorem adS:∀(V:List Nat)(d:Nat)(x:Nat→Nat)(j:Nat),V.length≤d+1→(∀i,j<i→x i=0)→F.fD V x (d+j)=F.mul (cf V d) (F.sqn d (x j)):=by
 intro V
 induction V with
 |nil=>intro d x j _ _;rw [Bf,F.zero_mul];rfl
 |cons v vs ih=>
  intro d x j hl hx
  cases d with
  |zero=>
   have:vs=[]:=by simpa using hl
   subst this
   rw [Nat.zero_add,QG]
   simp only [fD,sqn]
   cases j with
   |zero=>simp
   |succ j=>simp
  |succ d=>
   rw [show d+1+j=d+j+1 by omega]
   simp only [fD]
   rw [hx _ (by omega),F.mul_zero,Nat.zero_xor,ih d (fun i=>F.sq (x i)) j (by simpa using hl) (fun i hi=>by rw [hx i hi,F.Jl]),rC]
   rfl
theorem adT(V:List Nat):∀(x:Nat→Nat)(j i:Nat),(∀i,j≤i→x i=0)→V.length+j≤i+1→F.fD V x i=0:=by
 induction V with
 |nil=>intro x j i _ _;rfl
 |cons v vs ih=>
  intro x j i hx hi
  simp only [List.length_cons] at hi
  simp only [fD]
  rw [hx i (by omega),F.mul_zero,Nat.zero_xor]
  cases i with
  |zero=>rfl
  |succ i=>exact ih _ j i (fun i hi=>by rw [hx i hi,F.Jl]) (by omega)
theorem avz{V x:List Nat}(hV:∀c∈V,c<F.q)(hx:∀c∈x,c<F.q)(hn:V≠[])(hl:cf V (V.length-1)≠0)(h:∀i,V.length-1≤i→F.fD V (cf x) i=0):∀i,cf x i=0:=by
 have hvl:0<V.length:=List.length_pos_iff.2 hn
 have hlt:∀{l:List Nat},(∀c∈l,c<F.q)→∀i,cf l i<F.q:=by
  intro l hl i
  unfold cf
  rw [List.getD_eq_getElem?_getD]
  cases hi:l[i]? with
  |none=>exact F.zlt
  |some c=>exact hl c (List.mem_of_getElem? hi)
 have key:bX x=[]:=by
  apply Classical.byContradiction
  intro hne
  have ht:=wX x hne
  rw [jP] at ht
  have htop:=F.adS V (V.length-1) (cf x) ((bX x).length-1) (by omega) (fun i hi=>by rw [←jP];exact aiF (by omega))
  rw [h _ (by omega)] at htop
  rcases F.nz (hlt hV _) (F.Hw _ (hlt hx _)) htop.symm with h0|h0
  ·exact hl h0
  ·exact ht (F.atJ _ (hlt hx _) h0)
 intro i
 rw [←jP,key,Bf]
end FO
-- shared
def CF(M k:Nat):List Int:=(List.replicate M 0).set k 1
def okV(f:TF3)(M:Nat)(r:List Int):Prop:=r.length=M∧∀y∈r,inF f y
theorem Qy{f:TF3}(hf:aO f=true)(M k:Nat):okV f M (CF M k):=by
 refine ⟨by simp [CF],fun y hy=>?_⟩
 rcases List.mem_or_eq_of_mem_set hy with h|rfl
 ·rw [(List.mem_replicate.1 h).2];exact gG
 ·exact anU hf
theorem axC{f:TF3}(M:Nat):okV f M (List.replicate M 0):=⟨by simp,fun y hy=>by rw [(List.mem_replicate.1 hy).2];exact gG⟩
def lT(f:TF3):List Int→List Int→Int
 |x::u,y::w=>jJ .i64 (gu f x y) (lT f u w)
 |_,_=>0
theorem IC{f:TF3}(hf:aO f=true):∀{u w:List Int},(∀x∈u,inF f x)→(∀x∈w,inF f x)→inF f (lT f u w):=by
 intro u
 induction u with
 |nil=>intro w _ _;exact gG
 |cons x u ih=>
  intro w hu hw
  cases w with
  |nil=>exact gG
  |cons y w=>exact MP hf (xL hf (hu x (List.mem_cons_self ..)) (hw y (List.mem_cons_self ..))) (ih (fun z hz=>hu z (List.mem_cons_of_mem _ hz)) fun z hz=>hw z (List.mem_cons_of_mem _ hz))
theorem Xo{f:TF3}(hf:aO f=true):∀{u w:List Int},(∀x∈u,inF f x)→(∀x∈w,inF f x)→lT f u w=lT f w u:=by
 intro u
 induction u with
 |nil=>intro w _ _;cases w<;>rfl
 |cons x u ih=>
  intro w hu hw
  cases w with
  |nil=>rfl
  |cons y w=>
   simp only [lT]
   rw [jc hf (hu x (List.mem_cons_self ..)) (hw y (List.mem_cons_self ..)),ih (fun z hz=>hu z (List.mem_cons_of_mem _ hz)) fun z hz=>hw z (List.mem_cons_of_mem _ hz)]
theorem aB0{f:TF3}(hf:aO f=true){a b c d:Int}(ha:inF f a)(hb:inF f b)(hc:inF f c)(hd:inF f d):jJ .i64 (jJ .i64 a b) (jJ .i64 c d)=jJ .i64 (jJ .i64 a c) (jJ .i64 b d):=by
 rw [Al hf ha hb (MP hf hc hd),←Al hf hb hc hd,XR hf hb hc,Al hf hc hb hd,←Al hf ha hc (MP hf hb hd)]
theorem auf{f:TF3}(hf:aO f=true){c:Int}(hc:inF f c):∀{u v w:List Int},u.length=v.length→(∀x∈u,inF f x)→(∀x∈v,inF f x)→(∀x∈w,inF f x)→lT f (adJ f u v c) w=jJ .i64 (lT f u w) (gu f c (lT f v w)):=by
 intro u
 induction u with
 |nil=>
  intro v w hl _ _ _
  cases v with
  |nil=>simp only [adJ,List.zip_nil_left,List.map_nil,lT];rw [uo hf hc,qX hf gG]
  |cons y v=>simp at hl
 |cons x u ih=>
  intro v w hl hu hv hw
  cases v with
  |nil=>simp at hl
  |cons y v=>
   cases w with
   |nil=>simp only [lT,adJ,List.zip_cons_cons,List.map_cons];rw [uo hf hc,qX hf gG]
   |cons z w=>
    have hx:=hu x (List.mem_cons_self ..)
    have hy:=hv y (List.mem_cons_self ..)
    have hz:=hw z (List.mem_cons_self ..)
    have hu2:∀x∈u,inF f x:=fun z hz=>hu z (List.mem_cons_of_mem _ hz)
    have hv2:∀x∈v,inF f x:=fun z hz=>hv z (List.mem_cons_of_mem _ hz)
    have hw2:∀x∈w,inF f x:=fun z hz=>hw z (List.mem_cons_of_mem _ hz)
    have:=ih (by simpa using hl) hu2 hv2 hw2
    unfold adJ at this
    simp only [adJ,List.zip_cons_cons,List.map_cons,lT]
    rw [this]
    have hd1:=IC hf hu2 hw2
    have hd2:=IC hf hv2 hw2
    have hyc:=xL hf hy hc
    rw [ajN hf hc (xL hf hy hz) hd2]
    rw [jc hf (MP hf hx hyc) hz,ajN hf hz hx hyc,jc hf hz hx]
    rw [show gu f z (gu f y c)=gu f c (gu f y z) from by
     rw [jc hf hy hc,←aat hf hz hc hy,jc hf hz hc,aat hf hc hz hy,jc hf hz hy]]
    exact aB0 hf (xL hf hx hz) (xL hf hc (xL hf hy hz)) hd1 (xL hf hc hd2)
theorem adX{f:TF3}(hf:aO f=true):∀{w:List Int}(n:Nat),(∀x∈w,inF f x)→lT f (List.replicate n 0) w=0:=by
 intro w n
 induction n generalizing w with
 |zero=>intro _;rfl
 |succ n ih=>
  intro hw
  cases w with
  |nil=>rfl
  |cons y w=>
   simp only [List.replicate_succ,lT]
   rw [ih fun z hz=>hw z (List.mem_cons_of_mem _ hz),jc hf gG (hw y (List.mem_cons_self ..)),uo hf (hw y (List.mem_cons_self ..)),qX hf gG]
theorem amn{f:TF3}(hf:aO f=true):∀{w:List Int}(n k:Nat),(∀x∈w,inF f x)→n=w.length→k<n→lT f (CF n k) w=w.getD k 0:=by
 intro w
 induction w with
 |nil=>intro n k _ h1 h2;simp at h1;omega
 |cons y w ih=>
  intro n k hw h1 h2
  simp only [List.length_cons] at h1
  subst h1
  have hy:=hw y (List.mem_cons_self ..)
  have hw2:∀x∈w,inF f x:=fun z hz=>hw z (List.mem_cons_of_mem _ hz)
  cases k with
  |zero=>
   simp only [CF,List.replicate_succ,List.set_cons_zero,lT,List.getD_cons_zero]
   rw [adX hf _ hw2,jc hf (anU hf) hy,ach hf hy,QA hf hy]
  |succ k=>
   have:=ih w.length k hw2 rfl (by omega)
   unfold CF at this
   simp only [CF,List.replicate_succ,List.set_cons_succ,lT,List.getD_cons_succ]
   rw [this,jc hf gG hy,uo hf hy]
   refine qX hf ?_
   rw [List.getD_eq_getElem?_getD,List.getElem?_eq_getElem (by omega)]
   exact hw2 _ (List.getElem_mem _)
-- shared
def cell(L:List (List Int))(j c:Nat):Int:=(L.getD j []).getD c 0
theorem cell_of{L:List (List Int)}{j c:Nat}{r:List Int}{x:Int}(h:L[j]?=some r)(hx:r[c]?=some x):cell L j c=x:=by
 unfold cell;rw [vg h,vg hx]
theorem apf{L:List (List Int)}{j c:Nat}{r:List Int}(h:L[j]?=some r):cell L j c=r.getD c 0:=by
 unfold cell;rw [vg h]
theorem Mg{f:TF3}{n:Nat}{L:List (List Int)}(h:GR f n L)(j c:Nat):inF f (cell L j c):=by
 unfold cell
 cases hj:L[j]? with
 |none=>rw [List.getD_eq_getElem?_getD (l:=L),hj];exact gG
 |some r=>
  rw [vg hj,List.getD_eq_getElem?_getD]
  cases hc:r[c]? with
  |none=>exact gG
  |some x=>exact (EO h hj).2 x (List.mem_of_getElem? hc)
theorem amQ{f:TF3}{n:Nat}{L:List (List Int)}(h:GR f n L){j c:Nat}(hc:c<n){r:List Int}(hr:L[j]?=some r):DX c r = !decide (cell L j c=0):=by
 have hx:=List.getElem?_eq_getElem (show c<r.length by rw [(EO h hr).1];exact hc)
 rw [cell_of hr hx]
 unfold DX
 rw [hx]
theorem apV{α:Type}(p:α→Bool):∀(l:List α)(i:Nat){k:Nat},oq p i l=((i+k:Nat):Int)→∀j,j<k→∀x,l[j]?=some x→p x=false:=by
 intro l
 induction l with
 |nil=>intro i k h j hj x hx;simp at hx
 |cons y l ih=>
  intro i k h j hj x hx
  rcases Bool.eq_false_or_eq_true (p y) with hp|hp
  ·simp only [oq,hp,cond_true] at h;omega
  ·simp only [oq,hp,cond_false] at h
   cases j with
   |zero=>simp only [List.getElem?_cons_zero,Option.some.injEq] at hx;subst hx;exact hp
   |succ j=>exact ih (i+1) (k:=k-1) (by rw [h];congr 1;omega) j (by omega) x (by simpa using hx)
theorem YE{f:TF3}(hf:aO f=true){n c:Nat}(hc:c<n){a:Nat}{L:List (List Int)}(h:GR f n L) :
  ((∀j,a≤j→j<L.length→cell L j c=0)∧jl f c (a,L)=(a,L)) ∨
  ∃(k:Nat) (G:List (List Int)),a≤k∧k<L.length∧cell L k c≠0∧(∀j,a≤j→j<k→cell L j c=0)∧jl f c (a,L)=(a+1,G)∧GR f n G∧G.length=L.length ∧
   (∀e,e<n→cell G a e=gu f (cell L k e) (Bc f (cell L k c))) ∧
   ∀j,j<L.length→j≠a→∀e,e<n→cell G j e=jJ .i64 (cell L (if j=k then a else j) e) (gu f (cell L (if j=k then a else j) c) (cell G a e)):=by
 have hok:=Ju (c:=c) (s:=(a,L)) hf h
 rcases zZ (DX c) (L.drop a) a with ⟨h1,h2⟩|⟨k,row,h1,h2,h3⟩
 ·left
  refine ⟨fun j hj hl=>?_,?_⟩
  ·have hr:=List.getElem?_eq_getElem hl
   have hm:L[j]∈L.drop a:=by
    refine List.mem_of_getElem? (i:=j-a) ?_
    rw [List.getElem?_drop,show a+(j-a)=j by omega]
    exact hr
   have:=h2 _ hm
   rw [amQ h hc hr] at this
   simpa using this
  ·unfold jl
   dsimp only
   rw [h1]
   rfl
 ·right
  have hak:L[a+k]?=some row:=by rw [←h1,List.getElem?_drop]
  have hlt:=(List.getElem?_eq_some_iff.1 hak).1
  obtain ⟨r0,hr0⟩:∃r0,L[a]?=some r0:=⟨_,List.getElem?_eq_getElem (by omega)⟩
  obtain ⟨x,hx,hx0⟩:=aod h2
  have hxf:=(EO h hak).2 x (List.mem_of_getElem? hx)
  have hrl:=(EO h hak).1
  have hst:jl f c (a,L)=(a+1,Gs f c a (Um f c (a+k) a L)):=by
   unfold jl
   dsimp only
   rw [h3,decide_eq_false (by omega),cond_false,Int.toNat_natCast]
  have hp:Um f c (a+k) a L=(L.set (a+k) r0).set a (row.map fun y=>gu f y (Bc f x)):=by
   unfold Um aaX
   rw [hak,hr0]
   simp only [hx]
  have hpg:=aii (c:=c) (k:=a+k) (a:=a) hf h
  have hpa:(Um f c (a+k) a L)[a]?=some (row.map fun y=>gu f y (Bc f x)):=by rw [hp];exact List.getElem?_set_self (by simp;omega)
  have hcl:Gs f c a (Um f c (a+k) a L)=(Um f c (a+k) a L).mapIdx (oN f c a (row.map fun y=>gu f y (Bc f x))):=by
   unfold Gs;rw [hpa]
  have hcg:=amf (c:=c) (a:=a) hf hpg.1
  have hkc:cell L (a+k) c=x:=cell_of hak hx
  have hone:gu f x (Bc f x)=1:=(wD hf hxf).2 hx0
  have hownc:(row.map fun y=>gu f y (Bc f x))[c]?=some 1:=by rw [List.getElem?_map,hx,Option.map_some,hone]
  have hga:(Gs f c a (Um f c (a+k) a L))[a]?=some (row.map fun y=>gu f y (Bc f x)):=by
   rw [hcl,List.getElem?_mapIdx,hpa,Option.map_some]
   unfold oN
   rw [hownc]
   simp
  refine ⟨a+k,Gs f c a (Um f c (a+k) a L),by omega,hlt,by rw [hkc];exact hx0,fun j h4 h5=>?_,hst,hcg.1,by rw [hcg.2,hpg.2],fun e he=>?_,fun j hj hja e he=>?_⟩
  ·-- those before the pivot
   have hr:=List.getElem?_eq_getElem (show j<L.length by omega)
   have hb:=apV (DX c) (L.drop a) a h3 (j-a) (by omega) L[j] (by rw [List.getElem?_drop,show a+(j-a)=j by omega];exact hr)
   rw [amQ h hc hr] at hb
   simpa using hb
  ·have hy:=List.getElem?_eq_getElem (show e<row.length by omega)
   rw [cell_of hak hy,hkc]
   exact cell_of hga (by rw [List.getElem?_map,hy];rfl)
  ·have hj0:(Um f c (a+k) a L)[j]?=L[if j=a+k then a else j]?:=by
    rw [hp,List.getElem?_set_ne (Ne.symm hja),List.getElem?_set]
    by_cases hjk:j=a+k
    ·rw [if_pos hjk.symm,if_pos hlt,if_pos hjk,hr0]
    ·rw [if_neg (Ne.symm hjk),if_neg hjk]
   obtain ⟨r,hr⟩:∃r,L[if j=a+k then a else j]?=some r:=⟨_,List.getElem?_eq_getElem (by split<;>omega)⟩
   rw [hr] at hj0
   obtain ⟨hrl2,hrf2⟩:=EO h hr
   have hz:=List.getElem?_eq_getElem (show c<r.length by omega)
   have hy:=List.getElem?_eq_getElem (show e<r.length by omega)
   have hye:=List.getElem?_eq_getElem (show e<(row.map fun y=>gu f y (Bc f x)).length by simp;omega)
   have hyf:=hrf2 _ (List.mem_of_getElem? hy)
   have hown:=(EO hpg.1 hpa).2
   rw [cell_of hr hy,cell_of hr hz,cell_of hga hye]
   have hgj:(Gs f c a (Um f c (a+k) a L))[j]?=some (oN f c a (row.map fun y=>gu f y (Bc f x)) j r):=by
    rw [hcl,List.getElem?_mapIdx,hj0,Option.map_some]
   have hwe:=hown _ (List.mem_of_getElem? hye)
   unfold oN at hgj
   rw [hz] at hgj
   dsimp only at hgj
   rw [decide_eq_false hja,Bool.false_or] at hgj
   by_cases h0:r[c]=0
   ·rw [decide_eq_true h0,cond_true] at hgj
    rw [cell_of hgj hy,h0,jc hf gG hwe,uo hf hwe,QA hf hyf]
   ·rw [decide_eq_false h0,cond_false] at hgj
    refine cell_of hgj ?_
    rw [List.getElem?_map]
    rw [show (r.zip (row.map fun y=>gu f y (Bc f x)))[e]?=some (r[e],(row.map fun y=>gu f y (Bc f x))[e]'(by simp;omega)) from List.getElem?_zip_eq_some.2 ⟨hy,hye⟩]
    rfl
-- shared
structure zP(f:TF3)(n c a:Nat)(L:List (List Int))(p:List Nat):Prop where
 gr:GR f n L
 ac:a≤c
 al:a≤L.length
 pl:p.length=a
 plt:∀q∈p,q<c
 pinc:p.Pairwise (· < ·)
 low:∀j,a≤j→j<L.length→∀e,e<c→cell L j e=0
 dia:∀i q,p[i]?=some q→∀j,j<L.length→cell L j q=if j=i then 1 else 0
 lead:∀i q,p[i]?=some q→∀e,e<q→cell L i e=0
 full:a=c→p=List.range c
theorem zP.start{f:TF3}{n:Nat}{L:List (List Int)}(h:GR f n L):zP f n 0 0 L []:=
 ⟨h,Nat.le_refl _,Nat.zero_le _,rfl,fun _ h=>absurd h List.not_mem_nil,List.Pairwise.nil,fun _ _ _ _ h=>absurd h (Nat.not_lt_zero _),fun i q h=>absurd h (by simp),fun i q h=>absurd h (by simp),fun _=>rfl⟩
theorem zP.step{f:TF3}(hf:aO f=true){n c a:Nat}{L:List (List Int)}{p:List Nat}(h:zP f n c a L p)(hc:c<n)(hn:c<n):∃p',zP f n (c+1) (jl f c (a,L)).1 (jl f c (a,L)).2 p'∧(jl f c (a,L)).2.length=L.length:=by
 rcases YE hf hc (a:=a) h.gr with ⟨h1,h2⟩|⟨k,G,hak,hk,hx,_,h2,hg,hgl,hga,hgj⟩
 ·rw [h2]
  refine ⟨p,⟨h.gr,by have:=h.ac;omega,h.al,h.pl,fun q hq=>by have:=h.plt q hq;omega,h.pinc,fun j hj hl e he=>?_,h.dia,h.lead,fun hh=>by have:=h.ac;dsimp only at hh;omega⟩,rfl⟩
  by_cases hec:e=c
  ·subst hec;exact h1 j hj hl
  ·exact h.low j hj hl e (by omega)
 ·rw [h2]
  have hin:=Mg h.gr
  have hgin:=Mg hg
  have hxi:=wD hf (hin k c)
  have g1:cell G a c=1:=by rw [hga c hc];exact hxi.2 hx
  have g0:∀e,e<c→cell G a e=0:=by
   intro e he
   rw [hga e (by omega),h.low k hak hk e he,jc hf gG hxi.1,uo hf hxi.1]
  have gj0:∀j,j<L.length→j≠a→∀e,e<c→cell G j e=cell L (if j=k then a else j) e:=by
   intro j hj hja e he
   rw [hgj j hj hja e (by omega),g0 e he,uo hf (hin _ _),QA hf (hin _ _)]
  have gjc:∀j,j<L.length→j≠a→cell G j c=0:=by
   intro j hj hja
   rw [hgj j hj hja c hc,g1,ach hf (hin _ _),Qz hf (hin _ _)]
  have hpa:∀i q,(p++[c])[i]?=some q→(p[i]?=some q∧i<a)∨(i=a∧q=c):=by
   intro i q hi
   rw [List.getElem?_append,h.pl] at hi
   by_cases hia:i<a
   ·rw [if_pos hia] at hi;exact .inl ⟨hi,hia⟩
   ·rw [if_neg hia] at hi
    have:=(List.getElem?_eq_some_iff.1 hi).1
    simp only [List.length_cons,List.length_nil] at this
    have hia2:i=a:=by omega
    subst hia2
    rw [Nat.sub_self] at hi
    exact .inr ⟨rfl,(Option.some.inj hi).symm⟩
  refine ⟨p++[c],⟨hg,by have:=h.ac;dsimp only;omega,by dsimp only;rw [hgl];omega,by simp [h.pl],fun q hq=>?_,?_,fun j hj hl e he=>?_,fun i q hi j hj=>?_,fun i q hi e he=>?_,fun hh=>?_⟩,hgl⟩
  ·rcases List.mem_append.1 hq with hq|hq
   ·have:=h.plt q hq;omega
   ·simp only [List.mem_singleton] at hq;omega
  ·refine List.pairwise_append.2 ⟨h.pinc,List.pairwise_singleton _ _,fun z hz y hy=>?_⟩
   rw [List.mem_singleton.1 hy];exact h.plt z hz
  ·rw [hgl] at hl
   dsimp only at hj
   by_cases hec:e=c
   ·subst hec;exact gjc j hl (by omega)
   ·rw [gj0 j hl (by omega) e (by omega)]
    exact h.low _ (by split<;>omega) (by split<;>omega) e (by omega)
  ·rw [hgl] at hj
   rcases hpa i q hi with ⟨hi,hia⟩|⟨rfl,rfl⟩
   ·have hqc:=h.plt q (List.mem_of_getElem? hi)
    by_cases hja:j=a
    ·subst hja;rw [g0 q hqc,if_neg (by omega)]
    ·rw [gj0 j hj hja q hqc,h.dia i q hi _ (by split<;>omega)]
     by_cases hjk:j=k
     ·rw [if_pos hjk,if_neg (by omega),if_neg (by omega)]
     ·rw [if_neg hjk]
   ·by_cases hja:j=i
    ·subst hja;rw [g1,if_pos rfl]
    ·rw [gjc j hj hja,if_neg hja]
  ·rcases hpa i q hi with ⟨hi,hia⟩|⟨rfl,rfl⟩
   ·have hqc:=h.plt q (List.mem_of_getElem? hi)
    rw [gj0 i (by have:=h.al;omega) (by omega) e (by omega),if_neg (by omega)]
    exact h.lead i q hi e he
   ·exact g0 e he
  ·dsimp only at hh
   rw [h.full (by omega),←List.range_succ]
theorem zP.from{f:TF3}(hf:aO f=true){n:Nat}:∀(m c a:Nat)(L:List (List Int))(p:List Nat),c+m≤n→zP f n c a L p→∃p',zP f n (c+m) (gU f c m (a,L)).1 (gU f c m (a,L)).2 p'∧(gU f c m (a,L)).2.length=L.length:=by
 intro m
 induction m with
 |zero=>intro c a L p _ h;exact ⟨p,h,rfl⟩
 |succ m ih=>
  intro c a L p hc h
  obtain ⟨p1,h1,hl1⟩:=h.step hf (by omega) (by omega)
  obtain ⟨p2,h2,hl2⟩:=ih (c+1) _ _ p1 (by omega) h1
  rw [show c+1+m=c+(m+1) by omega] at h2
  exact ⟨p2,h2,by rw [←hl1];exact hl2⟩
theorem zP.all{f:TF3}(hf:aO f=true){n m:Nat}{L:List (List Int)}(hm:m≤n)(h:GR f n L):∃p,zP f n m (gU f 0 m (0,L)).1 (gU f 0 m (0,L)).2 p∧(gU f 0 m (0,L)).2.length=L.length:=by
 have:=zP.from hf m 0 0 L [] (by omega) (zP.start h)
 rw [Nat.zero_add] at this
 exact this
section
variable {f : TF3} (hf : aO f = true) {n c : Nat} (hc : c < n) {x : List Int} (hx : ∀ y ∈ x, inF f y)
include hc
include hf hx
end
theorem auA{l:List Int}(h:∀e,e<l.length→l.getD e 0=0):l=List.replicate l.length 0:=by
 apply List.ext_getElem?
 intro e
 rw [List.getElem?_replicate]
 by_cases he:e<l.length
 ·rw [if_pos he]
  have:=h e he
  rw [List.getD_eq_getElem?_getD,List.getElem?_eq_getElem he] at this
  rw [List.getElem?_eq_getElem he]
  exact congrArg some this
 ·rw [if_neg he,List.getElem?_eq_none (by omega)]
-- shared
theorem aie{f:TF3}(hf:aO f=true){b:Int}(hb:inF f b):gu f 0 b=0:=by rw [jc hf gG hb,uo hf hb]
theorem asi{f:TF3}(hf:aO f=true){a b:Int}(ha:inF f a)(hb:inF f b)(h0:a≠0)(h:gu f b (Bc f a)=0):b=0:=by
 obtain ⟨h1,h2⟩:=wD hf ha
 rw [←ach hf hb,←h2 h0,jc hf ha h1,←aat hf hb h1 ha,h,aie hf ha]
theorem ara{f:TF3}{n:Nat}{u v w:List Int}{c:Int}(hu:okV f n u)(hv:okV f n v)(hw:okV f n w)(hf:aO f=true)(hc:inF f c)(h:∀e,e<n→w.getD e 0=jJ .i64 (u.getD e 0) (gu f c (v.getD e 0))):w=adJ f u v c:=by
 apply List.ext_getElem?
 intro e
 unfold adJ
 rw [List.getElem?_map]
 by_cases he:e<n
 ·have h1:=List.getElem?_eq_getElem (show e<w.length by rw [hw.1];exact he)
  have h2:=List.getElem?_eq_getElem (show e<u.length by rw [hu.1];exact he)
  have h3:=List.getElem?_eq_getElem (show e<v.length by rw [hv.1];exact he)
  have:=h e he
  rw [vg h1,vg h2,vg h3] at this
  rw [h1,(List.getElem?_zip_eq_some (z:=(u[e]'(by rw [hu.1];exact he),v[e]'(by rw [hv.1];exact he)))).2 ⟨h2,h3⟩,this,jc hf hc (hv.2 _ (List.mem_of_getElem? h3))]
  rfl
 ·rw [List.getElem?_eq_none (by rw [hw.1];omega),List.getElem?_eq_none (l:=u.zip v) (by rw [List.length_zip,hu.1];omega)]
  rfl
theorem aiO{f:TF3}{n:Nat}{u v w x:List Int}{c:Int}(hf:aO f=true)(hu:okV f n u)(hv:okV f n v)(hw:okV f n w)(hc:inF f c)(hx:∀y∈x,inF f y)(h:∀e,e<n→w.getD e 0=jJ .i64 (u.getD e 0) (gu f c (v.getD e 0))):lT f w x=jJ .i64 (lT f u x) (gu f c (lT f v x)):=by
 rw [ara hu hv hw hf hc h,auf hf hc (hu.1.trans hv.1.symm) hu.2 hv.2 hx]
theorem apw{f:TF3}(hf:aO f=true){n c:Nat}(hc:c<n){a:Nat}{L:List (List Int)}(h:GR f n L)(ha:a≤L.length){x:List Int}(hx:∀y∈x,inF f y) :
  (∀r∈(jl f c (a,L)).2,lT f r x=0) ↔ ∀r∈L,lT f r x=0:=by
 rcases YE hf hc (a:=a) h with ⟨_,h2⟩|⟨k,G,hak,hk,hnz,_,h2,hg,hgl,hga,hgj⟩
 ·rw [h2]
 rw [h2]
 dsimp only
 have hrow:∀{M:List (List Int)},GR f n M→∀{j:Nat},j<M.length→okV f n (M.getD j [])∧M.getD j []∈M:=by
  intro M hM j hj
  have:=List.getElem?_eq_getElem hj
  rw [vg this]
  exact ⟨EO hM this,List.mem_of_getElem? this⟩
 have hal:a<G.length:=by omega
 have hkc:=Mg h k c
 obtain ⟨hi1,hi2⟩:=wD hf hkc
 have hGa:lT f (G.getD a []) x=gu f (lT f (L.getD k []) x) (Bc f (cell L k c)):=by
  have h0:=aiO (u:=List.replicate n 0) hf (axC n) (hrow h hk).1 (hrow hg hal).1 hi1 hx (fun e he=>by
   have:(G.getD a []).getD e 0=gu f (cell L k e) (Bc f (cell L k c)):=hga e he
   rw [this,jc hf (Mg h k e) hi1]
   rw [List.getD_eq_getElem?_getD (l:=List.replicate n (0:Int)),List.getElem?_replicate,if_pos he]
   simp only [Option.getD_some]
   exact (qX hf (xL hf hi1 (Mg h k e))).symm)
  rw [h0,adX hf n hx,qX hf (xL hf hi1 (IC hf (hrow h hk).1.2 hx)),jc hf hi1 (IC hf (hrow h hk).1.2 hx)]
 have hGj:∀j,j<L.length→j≠a→lT f (G.getD j []) x=jJ .i64 (lT f (L.getD (if j=k then a else j) []) x) (gu f (cell L (if j=k then a else j) c) (lT f (G.getD a []) x)):=by
  intro j hj hja
  have hj':(if j=k then a else j)<L.length:=by split<;>omega
  exact aiO hf (hrow h hj').1 (hrow hg hal).1 (hrow hg (by omega)).1 (Mg h _ c) hx fun e he=>hgj j hj hja e he
 constructor
 ·intro hk0 r hr
  have h1:lT f (G.getD a []) x=0:=hk0 _ (hrow hg hal).2
  have h2:lT f (L.getD k []) x=0:=asi hf hkc (IC hf (hrow h hk).1.2 hx) hnz (hGa ▸ h1)
  obtain ⟨i,hi⟩:=List.getElem?_of_mem hr
  have hil:=(List.getElem?_eq_some_iff.1 hi).1
  rw [←vg (d:=[]) hi]
  by_cases hik:i=k
  ·subst hik;exact h2
  ·obtain ⟨j,hj,hja,hji⟩:∃j,j<L.length∧j≠a∧(if j=k then a else j)=i:=by
    by_cases hia:i=a
    ·exact ⟨k,hk,by omega,by rw [if_pos rfl,hia]⟩
    ·exact ⟨i,hil,hia,by rw [if_neg hik]⟩
   have h3:=hGj j hj hja
   rw [hji,h1,uo hf (Mg h _ c),hk0 _ (hrow hg (by omega)).2] at h3
   rw [QA hf (IC hf (hrow h hil).1.2 hx)] at h3
   exact h3.symm
 ·intro hL r hr
  have h1:lT f (G.getD a []) x=0:=by rw [hGa,hL _ (hrow h hk).2,aie hf hi1]
  obtain ⟨i,hi⟩:=List.getElem?_of_mem hr
  have hil:=(List.getElem?_eq_some_iff.1 hi).1
  rw [←vg (d:=[]) hi]
  by_cases hia:i=a
  ·subst hia;exact h1
  ·have hj':(if i=k then a else i)<L.length:=by split<;>omega
   rw [hGj i (by omega) hia,h1,uo hf (Mg h _ c),hL _ (hrow h hj').2,Qz hf gG]
theorem apv{f:TF3}(hf:aO f=true){n:Nat}{x:List Int}(hx:∀y∈x,inF f y):∀(m c a:Nat)(L:List (List Int)),c+m≤n→GR f n L→a≤L.length →
  ((∀r∈(gU f c m (a,L)).2,lT f r x=0) ↔ ∀r∈L,lT f r x=0):=by
 intro m
 induction m with
 |zero=>intro c a L _ _ _;exact Iff.rfl
 |succ m ih=>
  intro c a L hc h ha
  have h1:=Ju (c:=c) (s:=(a,L)) hf h ha
  unfold gU
  rw [show jl f c (a,L)=((jl f c (a,L)).1,(jl f c (a,L)).2) from rfl,ih (c+1) _ _ (by omega) h1.1 (by rw [h1.2.1];exact h1.2.2)]
  exact apw hf (by omega) h ha hx
theorem aiP{f:TF3}(hf:aO f=true){n:Nat}{L:List (List Int)}(h:GR f n L){x:List Int}(hx:∀y∈x,inF f y):(∀r∈ES f n L,lT f r x=0) ↔ ∀r∈L,lT f r x=0:=by
 rw [←apv hf hx n 0 0 L (by omega) h (Nat.zero_le _)]
 obtain ⟨p,hI,hl⟩:=zP.all hf (Nat.le_refl n) h
 unfold ES
 generalize hs:gU f 0 n (0,L)=s at hI hl
 obtain ⟨a,G⟩:=s
 dsimp only at hI hl ⊢
 constructor
 ·intro h0 r hr
  obtain ⟨i,hi⟩:=List.getElem?_of_mem hr
  have hil:=(List.getElem?_eq_some_iff.1 hi).1
  by_cases hia:i<a
  ·exact h0 r (List.mem_of_getElem? (i:=i) (by rw [List.getElem?_take_of_lt hia];exact hi))
  ·have hz:r=List.replicate n 0:=by
    have hrl:=(EO hI.gr hi).1
    have:=auA (l:=r) fun e he=>by
     have:=hI.low i (by omega) hil e (by omega)
     rwa [apf hi] at this
    rwa [hrl] at this
   rw [hz,adX hf n hx]
 ·intro h0 r hr
  exact h0 r (List.mem_of_mem_take hr)
theorem apu{f:TF3}(hf:aO f=true):∀{r x:List Int}{q:Nat}{v:Int},(∀y∈r,inF f y)→(∀y∈x,inF f y)→inF f v→r.length=x.length→lT f r (x.set q v)=jJ .i64 (lT f r x) (gu f (r.getD q 0) (jJ .i64 (x.getD q 0) v)):=by
 intro r
 induction r with
 |nil=>
  intro x q v _ hx hv hl
  have:x=[]:=List.length_eq_zero_iff.1 hl.symm
  subst this
  simp only [lT,List.getD_nil]
  rw [qX hf hv,aie hf hv,Qz hf gG]
 |cons a r ih=>
  intro x q v hr hx hv hl
  cases x with
  |nil=>simp at hl
  |cons b x=>
   have ha:=hr a (List.mem_cons_self ..)
   have hb:=hx b (List.mem_cons_self ..)
   have hr':∀y∈r,inF f y:=fun y hy=>hr y (List.mem_cons_of_mem _ hy)
   have hx':∀y∈x,inF f y:=fun y hy=>hx y (List.mem_cons_of_mem _ hy)
   cases q with
   |zero=>
    simp only [List.set_cons_zero,lT,List.getD_cons_zero]
    have h1:=xL hf ha hb
    have h2:=xL hf ha hv
    have h3:=IC hf hr' hx'
    rw [ajN hf ha hb hv,XR hf h1 h3,Al hf h3 h1 (MP hf h1 h2),←Al hf h1 h1 h2,Qz hf h1,qX hf h2,XR hf h2 h3]
   |succ q=>
    simp only [List.set_cons_succ,lT,List.getD_cons_succ]
    have h3:=IC hf hr' hx'
    have hq:∀{l:List Int},(∀y∈l,inF f y)→inF f (l.getD q 0):=fun {l} hl=>by
     rw [List.getD_eq_getElem?_getD]
     cases hc:l[q]? with
     |none=>exact gG
     |some y=>exact hl y (List.mem_of_getElem? hc)
    have h4:=xL hf (hq hr') (MP hf (hq hx') hv)
    rw [ih hr' hx' hv (by simpa using hl),Al hf (xL hf ha hb) h3 h4]
def jy(c:Nat):List Int→List (Nat×List Int)→List Int
 |out,[]=>out
 |out,(q,row)::l=>jy c (out.set q (row.getD c 0)) l
theorem KG{f:TF3}{n c:Nat}:∀(l:List (Nat×List Int)){out:List Int},okV f n out→(∀p∈l,okV f n p.2)→okV f n (jy c out l):=by
 intro l
 induction l with
 |nil=>intro out h _;exact h
 |cons p l ih=>
  intro out h hp
  obtain ⟨q,row⟩:=p
  refine ih ⟨by rw [List.length_set];exact h.1,fun y hy=>?_⟩ fun p hp'=>hp p (List.mem_cons_of_mem _ hp')
  rcases List.mem_or_eq_of_mem_set hy with hy|rfl
  ·exact h.2 y hy
  ·have hrow:=hp _ (List.mem_cons_self ..)
   rw [List.getD_eq_getElem?_getD]
   cases hc:row[c]? with
   |none=>exact gG
   |some z=>exact hrow.2 z (List.mem_of_getElem? hc)
theorem acp{c:Nat}:∀(l:List (Nat×List Int)){out:List Int}{e:Nat},(∀p∈l,p.1≠e)→(jy c out l).getD e 0=out.getD e 0:=by
 intro l
 induction l with
 |nil=>intro out e _;rfl
 |cons p l ih=>
  intro out e h
  obtain ⟨q,row⟩:=p
  unfold jy
  rw [ih fun p hp=>h p (List.mem_cons_of_mem _ hp),List.getD_eq_getElem?_getD,List.getElem?_set_ne (h _ (List.mem_cons_self ..)),←List.getD_eq_getElem?_getD]
theorem aco{f:TF3}(hf:aO f=true){n c:Nat}{r:List Int}(hr:okV f n r):∀(l:List (Nat×List Int)){out:List Int},okV f n out→(∀p∈l,okV f n p.2∧r.getD p.1 0=0)→lT f r (jy c out l)=lT f r out:=by
 intro l
 induction l with
 |nil=>intro out _ _;rfl
 |cons p l ih=>
  intro out h hp
  obtain ⟨q,row⟩:=p
  have h1:=hp _ (List.mem_cons_self ..)
  have ho:=KG (c:=c) [(q,row)] h fun p hp=>by rw [List.mem_singleton.1 hp];exact h1.1
  show lT f r (jy c (out.set q (row.getD c 0)) l)=_
  have ho:okV f n (out.set q (row.getD c 0)):=ho
  rw [ih ho fun p hp'=>hp p (List.mem_cons_of_mem _ hp')]
  have hrow:inF f (row.getD c 0):=by
   rw [List.getD_eq_getElem?_getD]
   cases hc:row[c]? with
   |none=>exact gG
   |some z=>exact h1.1.2 z (List.mem_of_getElem? hc)
  have hoq:inF f (out.getD q 0):=by
   rw [List.getD_eq_getElem?_getD]
   cases hc:out[q]? with
   |none=>exact gG
   |some z=>exact h.2 z (List.mem_of_getElem? hc)
  rw [apu hf hr.2 h.2 hrow (hr.1.trans h.1.symm),h1.2,aie hf (MP hf hoq hrow),QA hf (IC hf hr.2 h.2)]
-- shared
theorem agc(c:Nat):∀(l1:List (Nat×List Int))(l2:List (Nat×List Int))(out:List Int),jy c out (l1++l2)=jy c (jy c out l1) l2:=by
 intro l1
 induction l1 with
 |nil=>intro l2 out;rfl
 |cons p l1 ih=>intro l2 out;obtain ⟨q,row⟩:=p;exact ih l2 _
theorem getD_in{f:TF3}{l:List Int}(h:∀y∈l,inF f y)(i:Nat):inF f (l.getD i 0):=by
 rw [List.getD_eq_getElem?_getD]
 cases hc:l[i]? with
 |none=>exact gG
 |some y=>exact h y (List.mem_of_getElem? hc)
theorem akU(n c e:Nat):(CF n c).getD e 0=if c=e∧e<n then 1 else 0:=by
 unfold CF
 rw [List.getD_eq_getElem?_getD,List.getElem?_set,List.length_replicate]
 split
 ·rename_i h;subst h
  split
  ·rename_i h;rw [if_pos ⟨rfl,h⟩];rfl
  ·rename_i h;rw [if_neg fun hh=>h hh.2];rfl
 ·rename_i h
  rw [if_neg fun hh=>h hh.1,List.getElem?_replicate]
  split<;>rfl
def Tc(n c:Nat)(p:List Nat)(E:List (List Int)):List Int:=jy c (CF n c) (p.zip E)
section
variable {f : TF3} {n a : Nat} {G : List (List Int)} {p : List Nat}
theorem zP.row(h:zP f n n a G p){i:Nat}(hi:i<a):∃r,(G.take a)[i]?=some r∧okV f n r∧(∀e,r.getD e 0=cell G i e):=by
 have:=h.al
 have hr:=List.getElem?_eq_getElem (show i<G.length by omega)
 exact ⟨G[i],by rw [List.getElem?_take_of_lt hi];exact hr,EO h.gr hr,fun e=>(apf hr).symm⟩
theorem zP.piv(h:zP f n n a G p){i:Nat}(hi:i<a):∃q,p[i]?=some q∧q<n:=by
 have hl:=h.pl
 have hq:=List.getElem?_eq_getElem (show i<p.length by omega)
 exact ⟨_,hq,h.plt _ (List.mem_of_getElem? hq)⟩
theorem zP.pne(h:zP f n n a G p){i j q q':Nat}(hi:p[i]?=some q)(hj:p[j]?=some q')(hij:i≠j):q≠q':=by
 obtain ⟨h1,rfl⟩:=List.getElem?_eq_some_iff.1 hi
 obtain ⟨h2,rfl⟩:=List.getElem?_eq_some_iff.1 hj
 rcases Nat.lt_or_gt_of_ne hij with hlt|hlt
 ·have:=List.pairwise_iff_getElem.1 h.pinc i j h1 h2 hlt;omega
 ·have:=List.pairwise_iff_getElem.1 h.pinc j i h2 h1 hlt;omega
theorem ajQ(hf:aO f=true)(h:zP f n n a G p)(c:Nat):okV f n (Tc n c p (G.take a)):=by
 refine KG _ (Qy hf n c) fun x hx=>?_
 have:=List.of_mem_zip (a:=x.1) (b:=x.2) hx
 exact h.gr _ (List.mem_of_mem_take this.2)
theorem aqt(_:zP f n n a G p){c:Nat}(hc:c<n)(hp:c ∉ p):(Tc n c p (G.take a)).getD c 0=1:=by
 unfold Tc
 rw [acp _ fun x hx he=>hp (by have:=List.of_mem_zip (a:=x.1) (b:=x.2) hx;rw [←he];exact this.1),akU,if_pos ⟨rfl,hc⟩]
theorem amP(hf:aO f=true)(h:zP f n n a G p){c:Nat}(hc:c<n)(hp:c ∉ p):∀r∈G.take a,lT f r (Tc n c p (G.take a))=0:=by
 intro r hr
 have hal:=h.al
 have hpl:=h.pl
 obtain ⟨i,hi⟩:=List.getElem?_of_mem hr
 have hia:i<a:=by have:=(List.getElem?_eq_some_iff.1 hi).1;rw [List.length_take] at this;omega
 obtain ⟨r',hr',hrok,hcell⟩:=h.row hia
 rw [hi] at hr'
 obtain rfl:=Option.some.inj hr'
 obtain ⟨q,hq,hqn⟩:=h.piv hia
 have hz:(p.zip (G.take a))[i]?=some (q,r):=List.getElem?_zip_eq_some.2 ⟨hq,hi⟩
 obtain ⟨hzl,hzi⟩:=List.getElem?_eq_some_iff.1 hz
 have hsp:p.zip (G.take a)=(p.zip (G.take a)).take i++(q,r)::(p.zip (G.take a)).drop (i+1):=by
  rw [←hzi,←List.drop_eq_getElem_cons hzl,List.take_append_drop]
 have hel:∀{j:Nat}{x:Nat×List Int},(p.zip (G.take a))[j]?=some x→j≠i→okV f n x.2∧r.getD x.1 0=0∧x.1≠q:=by
  intro j x hx hj
  obtain ⟨x1,x2⟩:=x
  obtain ⟨h1,h2⟩:=List.getElem?_zip_eq_some.1 hx
  have hja:j<a:=by have:=(List.getElem?_eq_some_iff.1 h1).1;omega
  refine ⟨h.gr _ (List.mem_of_mem_take (List.mem_of_getElem? h2)),?_,h.pne h1 hq hj⟩
  rw [hcell,h.dia j x1 h1 i (by omega),if_neg fun hh=>hj hh.symm]
 have h1:∀x∈(p.zip (G.take a)).take i,okV f n x.2∧r.getD x.1 0=0∧x.1≠q:=by
  intro x hx
  obtain ⟨j,hj⟩:=List.getElem?_of_mem hx
  have hjl:=(List.getElem?_eq_some_iff.1 hj).1
  rw [List.length_take] at hjl
  rw [List.getElem?_take_of_lt (by omega)] at hj
  exact hel hj (by omega)
 have h2:∀x∈(p.zip (G.take a)).drop (i+1),okV f n x.2∧r.getD x.1 0=0∧x.1≠q:=by
  intro x hx
  obtain ⟨j,hj⟩:=List.getElem?_of_mem hx
  rw [List.getElem?_drop] at hj
  exact hel hj (by omega)
 have hu:=Qy hf n c
 have hcq:c≠q:=fun hh=>hp (hh ▸ List.mem_of_getElem? hq)
 unfold Tc
 rw [hsp,agc]
 show lT f r (jy c ((jy c (CF n c) ((p.zip (G.take a)).take i)).set q (r.getD c 0)) _)=0
 have ho1:=KG (c:=c) _ hu fun x hx=>(h1 x hx).1
 have ho2:okV f n ((jy c (CF n c) ((p.zip (G.take a)).take i)).set q (r.getD c 0)):=by
  refine ⟨by rw [List.length_set];exact ho1.1,fun y hy=>?_⟩
  rcases List.mem_or_eq_of_mem_set hy with hy|rfl
  ·exact ho1.2 y hy
  ·exact getD_in hrok.2 c
 have hrq:r.getD q 0=1:=by rw [hcell,h.dia i q hq i (by omega),if_pos rfl]
 have hoq:(jy c (CF n c) ((p.zip (G.take a)).take i)).getD q 0=0:=by
  rw [acp _ fun x hx=>(h1 x hx).2.2,akU,if_neg fun hh=>hcq hh.1]
 rw [aco hf hrok _ ho2 fun x hx=>⟨(h2 x hx).1,(h2 x hx).2.1⟩,apu hf hrok.2 ho1.2 (getD_in hrok.2 c) (hrok.1.trans ho1.1.symm),aco hf hrok _ hu fun x hx=>⟨(h1 x hx).1,(h1 x hx).2.1⟩,hrq,hoq,
  qX hf (getD_in hrok.2 c),jc hf (anU hf) (getD_in hrok.2 c),ach hf (getD_in hrok.2 c),Xo hf hrok.2 hu.2,amn hf n c hrok.2 hrok.1.symm hc,Qz hf (getD_in hrok.2 c)]
theorem zP.an7(h:zP f n n a G p){i:Nat}(hi:i<a){r:List Int}(hr:(G.take a)[i]?=some r){q:Nat}(hq:p[i]?=some q):r[q]?=some 1∧∀e,e<q→r[e]?=some 0:=by
 obtain ⟨r',hr',hrok,hcell⟩:=h.row hi
 rw [hr] at hr'
 obtain rfl:=Option.some.inj hr'
 have hqn:=h.plt q (List.mem_of_getElem? hq)
 have hal:=h.al
 have hget:∀e,e<n→r[e]?=some (r.getD e 0):=fun e he=>by
  have:=List.getElem?_eq_getElem (show e<r.length by rw [hrok.1];exact he)
  rw [vg this];exact this
 exact ⟨by rw [hget q hqn,hcell,h.dia i q hq i (by omega),if_pos rfl],fun e he=>by rw [hget e (by omega),hcell,h.lead i q hq e he]⟩
end
def anj(f:TF3)(n:Nat)(L:List (List Int))(x:List Int):Prop:=okV f n x∧(∃q,x.getD q 0≠0)∧∀r∈L,lT f r x=0
theorem anj.awR{f:TF3}(hf:aO f=true){n:Nat}{L:List (List Int)}(h:GR f n L){x:List Int}(hx:anj f n (ES f n L) x):anj f n L x:=⟨hx.1,hx.2.1,(aiP hf h hx.1.2).1 hx.2.2⟩
theorem ayj{f:TF3}(hf:aO f=true){n:Nat}{E D:List (List Int)}(hE:GR f n E)(hD:GR f n D)(h:∀r∈E,∀y∈D,lT f r y=0){c:Nat}(hc:c<n){d:List Int}(hd:d∈D)(hdc:d.getD c 0=1):∃x,(ES f n D)[0]?=some x∧anj f n E x:=by
 obtain ⟨p,hI,hl⟩:=zP.all hf (Nat.le_refl n) hD
 have hlen:=aiQ hf (m:=n) hD
 have hgr:=axM hf (m:=n) hD
 have hpos:0<(ES f n D).length:=by
  apply Classical.byContradiction
  intro hn
  have he:ES f n D=[]:=List.length_eq_zero_iff.1 (by omega)
  have:=(aiP hf hD (Qy hf n c).2).1 (by rw [he];intro r hr;cases hr) d hd
  rw [Xo hf (hD d hd).2 (Qy hf n c).2,amn hf n c (hD d hd).2 (hD d hd).1.symm hc,hdc] at this
  cases this
 have h0:=List.getElem?_eq_getElem hpos
 refine ⟨_,h0,hgr _ (List.mem_of_getElem? h0),?_,fun r hr=>?_⟩
 ·obtain ⟨q,hq,_⟩:=hI.piv (i:=0) (by omega)
  have:=(hI.an7 (i:=0) (by omega) (r:=(ES f n D)[0]) h0 hq).1
  exact ⟨q,by rw [vg this];decide⟩
 ·have hrok:=hE r hr
  have h2:=(aiP hf hD hrok.2).2 (fun y hy=>by rw [Xo hf (hD y hy).2 hrok.2];exact h r hr y hy) _ (List.mem_of_getElem? h0)
  rw [Xo hf hrok.2 (hgr _ (List.mem_of_getElem? h0)).2];exact h2
theorem apF{n:Nat}{p:List Nat}(_:p.Pairwise (· < ·))(hl:p.length<n):∃c,c<n∧c ∉ p:=by
 apply Classical.byContradiction
 intro hn
 have hall:∀c,c<n→c∈p:=fun c hc=>Classical.byContradiction fun h=>hn ⟨c,hc,h⟩
 have hsub:List.range n ⊆ p:=fun c hc=>hall c (List.mem_range.1 hc)
 have hd:(List.range n).Nodup:=List.nodup_range
 have:=List.Nodup.length_le_of_subset hd hsub
 rw [List.length_range] at this
 omega
theorem cO{σ β:Type}{step:σ→Tre (σ ⊕ β)}(st:Nat→σ)(n:Nat)(b:β)(hs:∀i,i<n→(step (st i)).run some=some (.inl (st (i+1))))(he:(step (st n)).run some=some (.inr b)):aR step (st 0)=some b:=by
 have key:∀m i,i+m=n→aR step (st i)=some b:=by
  intro m
  induction m with
  |zero=>intro i hi;have hi:i=n:=hi;subst hi;exact fB he
  |succ m ih=>intro i hi;rw [mR (hs i (by omega))];exact ih (i+1) (by omega)
 exact key n 0 (by omega)
def aS(l:List Nat):List Int:=l.map fun x:Nat=>(x:Int)
theorem aW(l:List Nat):(aS l).length=l.length:=by unfold aS;exact List.length_map _
theorem dA{l:List Nat}{i x:Nat}(h:l[i]?=some x):(aS l)[i]?=some (x:Int):=by
 unfold aS;rw [List.getElem?_map,h];rfl
theorem ajR{c:Nat}{E:List (List Int)}{out:List Int}{q:Nat}{row:List Int}{p:List Nat}{i:Nat}(h1:p[i]?=some q)(h2:E[i]?=some row):jy c out ((p.zip E).take (i+1))=(jy c out ((p.zip E).take i)).set q (row.getD c 0):=by
 rw [List.take_add_one,List.getElem?_zip_eq_some.2 (show p[i]?=some (q,row).1∧E[i]?=some (q,row).2 from ⟨h1,h2⟩),agc]
 rfl
-- shared
def ay1(p:Nat):Nat→Nat→Nat
 |0,a=>a
 |k+1,a=>ay1 p k (mulN p a a)
def aBN(d p:Nat):Bool:=(List.range (2 ^ d)).all fun a=>Nat.beq (ay1 p d a) a
theorem auo:(jm.all fun q=>aBN q.1 q.2)=true:=by kernel_rfl
theorem anX{d p a:Nat}(hq:(d,p)∈jm)(ha:a<2 ^ d)(h0:a≠0):uU d p a<2 ^ d∧mulN p a (uU d p a)=1:=by
 have h:=List.all_eq_true.1 (List.all_eq_true.1 abR (d,p) hq) a (List.mem_range.2 ha)
 rw [Bool.and_eq_true,Bool.or_eq_true] at h
 exact ⟨by simpa [Nat.blt_eq] using h.1,(h.2.resolve_left fun h=>h0 (Nat.eq_of_beq_eq_true h)) |> Nat.eq_of_beq_eq_true⟩
theorem MW{a d:Nat}:a%2 ^ d<2 ^ d:=Nat.mod_lt _ (Nat.two_pow_pos d)
theorem one_mod{d:Nat}(hd:1≤d):1%2 ^ d=1:=Nat.mod_eq_of_lt (Nat.lt_of_lt_of_le (by decide:1<2 ^ 1) (Nat.pow_le_pow_right (by decide) hd))
theorem ZP{d p:Nat}(hq:(d,p)∈jm):1≤d∧d≤5:=by
 have:∀q∈jm,1≤q.1∧q.1≤5:=by decide
 exact this _ hq
def foN(d p:Nat)(hq:(d,p)∈jm):FO where
 q:=2 ^ d
 dg:=d
 mul:=fun a b=>mulN p (a%2 ^ d) (b%2 ^ d)
 hq:=Nat.lt_of_lt_of_le (by decide:1<2 ^ 1) (Nat.pow_le_pow_right (by decide) (ZP hq).1)
 hd:=(ZP hq).1
 lt:=fun a b=>(oC hq MW MW).1
 xlt:=fun a b ha hb=>Nat.xor_lt_two_pow ha hb
 comm:=fun a b=>(oC hq MW MW).2
 assoc:=fun a b c=>by rw [Nat.mod_eq_of_lt (oC hq MW MW).1,Nat.mod_eq_of_lt (oC hq (a:=b%2 ^ d) (b:=c%2 ^ d) MW MW).1];exact ajO hq MW MW MW
 add:=fun a b c=>by rw [Nat.xor_mod_two_pow];exact F7 hq MW _ _ MW MW
 one:=fun a ha=>by rw [Nat.mod_eq_of_lt ha,one_mod (ZP hq).1];exact (aci hq ha).1
 inv:=fun a ha h0=>⟨uU d p a,(anX hq ha h0).1,by rw [Nat.mod_eq_of_lt ha,Nat.mod_eq_of_lt (anX hq ha h0).1];exact (anX hq ha h0).2⟩
theorem aiT{f:TF3}(hf:aO f=true):(f.1.toNat,f.2.1.toNat)∈jm∧f=((f.1.toNat:Int),(f.2.1.toNat:Int),()):=by
 obtain ⟨d,p,hq,rfl⟩:=Dq hf
 exact ⟨hq,rfl⟩
def FOf(f:TF3)(hf:aO f=true):FO:=foN f.1.toNat f.2.1.toNat (aiT hf).1
section
variable {f : TF3} (hf : aO f = true)
theorem al5:(FOf f hf).q=2 ^ f.1.toNat:=rfl
theorem YU{x:Int}:inF f x ↔ ∃n:Nat,x=(n:Int)∧n<(FOf f hf).q:=by
 unfold inF
 rw [al5]
 constructor
 ·intro h;exact ⟨x.toNat,by omega,by omega⟩
 ·rintro ⟨n,rfl,h⟩;exact ⟨by omega,by exact_mod_cast h⟩
theorem F63{n:Nat}(h:n<(FOf f hf).q):n<2 ^ 63:=by
 rw [al5] at h
 have:=Nat.pow_le_pow_right (show 0<2 by decide) (show f.1.toNat≤63 by have:=(Xt hf).2;omega)
 omega
theorem aoc{a b:Nat}(ha:a<(FOf f hf).q)(hb:b<(FOf f hf).q):gu f (a:Int) (b:Int)=(((FOf f hf).mul a b:Nat):Int):=by
 rw [al5] at ha hb
 unfold gu FOf foN
 simp only [Int.toNat_natCast]
 rw [Nat.mod_eq_of_lt ha,Nat.mod_eq_of_lt hb]
theorem Xm{a b:Nat}(ha:a<(FOf f hf).q)(hb:b<(FOf f hf).q):jJ .i64 (a:Int) (b:Int)=((a^^^b:Nat):Int):=ou (F63 hf ha) (F63 hf hb)
theorem aAv{a:Nat}(ha:a<(FOf f hf).q):∃b:Nat,Bc f (a:Int)=(b:Int)∧b<(FOf f hf).q∧(a≠0→(FOf f hf).mul a b=1):=by
 obtain ⟨h1,h2⟩:=wD hf ((YU hf).2 ⟨a,rfl,ha⟩)
 obtain ⟨b,hb,hbl⟩:=(YU hf).1 h1
 refine ⟨b,hb,hbl,fun h0=>?_⟩
 have:=h2 (by omega)
 rw [hb,aoc hf ha hbl] at this
 omega
theorem axk{d p:Nat}(hq:(d,p)∈jm):∀(k:Nat){a:Nat},a<2 ^ d→(foN d p hq).sqn k a=ay1 p k a:=by
 intro k
 induction k with
 |zero=>intro a _;rfl
 |succ k ih=>
  intro a ha
  have hs:(foN d p hq).sq a=mulN p a a:=by
   show mulN p (a%2 ^ d) (a%2 ^ d)=_
   rw [Nat.mod_eq_of_lt ha]
  show (foN d p hq).sqn k ((foN d p hq).sq a)=ay1 p k (mulN p a a)
  rw [hs,ih (oC hq ha ha).1]
theorem awd{a:Nat}(ha:a<(FOf f hf).q):(FOf f hf).sqn f.1.toNat a=a:=by
 have hq:=(aiT hf).1
 rw [al5] at ha
 unfold FOf
 rw [axk hq _ ha]
 exact Nat.eq_of_beq_eq_true (List.all_eq_true.1 (List.all_eq_true.1 auo _ hq) a (List.mem_range.2 ha))
theorem awe{a:Nat}(ha:a<(FOf f hf).q):∀j:Nat,(FOf f hf).sqn (f.1.toNat*j) a=a:=by
 intro j
 induction j with
 |zero=>rfl
 |succ j ih=>rw [Nat.mul_succ,FO.ail,ih];exact awd hf ha
theorem ady{a:Nat}(ha:a<(FOf f hf).q)(k:Nat):(FOf f hf).sqn (k%f.1.toNat) a=(FOf f hf).sqn k a:=by
 have h:=Nat.div_add_mod k f.1.toNat
 have h2:(FOf f hf).sqn (f.1.toNat*(k/f.1.toNat)+k%f.1.toNat) a=(FOf f hf).sqn (k%f.1.toNat) a:=by
  rw [FO.ail,awe hf ha]
 rw [h] at h2
 exact h2.symm
end
def inL(F:FO)(l:List Nat):Prop:=∀x∈l,x<F.q
theorem aic{f:TF3}(hf:aO f=true){l:List Int}(h:∀x∈l,inF f x):∃L,l=aS L∧inL (FOf f hf) L:=by
 induction l with
 |nil=>exact ⟨[],rfl,fun x hx=>absurd hx List.not_mem_nil⟩
 |cons x l ih=>
  obtain ⟨L,rfl,hL⟩:=ih fun y hy=>h y (List.mem_cons_of_mem _ hy)
  obtain ⟨n,rfl,hn⟩:=(YU hf).1 (h x (List.mem_cons_self ..))
  refine ⟨n::L,rfl,fun y hy=>?_⟩
  rcases List.mem_cons.1 hy with rfl|hy
  ·exact hn
  ·exact hL y hy
theorem ayh{f:TF3}(hf:aO f=true){L:List Nat}(h:inL (FOf f hf) L):∀x∈aS L,inF f x:=by
 intro x hx
 obtain ⟨n,hn,rfl⟩:=List.mem_map.1 hx
 exact (YU hf).2 ⟨n,rfl,h n hn⟩
theorem abM{F:FO}{a b:List Nat}(ha:inL F a)(hb:inL F b):inL F (a++b):=fun x hx=>(List.mem_append.1 hx).elim (ha x) (hb x)
theorem tK{F:FO}{l:List Nat}(h:inL F l):inL F (bX l):=by
 intro x hx
 obtain ⟨i,hi⟩:=List.getElem?_of_mem hx
 have hc:=jP l i
 unfold cf at hc
 rw [List.getD_eq_getElem?_getD,hi,List.getD_eq_getElem?_getD] at hc
 cases hl:l[i]? with
 |none=>rw [hl] at hc;simp at hc;rw [hc];exact F.zlt
 |some y=>rw [hl] at hc;simp at hc;rw [hc];exact h y (List.mem_of_getElem? hl)
theorem kR{F:FO}{l:List Nat}(h:inL F l)(i:Nat):cf l i<F.q:=by
 unfold cf
 rw [List.getD_eq_getElem?_getD]
 cases hi:l[i]? with
 |none=>exact F.zlt
 |some c=>exact h c (List.mem_of_getElem? hi)
theorem dV{l:List Nat}{i:Nat}(h:i<l.length):l[i]?=some (cf l i):=by
 unfold cf
 rw [List.getD_eq_getElem?_getD,List.getElem?_eq_getElem h];rfl
theorem avc{l:List Nat}{n:Nat}(hn:n≤l.length)(hz:∀i,n≤i→cf l i=0)(h:n=0∨cf l (n-1)≠0):l.take n=bX l:=by
 have hcf:∀i,cf (l.take n) i=cf l i:=by
  intro i
  by_cases hi:i<n
  ·unfold cf
   rw [List.getD_eq_getElem?_getD,List.getD_eq_getElem?_getD,List.getElem?_take_of_lt hi]
  ·rw [hz i (by omega),aiF (by rw [List.length_take];omega)]
 refine afy (fun hne=>?_) (wX l) fun i=>by rw [hcf,jP]
 have hl:(l.take n).length=n:=by rw [List.length_take];omega
 rw [hl,hcf]
 rcases h with h|h
 ·exact absurd (List.length_eq_zero_iff.1 (by rw [hl,h])) hne
 ·exact h
-- shared
theorem azX{b:Nat}{xs:List Int}(hb:b≤62)(h:KH b xs=true):u6 (xs.map Int.toNat) (ech (xs.map Int.toNat)):=by
 obtain ⟨ns,rfl,hlen,hn,he⟩:=aeM h
 obtain ⟨E,_,h2⟩:=Nq b hb ns b 0 [] ns (by omega) (Inv.start ns) (Nat.zero_le _) hlen hn (fun a ha=>by cases ha)
 rw [he,arN h2];exact h2
theorem avO(xs:List Int):(adY xs).length=(ech (xs.map Int.toNat)).length:=by unfold adY;rw [Hy]
theorem akM:∀(l:List (Nat×Nat))(lo b:Nat),(l.Pairwise fun a b=>a.1<b.1)→(∀a∈l,lo≤a.1∧a.1<b)→l.length≤b-lo:=by
 intro l
 induction l with
 |nil=>intro lo b _ _;exact Nat.zero_le _
 |cons a l ih=>
  intro lo b h hb
  obtain ⟨h1,h2⟩:=List.pairwise_cons.1 h
  have:=ih (a.1+1) b h2 fun x hx=>⟨h1 x hx,(hb x (.tail _ hx)).2⟩
  have h0:=hb a (.head _)
  simp only [List.length_cons]
  omega
-- shared
theorem awr{us:List Nat}{r:Nat}(h:r∈us):FO.FX us r:=by
 induction us with
 |nil=>cases h
 |cons u us ih=>
  rcases List.mem_cons.1 h with rfl|h
  ·exact ⟨true::List.replicate us.length false,by simp,by simp only [FO.oL,cond_true];rw [FO.aaY,Nat.xor_zero]⟩
  ·obtain ⟨bs,h1,h2⟩:=ih h
   exact ⟨false::bs,by simp [h1],by simp only [FO.oL,cond_false];rw [Nat.zero_xor];exact h2⟩
theorem ayf{us:List Nat}{v:Nat}(h:Sp us v):FO.FX us v:=by
 induction h with
 |zero=>exact FO.FX.zero us
 |add hr _ ih=>exact (awr hr).add ih
theorem aAO:∀(bs:List Bool)(us:List Nat),Sp us (FO.oL bs us):=by
 intro bs
 induction bs with
 |nil=>intro us;cases us<;>exact Sp.zero
 |cons b bs ih=>
  intro us
  cases us with
  |nil=>exact Sp.zero
  |cons u us=>
   have h:=Sp.trans (fun r hr=>Sp.mem (List.mem_cons_of_mem u hr)) (ih us)
   simp only [FO.oL]
   cases b
   ·rw [cond_false,Nat.zero_xor];exact h
   ·rw [cond_true];exact (Sp.mem (List.mem_cons_self ..)).xor h
theorem atI{g:Nat}{a b:List Nat}(h:∀v,Sp a v→Sp b v){v:Nat}(hv:Sp (g::a) v):Sp (g::b) v:=by
 refine Sp.trans (fun r hr=>?_) hv
 rcases List.mem_cons.1 hr with rfl|hr
 ·exact Sp.mem (List.mem_cons_self ..)
 ·exact Sp.trans (fun r hr=>Sp.mem (List.mem_cons_of_mem _ hr)) (h r (Sp.mem hr))
theorem avC:∀(pts:List Nat),¬FO.yZ pts→∃pts':List Nat,pts'.length<pts.length∧∀v,Sp pts v↔Sp pts' v:=by
 intro pts
 induction pts with
 |nil=>intro h;exact absurd (fun bs hl _ b hb=>by rw [List.length_eq_zero_iff.1 hl] at hb;cases hb) h
 |cons g gs ih=>
  intro h
  by_cases hg:Sp gs g
  ·exact ⟨gs,by simp,fun v=>⟨fun hv=>Sp.trans (fun r hr=>(List.mem_cons.1 hr).elim (fun e=>e ▸ hg) Sp.mem) hv,fun hv=>Sp.trans (fun r hr=>Sp.mem (List.mem_cons_of_mem _ hr)) hv⟩⟩
  ·have hgs:¬FO.yZ gs:=by
    intro hi
    apply h
    intro bs hl hs
    cases bs with
    |nil=>simp at hl
    |cons b bs=>
     simp only [List.length_cons,Nat.add_right_cancel_iff] at hl
     cases b with
     |false=>
      simp only [FO.oL,cond_false] at hs
      rw [Nat.zero_xor] at hs
      intro b hb
      rcases List.mem_cons.1 hb with rfl|hb
      ·rfl
      ·exact hi bs hl hs b hb
     |true=>
      exfalso
      simp only [FO.oL,cond_true] at hs
      apply hg
      have:g=FO.oL bs gs:=by
       calc g=(g^^^FO.oL bs gs)^^^FO.oL bs gs:=by rw [Nat.xor_assoc,Nat.xor_self,Nat.xor_zero]
        _=FO.oL bs gs:=by rw [hs,Nat.zero_xor]
      rw [this];exact aAO bs gs
   obtain ⟨gs',h1,h2⟩:=ih hgs
   exact ⟨g::gs',by simp only [List.length_cons];omega,fun v=>⟨atI fun v=>(h2 v).1,atI fun v=>(h2 v).2⟩⟩
theorem awt{pts E:List Nat}(h:u6 pts E)(hl:E.length=pts.length):FO.yZ pts:=by
 apply Classical.byContradiction
 intro hn
 obtain ⟨pts',h1,h2⟩:=avC pts hn
 obtain ⟨P,c,hr,rfl,hs⟩:=h
 have h':u6 pts' (P.map (·.2)):=⟨P,c,hr,rfl,fun v=>(h2 v).symm.trans (hs v)⟩
 have:=h'.le
 omega
theorem avP{E B:List Nat}(h:u6 E B){e:Nat}(he:e∈E):FO.FX B e:=by
 obtain ⟨P,c,hr,rfl,hs⟩:=h
 exact ayf ((hs e).1 (Sp.mem he))
theorem ayi(l:List Nat):aS l=up l:=rfl
theorem abQ(l:List Nat):(aS l).map Int.toNat=l:=up_toNat l
theorem anW{f:TF3}(hf:aO f=true){L:List Nat}(h:inL (FOf f hf) L)(hl:L.length≤1000){b:Nat}(hb:f.1.toNat≤b):KH b (aS L)=true:=by
 rw [ayi]
 exact auH (by omega) fun n hn=>Nat.lt_of_lt_of_le (h n hn) (Nat.pow_le_pow_right (by decide) hb)
def rkN (L:List Nat):Nat:=(ech L).length
theorem aw3(L:List Nat):(adY (aS L)).length=rkN L:=by rw [avO,abQ];rfl
theorem aqx{f:TF3}(hf:aO f=true){L:List Nat}(h:inL (FOf f hf) L)(hl:L.length≤1000):u6 L (ech L):=by
 have h5:=(Xt hf).2
 have:=azX (b:=62) (by omega) (anW hf h hl (by omega))
 rwa [abQ] at this
-- shared
theorem aq6{p q:List Nat}(h:∀i,cf p i=cf q i):bX p=bX q:=afy (wX p) (wX q) fun i=>by rw [jP,jP,h]
theorem Dl{l:List Nat}{i:Nat}(h:(bX l).length≤i):cf l i=0:=by rw [←jP];exact aiF h
theorem Qx(l:List Nat):(bX l).length=0∨cf l ((bX l).length-1)≠0:=by
 by_cases h:bX l=[]
 ·left;rw [h];rfl
 ·right;rw [←jP];exact wX l h
theorem adD(l:List Nat):l.take (bX l).length=bX l:=avc (jI l) (fun _ hi=>Dl hi) (Qx l)
theorem Xz(l:List Nat)(n:Nat):aS (l.take n)=(aS l).take n:=by unfold aS;rw [List.map_take]
theorem wC(a b:List Nat):aS (a++b)=aS a++aS b:=by unfold aS;rw [List.map_append]
theorem DN(n:Nat):aS (List.replicate n 0)=List.replicate n (0:Int):=by unfold aS;rw [List.map_replicate];rfl
theorem Vt(l:List Nat)(i x:Nat):aS (l.set i x)=(aS l).set i (x:Int):=by unfold aS;rw [List.map_set]
theorem ao4:∀(B A:List Nat)(y:Nat),B.length<A.length→(jS A B)[B.length]?=some (cf A B.length)∧(jS A B).set B.length (cf A B.length^^^y)=jS A (B++[y]):=by
 intro B
 induction B with
 |nil=>
  intro A y h
  cases A with
  |nil=>simp at h
  |cons a A=>exact ⟨rfl,by simp only [List.nil_append,jS,List.length_nil,List.set_cons_zero,QG,aiv]⟩
 |cons b B ih=>
  intro A y h
  cases A with
  |nil=>simp at h
  |cons a A=>
   obtain ⟨h1,h2⟩:=ih A y (by simpa using h)
   simp only [jS,List.length_cons,List.cons_append,List.getElem?_cons_succ,List.set_cons_succ,rC]
   exact ⟨h1,by rw [h2]⟩
theorem asI{A B:List Nat}(h:B.length≤A.length):(jS A B).length=A.length:=by rw [OO];omega
theorem avu(i:Nat)(l:List Nat)(s:Nat):cf (List.replicate i 0++l) s=if i≤s then cf l (s-i) else 0:=by
 unfold cf
 rw [List.getD_eq_getElem?_getD,List.getD_eq_getElem?_getD]
 by_cases h:i≤s
 ·rw [if_pos h,List.getElem?_append_right (by rw [List.length_replicate];exact h),List.length_replicate]
 ·rw [if_neg h,List.getElem?_append_left (by rw [List.length_replicate];omega),List.getElem?_replicate,if_pos (by omega)];rfl
theorem apg(n i:Nat):cf (List.replicate n 0) i=0:=by
 unfold cf
 rw [List.getD_eq_getElem?_getD,List.getElem?_replicate]
 split<;>rfl
theorem ao3(M:Nat)(P Q:List Nat):bX (jS (uW M P) Q)=bX (jS P Q):=aq6 fun i=>by rw [Ew,Ew,asK]
namespace FO
variable (F : FO)
theorem arw:∀(V:List Nat)(c:Nat)(x:Nat→Nat)(s:Nat),F.fD (V++[c]) x s=F.fD V x s^^^(if V.length≤s then F.mul c (F.sqn V.length (x (s-V.length))) else 0):=by
 intro V
 induction V with
 |nil=>
  intro c x s
  simp only [List.nil_append,fD,List.length_nil,Nat.zero_le,if_true,Nat.sub_zero,sqn]
  cases s<;>simp
 |cons v vs ih=>
  intro c x s
  simp only [List.cons_append,fD,List.length_cons]
  cases s with
  |zero=>simp
  |succ s=>
   simp only
   rw [ih]
   by_cases h:vs.length≤s
   ·rw [if_pos h,if_pos (by omega),show s+1-(vs.length+1)=s-vs.length by omega]
    simp only [sqn]
    ac_rfl
   ·rw [if_neg h,if_neg (by omega),Nat.xor_zero,Nat.xor_zero]
def acD(i c:Nat)(q:List Nat):List Nat:=q.map fun d=>F.mul c (F.sqn i d)
def I6(p q:List Nat):Nat→List Nat
 |0=>List.replicate (p.length+q.length-1) 0
 |i+1=>jS (I6 p q i) (List.replicate i 0++F.acD i (cf p i) q)
theorem aqu(p q:List Nat)(hq:q≠[]):∀i,i≤p.length→(F.I6 p q i).length=p.length+q.length-1:=by
 have hl:0<q.length:=List.length_pos_iff.2 hq
 intro i
 induction i with
 |zero=>intro _;exact List.length_replicate
 |succ i ih=>
  intro h
  unfold I6
  rw [asI (by rw [ih (by omega),List.length_append,List.length_replicate];unfold acD;rw [List.length_map];omega),ih (by omega)]
theorem ays(p q:List Nat):∀i,i≤p.length→∀s,cf (F.I6 p q i) s=F.fD (p.take i) (cf q) s:=by
 intro i
 induction i with
 |zero=>intro _ s;unfold I6;rw [apg];simp [fD]
 |succ i ih=>
  intro h s
  unfold I6
  rw [Ew,ih (by omega),List.take_add_one,dV (show i<p.length by omega),Option.toList_some,F.arw,List.length_take,Nat.min_eq_left (by omega),avu]
  unfold acD
  rw [anz (by rw [F.aqX,F.mul_zero])]
theorem amS(p q:List Nat):bX (F.I6 p q p.length)=bX (F.tq p q):=aq6 fun s=>by rw [F.ays p q _ (Nat.le_refl _),List.take_length,F.OP]
theorem atx(p q:List Nat):∀i,inL F (F.I6 p q i):=by
 intro i
 induction i with
 |zero=>intro x hx;rw [(List.mem_replicate.1 hx).2];exact F.zlt
 |succ i ih=>
  unfold I6
  refine F.ah6 ih fun x hx=>?_
  rcases List.mem_append.1 hx with hx|hx
  ·rw [(List.mem_replicate.1 hx).2];exact F.zlt
  ·obtain ⟨d,_,rfl⟩:=List.mem_map.1 hx
   exact F.lt _ _
theorem ak3{V m:List Nat}(hV:inL F V)(hm:inL F m)(h1:V≠[])(h2:m≠[])(hv:cf V (V.length-1)≠0)(hc:cf m (m.length-1)≠0):(bX (F.tq V m)).length=V.length+m.length-1:=by
 have hl1:0<V.length:=List.length_pos_iff.2 h1
 have hl2:0<m.length:=List.length_pos_iff.2 h2
 have htop:=F.adS V (V.length-1) (cf m) (m.length-1) (by omega) fun i hi=>aiF (by omega)
 have hne:cf (F.tq V m) (V.length-1+(m.length-1))≠0:=by
  rw [F.OP,htop]
  intro h0
  rcases F.nz (kR hV _) (F.Hw _ (kR hm _)) h0 with h|h
  ·exact hv h
  ·exact hc (F.atJ _ (kR hm _) h)
 have hle:=F.Xn V m h1 h2
 have hlt:=jI (F.tq V m)
 apply Classical.byContradiction
 intro hn
 exact hne (Dl (by omega))
end FO
-- shared
def Y6(d k:Nat):Nat:=(d-k%d)%d
theorem axj{f:TF3}(hf:aO f=true){x:Nat}(hx:x<(FOf f hf).q)(k:Nat):(FOf f hf).sqn k ((FOf f hf).sqn (Y6 f.1.toNat k) x)=x:=by
 have h3:1≤f.1.toNat:=by have:=nX hf;omega
 unfold Y6
 rw [ady hf hx,←ady hf ((FOf f hf).Hw _ hx) k,←FO.ail]
 have hk:k%f.1.toNat<f.1.toNat:=Nat.mod_lt _ (by omega)
 rw [show f.1.toNat-k%f.1.toNat+k%f.1.toNat=f.1.toNat by omega]
 exact awd hf hx
def Am(l:List Nat):Prop:=l≠[]→cf l (l.length-1)≠0
theorem sZ(l:List Nat):Am (bX l):=wX l
theorem ay6{l:List Nat}{n:Nat}(h:∀i,n≤i→cf l i=0):(bX l).length≤n:=by
 apply Classical.byContradiction
 intro hn
 rcases Qx l with h0|h0
 ·omega
 ·exact h0 (h _ (by omega))
structure TL(F:FO)(N V A R:List Nat):Prop where
 ia:inL F A
 ir:inL F R
 ta:Am A
 tr:Am R
 eq:∀i,cf N i=F.fD V (cf A) i^^^cf R i
def vK(k c:Nat):List Nat:=(List.replicate (k+1) 0).set k c
theorem XQ(k c:Nat):(vK k c).length=k+1:=by unfold vK;rw [List.length_set,List.length_replicate]
theorem akQ(k c i:Nat):cf (vK k c) i=if k=i then c else 0:=by
 unfold vK cf
 rw [List.getD_eq_getElem?_getD,List.getElem?_set,List.length_replicate]
 by_cases h:k=i
 ·rw [if_pos h,if_pos h,if_pos (by omega)];rfl
 ·rw [if_neg h,if_neg h,List.getElem?_replicate];split<;>rfl
theorem Xk{F:FO}{k c:Nat}(hc:c<F.q):inL F (vK k c):=by
 intro x hx
 rcases List.mem_or_eq_of_mem_set hx with hx|rfl
 ·rw [(List.mem_replicate.1 hx).2];exact F.zlt
 ·exact hc
theorem abN{F:FO}(V m:List Nat):inL F (F.tq V m):=F.apj V m
theorem anV{F:FO}{p q:List Nat}(hp:inL F p)(hq:inL F q):inL F (jS p q):=F.ah6 hp hq
theorem apq{f:TF3}(hf:aO f=true){N V A R:List Nat}(_:inL (FOf f hf) V)(h:TL (FOf f hf) N V A R)(hn:V≠[])(hl:V.length≤R.length){iv:Nat}(_:iv<(FOf f hf).q)(hinv:(FOf f hf).mul (cf V (V.length-1)) iv=1) :
  let c:=(FOf f hf).sqn (Y6 f.1.toNat (V.length-1)) ((FOf f hf).mul (cf R (R.length-1)) iv)
  c<(FOf f hf).q∧TL (FOf f hf) N V (bX (jS A (vK (R.length-V.length) c))) (bX (jS R (bX ((FOf f hf).tq V (vK (R.length-V.length) c))))) ∧
  (bX (jS R (bX ((FOf f hf).tq V (vK (R.length-V.length) c))))).length<R.length:=by
 intro c
 have hvl:0<V.length:=List.length_pos_iff.2 hn
 have hrl:=kR h.ir (R.length-1)
 have hml:=(FOf f hf).lt (cf R (R.length-1)) iv
 have hc:c<(FOf f hf).q:=(FOf f hf).Hw _ hml
 have hcf:∀i,cf (jS R (bX ((FOf f hf).tq V (vK (R.length-V.length) c)))) i=cf R i^^^(FOf f hf).fD V (cf (vK (R.length-V.length) c)) i:=fun i=>by
  rw [Ew,jP,FO.OP]
 refine ⟨hc,⟨tK (anV h.ia (Xk hc)),tK (anV h.ir (tK (abN _ _))),sZ _,sZ _,fun i=>?_⟩,?_⟩
 ·rw [jP,hcf,h.eq i,show cf (bX (jS A (vK (R.length-V.length) c)))=fun j=>cf A j^^^cf (vK (R.length-V.length) c) j from funext fun j=>by rw [jP,Ew],FO.amg]
  generalize (FOf f hf).fD V (cf A) i=a
  generalize (FOf f hf).fD V (cf (vK (R.length-V.length) c)) i=t
  calc a^^^cf R i=(a^^^cf R i)^^^(t^^^t):=by rw [Nat.xor_self,Nat.xor_zero]
   _=(a^^^t)^^^(cf R i^^^t):=by ac_rfl
 ·have hlt:(bX (jS R (bX ((FOf f hf).tq V (vK (R.length-V.length) c))))).length≤R.length-1:=by
   refine ay6 fun i hi=>?_
   rw [hcf]
   by_cases he:i=R.length-1
   ·have htop:=(FOf f hf).adS V (V.length-1) (cf (vK (R.length-V.length) c)) (R.length-V.length) (by omega) (fun i hi=>by rw [akQ,if_neg (by omega)])
    rw [show V.length-1+(R.length-V.length)=i by omega,akQ,if_pos rfl] at htop
    rw [htop]
    show cf R i^^^(FOf f hf).mul (cf V (V.length-1)) ((FOf f hf).sqn (V.length-1) ((FOf f hf).sqn (Y6 f.1.toNat (V.length-1)) ((FOf f hf).mul (cf R (R.length-1)) iv)))=0
    rw [axj hf hml,FO.comm _ (cf R (R.length-1)) iv,←FO.assoc,hinv,FO.comm,FO.one _ _ hrl,he,Nat.xor_self]
   ·rw [aiF (by omega),FO.adT _ _ _ (R.length-V.length+1) _ (fun j hj=>by rw [akQ,if_neg (by omega)]) (by omega)];rfl
  omega
theorem aph{F:FO}:∀{V:List Nat}{x:Nat→Nat}{i:Nat},(∀j,x j=0)→F.fD V x i=0:=by
 intro V
 induction V with
 |nil=>intro x i _;simp [FO.fD]
 |cons v vs ih=>
  intro x i h
  simp only [FO.fD]
  rw [h,F.mul_zero,Nat.zero_xor]
  cases i with
  |zero=>rfl
  |succ i=>exact ih fun j=>by rw [h,F.Jl]
theorem TL.uniq{F:FO}{N V A R m:List Nat}(h:TL F N V A R)(hV:inL F V)(hn:V≠[])(ht:Am V)(hR:R.length<V.length)(hm:inL F m)(he:∀i,cf N i=F.fD V (cf m) i):A=bX m∧R=[]:=by
 have h1:∀i,F.fD V (cf (jS A m)) i=cf R i:=by
  intro i
  rw [show cf (jS A m)=fun j=>cf A j^^^cf m j from funext fun j=>Ew A m j,F.amg,←he i,h.eq i]
  generalize F.fD V (cf A) i=a
  rw [←Nat.xor_assoc,Nat.xor_self,Nat.zero_xor]
 have h2:=F.avz hV (anV h.ia hm) hn (ht hn) fun i hi=>by rw [h1];exact aiF (by omega)
 have h3:∀i,cf R i=0:=fun i=>by rw [←h1,aph];exact h2
 have h4:R=[]:=by
  apply Classical.byContradiction
  intro hne
  exact h.tr hne (h3 _)
 refine ⟨afy h.ta (wX m) fun i=>?_,h4⟩
 have:=h2 i
 rw [Ew] at this
 rw [jP]
 calc cf A i=(cf A i^^^cf m i)^^^cf m i:=by rw [Nat.xor_assoc,Nat.xor_self,Nat.xor_zero]
  _=cf m i:=by rw [this,Nat.zero_xor]
-- shared
namespace FO
variable (F : FO)
theorem afG:∀(V V':List Nat)(x:Nat→Nat)(i:Nat),(∀i,cf V i=cf V' i)→F.fD V x i=F.fD V' x i:=by
 have hz:∀(V:List Nat)(x:Nat→Nat)(i:Nat),(∀i,cf V i=0)→F.fD V x i=0:=by
  intro V
  induction V with
  |nil=>intro x i _;simp [fD]
  |cons v vs ih=>
   intro x i h
   have h0:=h 0
   rw [QG] at h0
   simp only [fD]
   rw [h0,F.zero_mul,Nat.zero_xor]
   cases i with
   |zero=>rfl
   |succ i=>exact ih _ i fun j=>by have:=h (j+1);rwa [rC] at this
 intro V
 induction V with
 |nil=>intro V' x i h;rw [hz V' x i fun j=>(h j).symm.trans (Bf j)];simp [fD]
 |cons v vs ih=>
  intro V' x i h
  cases V' with
  |nil=>rw [hz (v::vs) x i fun j=>(h j).trans (Bf j)];simp [fD]
  |cons v' vs'=>
   have h0:=h 0
   rw [QG,QG] at h0
   simp only [fD]
   rw [h0]
   cases i with
   |zero=>rfl
   |succ i=>
    simp only
    rw [ih vs' (fun j=>F.sq (x j)) i fun j=>by have:=h (j+1);rwa [rC,rC] at this]
def ZO:List Nat→List Nat→Nat
 |a::u,b::v=>F.mul a b^^^ZO u v
 |_,_=>0
theorem avM:∀(a c b d:List Nat),a.length=c.length→F.ZO (a++b) (c++d)=F.ZO a c^^^F.ZO b d:=by
 intro a
 induction a with
 |nil=>intro c b d h;have:c=[]:=List.length_eq_zero_iff.1 h.symm;subst this;simp [ZO]
 |cons x a ih=>
  intro c b d h
  cases c with
  |nil=>simp at h
  |cons y c=>simp only [List.cons_append,ZO];rw [ih c b d (by simpa using h),Nat.xor_assoc]
def Bd(n x:Nat):List Nat:=(List.range n).map fun j=>F.sqn j x
theorem CB(n x:Nat):(F.Bd n x).length=n:=by simp [Bd]
theorem au5(n x:Nat):F.Bd (n+1) x=x::F.Bd n (F.sq x):=by
 unfold Bd
 rw [List.range_succ_eq_map,List.map_cons,List.map_map]
 rfl
theorem avN:∀(p:List Nat)(x:Nat),F.ZO (F.Bd p.length x) p=F.lp p x:=by
 intro p
 induction p with
 |nil=>intro x;rfl
 |cons c p ih=>
  intro x
  rw [List.length_cons,au5]
  simp only [ZO,lp]
  rw [ih,F.comm]
def Bb(pts w m:List Nat):List Nat:=(pts.zip w).map fun p=>p.2^^^F.lp m p.1
theorem aa9{pts w m:List Nat}(hw:inL F w):inL F (F.Bb pts w m):=by
 intro e he
 obtain ⟨p,hp,rfl⟩:=List.mem_map.1 he
 have:=List.of_mem_zip (a:=p.1) (b:=p.2) hp
 exact F.xlt _ _ (hw _ this.2) (F.ace _ _)
theorem Jv{pts w m:List Nat}(h:w.length=pts.length):(F.Bb pts w m).length=pts.length:=by
 unfold Bb
 rw [List.length_map,List.length_zip,h,Nat.min_self]
theorem avB{pts w V N m us:List Nat}{k t:Nat}(hi:yZ pts)(hp:inL F pts)(hl:w.length=pts.length)(hk:1≤k)(hm:m.length=k)(_:inL F m)
  (hV:V.length=t+1) (hN:N.length=t+k) (hNi:inL F N) (h2:2*t+k≤pts.length) (hus:us.length≤t) (hsp:∀e∈F.Bb pts w m,FX us e) (ho:∀p∈pts.zip w,F.lp V p.2=F.lp N p.1) :
  ∀i,cf N i=F.fD V (cf m) i:=by
 have hmn:m≠[]:=by intro h;rw [h] at hm;simp at hm;omega
 have hVn:V≠[]:=by intro h;rw [h] at hV;simp at hV
 have hcl:=F.Xn V m hVn hmn
 have hz:=F.awG (us:=us.map (F.lp V)) (gs:=pts) (p:=jS N (F.tq V m)) (by rw [OO,List.length_map];omega) hp (F.ah6 hNi (F.apj V m)) hi (by
  intro g hg
  obtain ⟨j,hj⟩:=List.getElem?_of_mem hg
  have hjl:=(List.getElem?_eq_some_iff.1 hj).1
  have hwj:=List.getElem?_eq_getElem (show j<w.length by omega)
  have hz:(pts.zip w)[j]?=some (g,w[j]):=List.getElem?_zip_eq_some.2 ⟨hj,hwj⟩
  have hmem:=List.mem_of_getElem? hz
  have h1:=ho _ hmem
  have h3:=(hsp _ (List.mem_map.2 ⟨_,hmem,rfl⟩)).map (F.as6 V) (F.asg V)
  rw [F.as5,F.awE]
  dsimp only at h1 h3
  rw [F.asg,h1] at h3
  exact h3)
 intro i
 have:=atV hz i
 rw [Ew,F.OP] at this
 calc cf N i=(cf N i^^^F.fD V (cf m) i)^^^F.fD V (cf m) i:=by rw [Nat.xor_assoc,Nat.xor_self,Nat.xor_zero]
  _=F.fD V (cf m) i:=by rw [this,Nat.zero_xor]
theorem axJ{V N m:List Nat}(hVi:inL F V)(hmi:inL F m)(he:∀i,cf N i=F.fD V (cf m) i)(hx:∃c∈V++N,c≠0) :
  bX V≠[]∧∀A R,TL F (bX N) (bX V) A R→R.length<(bX V).length→A=bX m∧R=[]:=by
 have he':∀i,cf (bX N) i=F.fD (bX V) (cf m) i:=fun i=>by rw [jP,he,F.afG V (bX V) _ _ fun j=>(jP V j).symm]
 have hn:bX V≠[]:=by
  intro h0
  obtain ⟨c,hc,hc0⟩:=hx
  have hV0:∀i,cf V i=0:=fun i=>by rw [←jP,h0,Bf]
  have hN0:∀i,cf N i=0:=fun i=>by rw [he,F.afG V [] _ _ fun j=>by rw [hV0,Bf]];simp [fD]
  rcases List.mem_append.1 hc with hc|hc
  ·exact hc0 (avt hV0 c hc)
  ·exact hc0 (avt hN0 c hc)
 exact ⟨hn,fun A R h hR=>h.uniq (tK hVi) hn (sZ V) hR hmi he'⟩
end FO
section
variable {f : TF3} (hf : aO f = true)
def aa3(pts w:List Nat)(k t:Nat)(m:List Nat):Prop:=m.length=k∧inL (FOf f hf) m∧rkN ((FOf f hf).Bb pts w m)≤t
def aqz(t k g x:Nat):List Nat:=(FOf f hf).Bd (t+1) x++(FOf f hf).Bd (t+k) g
def P5(t k:Nat)(pts w:List Nat):List (List Int):=(pts.zip w).map fun p=>aS (aqz hf t k p.1 p.2)
theorem ain(n:Nat){x:Nat}(hx:x<(FOf f hf).q):inL (FOf f hf) ((FOf f hf).Bd n x):=by
 intro y hy
 obtain ⟨j,_,rfl⟩:=List.mem_map.1 hy
 exact (FOf f hf).Hw j hx
theorem aqA{t k:Nat}{pts w:List Nat}(hp:inL (FOf f hf) pts)(hw:inL (FOf f hf) w):GR f (2*t+1+k) (P5 hf t k pts w):=by
 intro r hr
 obtain ⟨p,hp',rfl⟩:=List.mem_map.1 hr
 have:=List.of_mem_zip (a:=p.1) (b:=p.2) hp'
 refine ⟨?_,ayh hf (abM (ain hf _ (hw _ this.2)) (ain hf _ (hp _ this.1)))⟩
 rw [aW]
 unfold aqz
 rw [List.length_append,FO.CB,FO.CB]
 omega
theorem azW:∀{a b:List Nat},inL (FOf f hf) a→inL (FOf f hf) b→lT f (aS a) (aS b)=(((FOf f hf).ZO a b:Nat):Int)∧(FOf f hf).ZO a b<(FOf f hf).q:=by
 intro a
 induction a with
 |nil=>intro b _ _;exact ⟨by simp [aS,lT,FO.ZO],by simp only [FO.ZO];exact FO.zlt _⟩
 |cons x a ih=>
  intro b ha hb
  cases b with
  |nil=>exact ⟨by simp [aS,lT,FO.ZO],by simp only [FO.ZO];exact FO.zlt _⟩
  |cons y b=>
   obtain ⟨h1,h2⟩:=ih (b:=b) (fun z hz=>ha z (List.mem_cons_of_mem _ hz)) (fun z hz=>hb z (List.mem_cons_of_mem _ hz))
   have hx:=ha x (List.mem_cons_self ..)
   have hy:=hb y (List.mem_cons_self ..)
   refine ⟨?_,(FOf f hf).xlt _ _ ((FOf f hf).lt _ _) h2⟩
   show jJ .i64 (gu f (x:Int) (y:Int)) (lT f (aS a) (aS b))=_
   rw [h1,aoc hf hx hy,Xm hf ((FOf f hf).lt _ _) h2]
   rfl
theorem amH{t k:Nat}{pts w:List Nat}(hp:inL (FOf f hf) pts)(hw:inL (FOf f hf) w){x:List Int}(h:anj f (2*t+1+k) (P5 hf t k pts w) x) :
  ∃V N,x=aS (V++N)∧V.length=t+1∧N.length=t+k∧inL (FOf f hf) V∧inL (FOf f hf) N∧(∃c∈V++N,c≠0)∧∀p∈pts.zip w,(FOf f hf).lp V p.2=(FOf f hf).lp N p.1:=by
 obtain ⟨⟨hl,hin⟩,⟨q,hq⟩,ho⟩:=h
 obtain ⟨X,rfl,hX⟩:=aic hf hin
 rw [aW] at hl
 have hsp:X.take (t+1)++X.drop (t+1)=X:=List.take_append_drop _ _
 have h1:(X.take (t+1)).length=t+1:=by rw [List.length_take];omega
 have h2:(X.drop (t+1)).length=t+k:=by rw [List.length_drop];omega
 have hVi:inL (FOf f hf) (X.take (t+1)):=fun y hy=>hX y (List.mem_of_mem_take hy)
 have hNi:inL (FOf f hf) (X.drop (t+1)):=fun y hy=>hX y (List.mem_of_mem_drop hy)
 refine ⟨X.take (t+1),X.drop (t+1),by rw [hsp],h1,h2,hVi,hNi,?_,fun p hp'=>?_⟩
 ·rw [hsp]
  rw [List.getD_eq_getElem?_getD] at hq
  cases hx:(aS X)[q]? with
  |none=>rw [hx] at hq;exact absurd rfl hq
  |some y=>
   rw [hx] at hq
   obtain ⟨c,hc,rfl⟩:=List.mem_map.1 (List.mem_of_getElem? hx)
   exact ⟨c,hc,fun h0=>hq (by rw [h0];rfl)⟩
 ·have hz:=List.of_mem_zip (a:=p.1) (b:=p.2) hp'
  have hd:=ho _ (List.mem_map.2 ⟨p,hp',rfl⟩)
  have hri:inL (FOf f hf) (aqz hf t k p.1 p.2):=abM (ain hf _ (hw _ hz.2)) (ain hf _ (hp _ hz.1))
  rw [(azW hf hri hX).1] at hd
  have hd:(FOf f hf).ZO (aqz hf t k p.1 p.2) X=0:=by omega
  rw [←hsp] at hd
  unfold aqz at hd
  rw [FO.avM _ _ _ _ _ (by rw [FO.CB,h1])] at hd
  have e1:=(FOf f hf).avN (X.take (t+1)) p.2
  have e2:=(FOf f hf).avN (X.drop (t+1)) p.1
  rw [h1] at e1
  rw [h2] at e2
  rw [e1,e2] at hd
  calc (FOf f hf).lp (X.take (t+1)) p.2=((FOf f hf).lp (X.take (t+1)) p.2^^^(FOf f hf).lp (X.drop (t+1)) p.1)^^^(FOf f hf).lp (X.drop (t+1)) p.1:=by rw [Nat.xor_assoc,Nat.xor_self,Nat.xor_zero]
   _=(FOf f hf).lp (X.drop (t+1)) p.1:=by rw [hd,Nat.zero_xor]
theorem asO{t k:Nat}{pts w V N m:List Nat}(hi:FO.yZ pts)(hp:inL (FOf f hf) pts)(hw:inL (FOf f hf) w)(hl:w.length=pts.length)(hpl:pts.length≤1000)(hk:1≤k)(h2:2*t+k≤pts.length)(hm:aa3 hf pts w k t m)
  (hV:V.length=t+1) (hN:N.length=t+k) (hVi:inL (FOf f hf) V) (hNi:inL (FOf f hf) N) (hx:∃c∈V++N,c≠0) (ho:∀p∈pts.zip w,(FOf f hf).lp V p.2=(FOf f hf).lp N p.1) :
  bX V≠[]∧∀A R,TL (FOf f hf) (bX N) (bX V) A R→R.length<(bX V).length→A=bX m∧R=[]:=by
 obtain ⟨hm1,hm2,hm3⟩:=hm
 have hE:=aqx hf ((FOf f hf).aa9 (pts:=pts) (m:=m) hw) (by rw [FO.Jv _ hl];exact hpl)
 exact (FOf f hf).axJ hVi hm2 ((FOf f hf).avB hi hp hl hk hm1 hm2 hV hN hNi h2 hm3 (fun e he=>avP hE he) ho) hx
end
-- shared
def ahk (g:TF3×List Int×Int×Unit):Bool:=aO g.1&&(inR (g.2.1.length:Int) 1 5&&(pE g.1 g.2.1&&(decide (((adY g.2.1).length:Int)=(g.2.1.length:Int))&&inR g.2.2.1 1 (g.2.1.length:Int))))
theorem adZ{f:TF3}{c:List Int}(h:pE f c=true):∀x∈c,inF f x:=by
 intro x hx
 have:=kF.1 (List.all_eq_true.1 h x hx)
 unfold Uw at this
 have h2:((2 ^ f.1.toNat:Nat):Int)=(2:Int) ^ f.1.toNat:=by rw [Int.natCast_pow];rfl
 exact ⟨this.1,by omega⟩
theorem arU{g:TF3×List Int×Int×Unit}(h:ahk g=true):∃(hf:aO g.1=true) (P:List Nat) (k:Nat),g=(g.1,aS P,(k:Int),())∧inL (FOf g.1 hf) P∧FO.yZ P∧P.length≤5∧1≤k∧k≤P.length:=by
 unfold ahk at h
 simp only [Bool.and_eq_true,kF,decide_eq_true_eq] at h
 obtain ⟨hf,hl,he,hr,hk⟩:=h
 obtain ⟨P,hP,hPi⟩:=aic hf (adZ he)
 have hlen:g.2.1.length=P.length:=by rw [hP,aW]
 refine ⟨hf,P,g.2.2.1.toNat,?_,hPi,?_,by omega,by omega,by omega⟩
 ·rw [←hP,show ((g.2.2.1.toNat:Nat):Int)=g.2.2.1 by omega]
 ·rw [hP,aw3,aW] at hr
  exact awt (aqx hf hPi (by omega)) (by unfold rkN at hr;omega)
def HV (g:TF3×List Int×Int×Unit) (w:List Int):Int:=if ahk g=true then (if w.length=g.2.1.length∧pE g.1 w=true then 0 else 2) else 1
theorem awj{g:TF3×List Int×Int×Unit}{w:List Int}(h:HV g w=0):ahk g=true∧w.length=g.2.1.length∧pE g.1 w=true:=by
 unfold HV at h
 split at h
 ·rename_i h1
  split at h
  ·rename_i h2;exact ⟨h1,h2.1,h2.2⟩
  ·cases h
 ·cases h
def Lm (p0:List Int) (p1:aM):Tre Int:=
 .mat (Cw p1) fun r1=>
 .cond (!r1)
  (.ret 1)
  (.cond (!decide ((p0.length:Int)=(p1.2.1.length:Int)))
   (.ret 2)
   (.mat (tT p1.1 p0) fun r2=>
   .cond (!r2)
    (.ret 2)
    (.ret 0)))
def xU (p0:List Int) (p1:aM):Option Int:=(Lm p0 p1).run some
-- more
theorem apx{f:TF3}(hf:aO f=true){c:List Int}(h:pE f c=true)(hl:c.length≤1000){b:Nat}(hb:f.1.toNat≤b):KH b c=true:=by
 obtain ⟨L,rfl,hL⟩:=aic hf (adZ h)
 rw [aW] at hl
 exact anW hf hL hl hb
theorem ayz(g:TF3×List Int×Int×Unit):Cw g=some (ahk g):=by
 unfold Cw RU ahk
 rw [ah (aaD g.1),Tre.aG]
 cases hf:aO g.1
 ·rfl
 have hd:=nX hf
 have hw:NM g.1 g.2.1=some (inR (g.2.1.length:Int) 1 5&&pE g.1 g.2.1):=by
  unfold NM afl
  dsimp only
  rw [Tre.aG]
  cases hi:inR (g.2.1.length:Int) 1 5
  ·rfl
  ·have:=kF.1 hi
   rw [cond_true,ah (Ql hf g.2.1 (by omega)),Tre.aK,Bool.true_and]
 rw [cond_true,ah hw,Tre.aG,Bool.true_and]
 cases hi:inR (g.2.1.length:Int) 1 5
 ·rfl
 have hl:=kF.1 hi
 rw [Bool.true_and,Bool.true_and]
 cases he:pE g.1 g.2.1
 ·rfl
 rw [cond_true,Bool.true_and,ah (show amW g.1.1 g.2.1=some _ from pV (by rw [Bool.and_eq_true];exact ⟨kF.2 (by omega),apx hf he (by omega) (Nat.le_refl _)⟩)),Tre.aG]
 cases decide (((adY g.2.1).length:Int)=(g.2.1.length:Int))
 ·rfl
 ·rfl
theorem axb(g:TF3×List Int×Int×Unit)(w:List Int)(hw:w.length≤1048576):xU w g=some (HV g w):=by
 unfold xU Lm HV
 rw [ah (ayz g),Tre.aG]
 cases hg:ahk g
 ·rfl
 ·have hf:aO g.1=true:=by unfold ahk at hg;simp only [Bool.and_eq_true] at hg;exact hg.1
  rw [Bool.not_true,cond_false,if_pos rfl,Tre.aG]
  by_cases h1:w.length=g.2.1.length
  ·rw [decide_eq_true (by omega),Bool.not_true,cond_false,ah (Ql hf w (by omega)),Tre.aG]
   cases he:pE g.1 w
   ·rw [if_neg (by simp)];rfl
   ·rw [if_pos ⟨h1,rfl⟩];rfl
  ·rw [decide_eq_false (by omega),Bool.not_false,cond_true,if_neg fun h=>h1 h.1];rfl
def En:Env:=⟨tau,[(53,Xe),(54,Hf)],[]⟩
def Qq:Code:=(Tryz.f28.body).getD .skip
def Qp:FnI:=⟨Qq,Tryz.f28.results.toList,Tryz.f28.resultTypes.toList,[]⟩
def Lp (_zp0:Bool) (zp1:Bool) (_p0:List Int) (p1:aM):Int→aB:=fun r=>⟨(.imm true (.int .i64) r),[⟨true,aX,(.imm zp1),p1⟩],[]⟩
theorem adl:∀(zp0:Bool)(zp1:Bool)(p0:List Int)(p1:aM),bN En Qp ⟨[(.ptr (0,0) []),(.imm zp0 (.sl (.int .i64)) p0)],[⟨true,aX,(.imm zp1),p1⟩]⟩=(Lm p0 p1).run fun r=>some (Lp zp0 zp1 p0 p1 r):=fun _ _ _ _=>by kernel_rfl
def Qo (av:List AV) (rs:List Root):Tre aB:=
 aJ av fun a0_ av0=>
 aJ av0 fun a1_ av1=>
 aU av1<|
 aJ rs fun r0_ rs0=>
 aU rs0<|
 dU (0,0) [] a0_<|
 bE (.sl (.int .i64)) a1_ fun z2 d1=>
 Js true aX r0_ fun m3 d4=>
 vQ m3 fun z5=>
 .mat (xU d1 d4) fun r=>.ret (Lp z2 z5 d1 d4 r)
def Qr:Ctr:=⟨[],fun ci=>Qo ci.args ci.roots,false⟩
theorem aaR:bM Tryz.prog .none En:=(aA ah2 aBq (aA Qm azg aN))
theorem adn:Contract Tryz.prog .none 28 Qr:=by
 have hl:aZ En [] Qq:=bB (by kernel_rfl)
 refine (aI (F:=Qp) bg aaR Tryz.func28 (by kernel_rfl) (by kernel_rfl) (by kernel_rfl) hl []).weaken ?_
 rintro ⟨av,rs⟩ co h
 have h:(Qo av rs).run some=some co:=h
 obtain ⟨a0_,av0,rfl,h_0⟩:=au h
 obtain ⟨a1_,av1,rfl,h_1⟩:=au h_0
 obtain ⟨rfl,h_2⟩:=ay h_1
 obtain ⟨r0_,rs0,rfl,h_3⟩:=au h_2
 obtain ⟨rfl,h_4⟩:=ay h_3
 obtain ⟨rfl,h_5⟩:=bF h_4
 obtain ⟨z2,d1,rfl,h_6⟩:=aD h_5
 obtain ⟨m3,d4,rfl,h_7⟩:=eY h_6
 obtain ⟨z5,rfl,h_8⟩:=fH h_7
 exact bJ (adl z2 z5 d1 d4) h_8
def ag5 (p0:Int) (p1:Int):Tre Int:=
 let v1:=aP .i64 (Int.tdiv (aP .i64 (p0-p1)) 2)
 .ret v1
def alW (p0:Int) (p1:Int):Option Int:=(ag5 p0 p1).run some
def zw(p0:Int)(p1:Int):Int:=
 let v1:=aP .i64 (Int.tdiv (aP .i64 (p0-p1)) 2)
 v1
theorem afr(p0:Int)(p1:Int):alW p0 p1=some (zw p0 p1):=rfl
def OI:Env:=⟨tau,[],[]⟩
def Zx:Code:=(Tryz.f55.body).getD .skip
def Zw:FnI:=⟨Zx,Tryz.f55.results.toList,Tryz.f55.resultTypes.toList,[]⟩
def TJ (_p0:Int) (_p1:Int):Int→aB:=fun r=>⟨(.imm true (.int .i64) r),[],[]⟩
theorem akG:∀(p0:Int)(p1:Int),bN OI Zw ⟨[(.imm true (.int .i64) p0),(.imm true (.int .i64) p1)],[]⟩=(ag5 p0 p1).run fun r=>some (TJ p0 p1 r):=fun _ _=>by kernel_rfl
def Zv (av:List AV) (rs:List Root):Tre aB:=
 aJ av fun a0_ av0=>
 aJ av0 fun a1_ av1=>
 aU av1<|
 aU rs<|
 aC true (.int .i64) a0_ fun d1=>
 aC true (.int .i64) a1_ fun d2=>
 .ret (TJ d1 d2 (zw d1 d2))
def Zy:Ctr:=⟨[],fun ci=>Zv ci.args ci.roots,false⟩
theorem ah3:bM Tryz.prog .none OI:=aN
theorem akH:Contract Tryz.prog .none 55 Zy:=by
 have hl:aZ OI [] Zx:=bB (by kernel_rfl)
 refine (aI (F:=Zw) bg ah3 Tryz.func55 (by kernel_rfl) (by kernel_rfl) (by kernel_rfl) hl []).weaken ?_
 rintro ⟨av,rs⟩ co h
 have h:(Zv av rs).run some=some co:=h
 obtain ⟨a0_,av0,rfl,h_0⟩:=au h
 obtain ⟨a1_,av1,rfl,h_1⟩:=au h_0
 obtain ⟨rfl,h_2⟩:=ay h_1
 obtain ⟨rfl,h_3⟩:=ay h_2
 obtain ⟨d1,rfl,h_4⟩:=ak h_3
 obtain ⟨d2,rfl,h_5⟩:=ak h_4
 exact xq (akG d1 d2) (afr d1 d2) h_5
def Ni (h3_0_0:Int) (h3_0_1:Int) (h3_0_4:(Int×(Int×Unit))):(Int×Int)→Tre ((Int×Int) ⊕ Int):=fun s3=>
 .cond (decide (s3.2<h3_0_4.1))
  (.ite (0≤aP .u64 s3.2)<|
  let v1:=aak .i64 h3_0_1 (aP .u64 s3.2)
  .cond (decide (ahy .i64 v1 1=1))
   (.ite (0≤aP .u64 s3.2)<|
   let v2:=ael .i64 h3_0_0 (aP .u64 s3.2)
   .ret (.inl (jJ .i64 s3.1 v2,aP .i64 (s3.2+1))))
   (.ret (.inl (s3.1,aP .i64 (s3.2+1)))))
  (.ret (.inr s3.1))
def aqI (p0:(Int×(Int×Unit))) (p1:Int) (p2:Int):Tre Int:=
 .mat (aR (Ni p1 p2 p0) (0,0)) fun l3=>
 .mat (Wn l3 p0.2.1) fun r4=>
 .ret r4
def dH (p0:(Int×(Int×Unit))) (p1:Int) (p2:Int):Option Int:=(aqI p0 p1 p2).run some
-- more
set_option maxRecDepth 100000
theorem aAS:Bh dH mulN 1 2=true:=by kernel_rfl
theorem aAT:Bh dH mulN 1 3=true:=by kernel_rfl
theorem aAU:Bh dH mulN 2 7=true:=by kernel_rfl
theorem ayP:Bh dH mulN 3 11=true:=by kernel_rfl
theorem ayQ:Bh dH mulN 3 13=true:=by kernel_rfl
theorem ayR:Bh dH mulN 4 19=true:=by kernel_rfl
theorem ayS:Bh dH mulN 4 25=true:=by kernel_rfl
theorem ayT:Bh dH mulN 4 31=true:=by kernel_rfl
theorem ayU:Bh dH mulN 5 37=true:=by kernel_rfl
theorem ayV:Bh dH mulN 5 41=true:=by kernel_rfl
theorem ayW:Bh dH mulN 5 47=true:=by kernel_rfl
theorem ayX:Bh dH mulN 5 55=true:=by kernel_rfl
theorem ayY:Bh dH mulN 5 59=true:=by kernel_rfl
theorem ayZ:Bh dH mulN 5 61=true:=by kernel_rfl
theorem atH{f:TF3}(hf:aO f=true){a b:Int}(ha:inF f a)(hb:inF f b):dH f a b=some (gu f a b):=by
 refine axv (fun q hq=>?_) hf ha hb
 simp only [jm,List.mem_cons,List.not_mem_nil,or_false] at hq
 rcases hq with rfl|rfl|rfl|rfl|rfl|rfl|rfl|rfl|rfl|rfl|rfl|rfl|rfl|rfl
 ·exact aAS
 ·exact aAT
 ·exact aAU
 ·exact ayP
 ·exact ayQ
 ·exact ayR
 ·exact ayS
 ·exact ayT
 ·exact ayU
 ·exact ayV
 ·exact ayW
 ·exact ayX
 ·exact ayY
 ·exact ayZ
def KX:Env:=⟨tau,[(103,Wo)],[]⟩
def RD:Code:=(Tryz.f68.body).getD .skip
def KY (h3_0_0:Int) (h3_0_1:Int) (h3_0_4:(Int×(Int×Unit))):(Int×Int)→St:=fun x=>bR [(1,(.imm true (.int .i64) h3_0_0)),(2,(.imm true (.int .i64) h3_0_1)),(3,(.ptr (5,0) [])),(7,(.imm true (.int .i64) x.1)),(8,(.imm true (.int .i64) x.2))] [((5,0),some ⟨true,aL,.own,h3_0_4⟩)]
def GY (_h3_0_0:Int) (_h3_0_1:Int) (h3_0_4:(Int×(Int×Unit))):Int→Ex×St:=fun x=>(.exit 0,bR [(3,(.ptr (5,0) [])),(7,(.imm true (.int .i64) x))] [((5,0),some ⟨true,aL,.own,h3_0_4⟩)])
def Zd (s:St):Tre (Ex×St):=
 aC true (.int .i64) (s.tmps 1) fun d2=>
 aC true (.int .i64) (s.tmps 2) fun d4=>
 dU (5,0) [] (s.tmps 3)<|
 aC true (.int .i64) (s.tmps 7) fun d7=>
 aC true (.int .i64) (s.tmps 8) fun d9=>
 bD true aL (s.roots (5,0)) fun m11 d12=>
 asM .own m11<|
 .mat (aR (Ni d2 d4 d12) (d7,d9)) fun x=>.ret (GY d2 d4 d12 x)
def uy:bK:=⟨([1,2,3,7,8],[(5,0)]),([3,7],[(5,0)]),Zd⟩
def RB:List (Nat×bK):=[(3,uy)]
theorem aeZ:∀(h3_0_0:Int)(h3_0_1:Int)(h3_0_4:(Int×(Int×Unit)))(x:(Int×Int))(c:St→Option (Ex×St)),den KX RB (aY RD 0) (KY h3_0_0 h3_0_1 h3_0_4 x) (bU uy.kp uy.kx c)=(Ni h3_0_0 h3_0_1 h3_0_4 x).run (bV (KY h3_0_0 h3_0_1 h3_0_4) (GY h3_0_0 h3_0_1 h3_0_4) c):=fun _ _ _ _ _=>by
 kernel_rfl
theorem akj:bS KX RB (aY RD 0) uy:=bA fun s e s' h=>by
 generalize hs:restrict uy.kp s=s1 at h
 have h:(Zd s1).run some=some (e,s'):=h
 obtain ⟨d2,e1,h_0⟩:=ak h
 obtain ⟨d4,e3,h_1⟩:=ak h_0
 obtain ⟨e5,h_2⟩:=bF h_1
 obtain ⟨d7,e6,h_3⟩:=ak h_2
 obtain ⟨d9,e8,h_4⟩:=ak h_3
 obtain ⟨m11,d12,e10,h_5⟩:=aH h_4
 obtain ⟨rfl,h_6⟩:=aQ h_5
 obtain ⟨y,hy,hz⟩:=bT h_6
 refine ⟨_,_,KY d2 d4 d12,GY d2 d4 d12,Ni d2 d4 d12,(d7,d9),y,?_,hy,?_,aeZ d2 d4 d12⟩
 ·subst hs;exact aT (T:=[(1,(.imm true (.int .i64) d2)),(2,(.imm true (.int .i64) d4)),(3,(.ptr (5,0) [])),(7,(.imm true (.int .i64) d7)),(8,(.imm true (.int .i64) d9))]) (U:=[((5,0),some ⟨true,aL,.own,d12⟩)]) rfl rfl ⟨e1,e3,e5,e6,e8,trivial⟩ ⟨e10,trivial⟩
 ·exact Option.some.inj hz
def aki:FnI:=⟨RD,Tryz.f68.results.toList,Tryz.f68.resultTypes.toList,RB⟩
def acQ (_p0:(Int×(Int×Unit))) (_p1:Int) (_p2:Int):Int→aB:=fun r=>⟨(.imm true (.int .i64) r),[],[]⟩
theorem aqJ:∀(p0:(Int×(Int×Unit)))(p1:Int)(p2:Int),bN KX aki ⟨[(.imm true aL p0),(.imm true (.int .i64) p1),(.imm true (.int .i64) p2)],[]⟩=(aqI p0 p1 p2).run fun r=>some (acQ p0 p1 p2 r):=fun _ _ _=>by kernel_rfl
def akh (av:List AV) (rs:List Root):Tre aB:=
 aJ av fun a0_ av0=>
 aJ av0 fun a1_ av1=>
 aJ av1 fun a2_ av2=>
 aU av2<|
 aU rs<|
 aC true aL a0_ fun d1=>
 aC true (.int .i64) a1_ fun d2=>
 aC true (.int .i64) a2_ fun d3=>
 .mat (dH d1 d2 d3) fun r=>.ret (acQ d1 d2 d3 r)
def sw:Ctr:=⟨[],fun ci=>akh ci.args ci.roots,false⟩
theorem aos:bM Tryz.prog .none KX:=(aA acW avR aN)
theorem qZ:Contract Tryz.prog .none 68 sw:=by
 have hl:aZ KX RB RD:=(bC (n:=1) (by kernel_rfl) fun k hk=>by
   match k,hk with
   |0,_=>exact bq (id:=3) (L:=uy) (by kernel_rfl) (by kernel_rfl) akj)
 refine (aI (F:=aki) bg aos Tryz.func68 (by kernel_rfl) (by kernel_rfl) (by kernel_rfl) hl []).weaken ?_
 rintro ⟨av,rs⟩ co h
 have h:(akh av rs).run some=some co:=h
 obtain ⟨a0_,av0,rfl,h_0⟩:=au h
 obtain ⟨a1_,av1,rfl,h_1⟩:=au h_0
 obtain ⟨a2_,av2,rfl,h_2⟩:=au h_1
 obtain ⟨rfl,h_3⟩:=ay h_2
 obtain ⟨rfl,h_4⟩:=ay h_3
 obtain ⟨d1,rfl,h_5⟩:=ak h_4
 obtain ⟨d2,rfl,h_6⟩:=ak h_5
 obtain ⟨d3,rfl,h_7⟩:=ak h_6
 exact bJ (aqJ d1 d2 d3) h_7
def IW:(Int×Int×Int)→Tre ((Int×Int×Int) ⊕ Int):=fun s2=>
 .cond (decide (s2.2.1>0))
  (.cond (decide (ahy .i64 s2.2.1 1=1))
   (.ret (.inl (ael .i64 s2.1 1,aak .i64 s2.2.1 1,jJ .i64 s2.2.2 s2.1)))
   (.ret (.inl (ael .i64 s2.1 1,aak .i64 s2.2.1 1,s2.2.2))))
  (.ret (.inr s2.2.2))
def amx (p0:Int) (p1:Int):Tre Int:=
 .mat (aR IW (p0,p1,0)) fun l1=>
 .ret l1
def afS (p0:Int) (p1:Int):Option Int:=(amx p0 p1).run some
def FV:Env:=⟨tau,[],[]⟩
def MK:Code:=(Tryz.f112.body).getD .skip
def Gz:(Int×Int×Int)→St:=fun x=>bR [(0,(.imm true (.int .i64) x.1)),(1,(.imm true (.int .i64) x.2.1)),(5,(.imm true (.int .i64) x.2.2))] []
def DK:Int→Ex×St:=fun x=>(.exit 0,bR [(5,(.imm true (.int .i64) x))] [])
def Vl (s:St):Tre (Ex×St):=
 aC true (.int .i64) (s.tmps 0) fun d2=>
 aC true (.int .i64) (s.tmps 1) fun d4=>
 aC true (.int .i64) (s.tmps 5) fun d6=>
 .mat (aR IW (d2,d4,d6)) fun x=>.ret (DK x)
def qo:bK:=⟨([0,1,5],[]),([5],[]),Vl⟩
def MJ:List (Nat×bK):=[(2,qo)]
theorem abC:∀(x:(Int×Int×Int))(c:St→Option (Ex×St)),den FV MJ (aY MK 0) (Gz x) (bU qo.kp qo.kx c)=(IW x).run (bV (Gz) (DK) c):=fun _ _=>by
 kernel_rfl
theorem ahu:bS FV MJ (aY MK 0) qo:=bA fun s e s' h=>by
 generalize hs:restrict qo.kp s=s1 at h
 have h:(Vl s1).run some=some (e,s'):=h
 obtain ⟨d2,e1,h_0⟩:=ak h
 obtain ⟨d4,e3,h_1⟩:=ak h_0
 obtain ⟨d6,e5,h_2⟩:=ak h_1
 obtain ⟨y,hy,hz⟩:=bT h_2
 refine ⟨_,_,Gz,DK,IW,(d2,d4,d6),y,?_,hy,?_,abC⟩
 ·subst hs;exact aT (T:=[(0,(.imm true (.int .i64) d2)),(1,(.imm true (.int .i64) d4)),(5,(.imm true (.int .i64) d6))]) (U:=[]) rfl rfl ⟨e1,e3,e5,trivial⟩ trivial
 ·exact Option.some.inj hz
def afU:FnI:=⟨MK,Tryz.f112.results.toList,Tryz.f112.resultTypes.toList,MJ⟩
def YP (_p0:Int) (_p1:Int):Int→aB:=fun r=>⟨(.imm true (.int .i64) r),[],[]⟩
theorem anL:∀(p0:Int)(p1:Int),bN FV afU ⟨[(.imm true (.int .i64) p0),(.imm true (.int .i64) p1)],[]⟩=(amx p0 p1).run fun r=>some (YP p0 p1 r):=fun _ _=>by kernel_rfl
def afT (av:List AV) (rs:List Root):Tre aB:=
 aJ av fun a0_ av0=>
 aJ av0 fun a1_ av1=>
 aU av1<|
 aU rs<|
 aC true (.int .i64) a0_ fun d1=>
 aC true (.int .i64) a1_ fun d2=>
 .mat (afS d1 d2) fun r=>.ret (YP d1 d2 r)
def afV:Ctr:=⟨[],fun ci=>afT ci.args ci.roots,false⟩
theorem alh:bM Tryz.prog .none FV:=aN
theorem anM:Contract Tryz.prog .none 112 afV:=by
 have hl:aZ FV MJ MK:=(bC (n:=1) (by kernel_rfl) fun k hk=>by
   match k,hk with
   |0,_=>exact bq (id:=2) (L:=qo) (by kernel_rfl) (by kernel_rfl) ahu)
 refine (aI (F:=afU) bg alh Tryz.func112 (by kernel_rfl) (by kernel_rfl) (by kernel_rfl) hl []).weaken ?_
 rintro ⟨av,rs⟩ co h
 have h:(afT av rs).run some=some co:=h
 obtain ⟨a0_,av0,rfl,h_0⟩:=au h
 obtain ⟨a1_,av1,rfl,h_1⟩:=au h_0
 obtain ⟨rfl,h_2⟩:=ay h_1
 obtain ⟨rfl,h_3⟩:=ay h_2
 obtain ⟨d1,rfl,h_4⟩:=ak h_3
 obtain ⟨d2,rfl,h_5⟩:=ak h_4
 exact bJ (anL d1 d2) h_5
def Ez:(Int×Int)→Tre ((Int×Int) ⊕ Int):=fun s2=>
 .cond (decide (s2.1>0))
  (.ret (.inl (aak .i64 s2.1 1,aP .i64 (s2.2+1))))
  (.ret (.inr s2.2))
def ai6 (p0:Int):Tre Int:=
 .mat (aR Ez (p0,-1)) fun l1=>
 .ret l1
def rW (p0:Int):Option Int:=(ai6 p0).run some
def BD:Env:=⟨tau,[],[]⟩
def IU:Code:=(Tryz.f133.body).getD .skip
def Dz:(Int×Int)→St:=fun x=>bR [(0,(.imm true (.int .i64) x.1)),(3,(.imm true (.int .i64) x.2))] []
def BF:Int→Ex×St:=fun x=>(.exit 0,bR [(3,(.imm true (.int .i64) x))] [])
def Sw (s:St):Tre (Ex×St):=
 aC true (.int .i64) (s.tmps 0) fun d2=>
 aC true (.int .i64) (s.tmps 3) fun d4=>
 .mat (aR Ez (d2,d4)) fun x=>.ret (BF x)
def nM:bK:=⟨([0,3],[]),([3],[]),Sw⟩
def IQ:List (Nat×bK):=[(2,nM)]
theorem Z9:∀(x:(Int×Int))(c:St→Option (Ex×St)),den BD IQ (aY IU 0) (Dz x) (bU nM.kp nM.kx c)=(Ez x).run (bV (Dz) (BF) c):=fun _ _=>by
 kernel_rfl
theorem aed:bS BD IQ (aY IU 0) nM:=bA fun s e s' h=>by
 generalize hs:restrict nM.kp s=s1 at h
 have h:(Sw s1).run some=some (e,s'):=h
 obtain ⟨d2,e1,h_0⟩:=ak h
 obtain ⟨d4,e3,h_1⟩:=ak h_0
 obtain ⟨y,hy,hz⟩:=bT h_1
 refine ⟨_,_,Dz,BF,Ez,(d2,d4),y,?_,hy,?_,Z9⟩
 ·subst hs;exact aT (T:=[(0,(.imm true (.int .i64) d2)),(3,(.imm true (.int .i64) d4))]) (U:=[]) rfl rfl ⟨e1,e3,trivial⟩ trivial
 ·exact Option.some.inj hz
def abx:FnI:=⟨IU,Tryz.f133.results.toList,Tryz.f133.resultTypes.toList,IQ⟩
def Vg (_p0:Int):Int→aB:=fun r=>⟨(.imm true (.int .i64) r),[],[]⟩
theorem alf:∀(p0:Int),bN BD abx ⟨[(.imm true (.int .i64) p0)],[]⟩=(ai6 p0).run fun r=>some (Vg p0 r):=fun _=>by kernel_rfl
def abw (av:List AV) (rs:List Root):Tre aB:=
 aJ av fun a0_ av0=>
 aU av0<|
 aU rs<|
 aC true (.int .i64) a0_ fun d1=>
 .mat (rW d1) fun r=>.ret (Vg d1 r)
def IV:Ctr:=⟨[],fun ci=>abw ci.args ci.roots,false⟩
theorem ai7:bM Tryz.prog .none BD:=aN
theorem Oi:Contract Tryz.prog .none 133 IV:=by
 have hl:aZ BD IQ IU:=(bC (n:=1) (by kernel_rfl) fun k hk=>by
   match k,hk with
   |0,_=>exact bq (id:=2) (L:=nM) (by kernel_rfl) (by kernel_rfl) aed)
 refine (aI (F:=abx) bg ai7 Tryz.func133 (by kernel_rfl) (by kernel_rfl) (by kernel_rfl) hl []).weaken ?_
 rintro ⟨av,rs⟩ co h
 have h:(abw av rs).run some=some co:=h
 obtain ⟨a0_,av0,rfl,h_0⟩:=au h
 obtain ⟨rfl,h_1⟩:=ay h_0
 obtain ⟨rfl,h_2⟩:=ay h_1
 obtain ⟨d1,rfl,h_3⟩:=ak h_2
 exact bJ (alf d1) h_3
def ML (h2_0_1:Int) (h2_0_2:Int):Int→Tre (Int ⊕ Int):=fun s2=>
 .mat (rW s2) fun r2=>
 .cond (decide (r2 ≥ h2_0_2))
  (.mat (rW s2) fun r3=>
  .ite (0≤aP .i64 (r3-h2_0_2))<|
  let v4:=ael .i64 h2_0_1 (aP .i64 (r3-h2_0_2))
  .ret (.inl (jJ .i64 s2 v4)))
  (.ret (.inr s2))
def apO (p0:Int) (p1:Int):Tre Int:=
 .mat (rW p1) fun r1=>
 .mat (aR (ML p1 r1) p0) fun l5=>
 .ret l5
def aaf (p0:Int) (p1:Int):Option Int:=(apO p0 p1).run some
def Kz:Env:=⟨tau,[(133,IV)],[]⟩
def Ra:Code:=(Tryz.f111.body).getD .skip
def KA (h2_0_1:Int) (h2_0_2:Int):Int→St:=fun x=>bR [(0,(.imm true (.int .i64) x)),(1,(.imm true (.int .i64) h2_0_1)),(5,(.imm true (.int .i64) h2_0_2))] []
def GA (_h2_0_1:Int) (_h2_0_2:Int):Int→Ex×St:=fun x=>(.exit 0,bR [(0,(.imm true (.int .i64) x))] [])
def YQ (s:St):Tre (Ex×St):=
 aC true (.int .i64) (s.tmps 0) fun d2=>
 aC true (.int .i64) (s.tmps 1) fun d4=>
 aC true (.int .i64) (s.tmps 5) fun d6=>
 .mat (aR (ML d4 d6) d2) fun x=>.ret (GA d4 d6 x)
def uj:bK:=⟨([0,1,5],[]),([0],[]),YQ⟩
def Q9:List (Nat×bK):=[(2,uj)]
theorem aeg:∀(h2_0_1:Int)(h2_0_2:Int)(x:Int)(c:St→Option (Ex×St)),den Kz Q9 (aY Ra 0) (KA h2_0_1 h2_0_2 x) (bU uj.kp uj.kx c)=(ML h2_0_1 h2_0_2 x).run (bV (KA h2_0_1 h2_0_2) (GA h2_0_1 h2_0_2) c):=fun _ _ _ _=>by
 kernel_rfl
theorem ajj:bS Kz Q9 (aY Ra 0) uj:=bA fun s e s' h=>by
 generalize hs:restrict uj.kp s=s1 at h
 have h:(YQ s1).run some=some (e,s'):=h
 obtain ⟨d2,e1,h_0⟩:=ak h
 obtain ⟨d4,e3,h_1⟩:=ak h_0
 obtain ⟨d6,e5,h_2⟩:=ak h_1
 obtain ⟨y,hy,hz⟩:=bT h_2
 refine ⟨_,_,KA d4 d6,GA d4 d6,ML d4 d6,d2,y,?_,hy,?_,aeg d4 d6⟩
 ·subst hs;exact aT (T:=[(0,(.imm true (.int .i64) d2)),(1,(.imm true (.int .i64) d4)),(5,(.imm true (.int .i64) d6))]) (U:=[]) rfl rfl ⟨e1,e3,e5,trivial⟩ trivial
 ·exact Option.some.inj hz
def aji:FnI:=⟨Ra,Tryz.f111.results.toList,Tryz.f111.resultTypes.toList,Q9⟩
def abE (_p0:Int) (_p1:Int):Int→aB:=fun r=>⟨(.imm true (.int .i64) r),[],[]⟩
theorem apP:∀(p0:Int)(p1:Int),bN Kz aji ⟨[(.imm true (.int .i64) p0),(.imm true (.int .i64) p1)],[]⟩=(apO p0 p1).run fun r=>some (abE p0 p1 r):=fun _ _=>by kernel_rfl
def ajh (av:List AV) (rs:List Root):Tre aB:=
 aJ av fun a0_ av0=>
 aJ av0 fun a1_ av1=>
 aU av1<|
 aU rs<|
 aC true (.int .i64) a0_ fun d1=>
 aC true (.int .i64) a1_ fun d2=>
 .mat (aaf d1 d2) fun r=>.ret (abE d1 d2 r)
def aag:Ctr:=⟨[],fun ci=>ajh ci.args ci.roots,false⟩
theorem anO:bM Tryz.prog .none Kz:=(aA Oi arQ aN)
theorem afX:Contract Tryz.prog .none 111 aag:=by
 have hl:aZ Kz Q9 Ra:=(bC (n:=1) (by kernel_rfl) fun k hk=>by
   match k,hk with
   |0,_=>exact bq (id:=2) (L:=uj) (by kernel_rfl) (by kernel_rfl) ajj)
 refine (aI (F:=aji) bg anO Tryz.func111 (by kernel_rfl) (by kernel_rfl) (by kernel_rfl) hl []).weaken ?_
 rintro ⟨av,rs⟩ co h
 have h:(ajh av rs).run some=some co:=h
 obtain ⟨a0_,av0,rfl,h_0⟩:=au h
 obtain ⟨a1_,av1,rfl,h_1⟩:=au h_0
 obtain ⟨rfl,h_2⟩:=ay h_1
 obtain ⟨rfl,h_3⟩:=ay h_2
 obtain ⟨d1,rfl,h_4⟩:=ak h_3
 obtain ⟨d2,rfl,h_5⟩:=ak h_4
 exact bJ (apP d1 d2) h_5
def afM (p0:(Int×(Int×Unit))) (p1:Int) (p2:Int):Tre Int:=
 .mat (afS p1 p2) fun r1=>
 .mat (aaf r1 p0.2.1) fun r2=>
 .ret r2
def bY (p0:(Int×(Int×Unit))) (p1:Int) (p2:Int):Option Int:=(afM p0 p1 p2).run some
-- more
set_option maxRecDepth 100000
theorem aAs:Bh bY mulN 1 2=true:=by kernel_rfl
theorem aAt:Bh bY mulN 1 3=true:=by kernel_rfl
theorem aAu:Bh bY mulN 2 7=true:=by kernel_rfl
theorem ax4:Bh bY mulN 3 11=true:=by kernel_rfl
theorem ax5:Bh bY mulN 3 13=true:=by kernel_rfl
theorem ax6:Bh bY mulN 4 19=true:=by kernel_rfl
theorem ax7:Bh bY mulN 4 25=true:=by kernel_rfl
theorem ax8:Bh bY mulN 4 31=true:=by kernel_rfl
theorem ax9:Bh bY mulN 5 37=true:=by kernel_rfl
theorem aya:Bh bY mulN 5 41=true:=by kernel_rfl
theorem ayb:Bh bY mulN 5 47=true:=by kernel_rfl
theorem ayc:Bh bY mulN 5 55=true:=by kernel_rfl
theorem ayd:Bh bY mulN 5 59=true:=by kernel_rfl
theorem aye:Bh bY mulN 5 61=true:=by kernel_rfl
theorem anS{f:TF3}(hf:aO f=true){a b:Int}(ha:inF f a)(hb:inF f b):bY f a b=some (gu f a b):=by
 refine axv (fun q hq=>?_) hf ha hb
 simp only [jm,List.mem_cons,List.not_mem_nil,or_false] at hq
 rcases hq with rfl|rfl|rfl|rfl|rfl|rfl|rfl|rfl|rfl|rfl|rfl|rfl|rfl|rfl
 ·exact aAs
 ·exact aAt
 ·exact aAu
 ·exact ax4
 ·exact ax5
 ·exact ax6
 ·exact ax7
 ·exact ax8
 ·exact ax9
 ·exact aya
 ·exact ayb
 ·exact ayc
 ·exact ayd
 ·exact aye
def N7:Env:=⟨tau,[(112,afV),(111,aag)],[]⟩
def YM:Code:=(Tryz.f75.body).getD .skip
def YL:FnI:=⟨YM,Tryz.f75.results.toList,Tryz.f75.resultTypes.toList,[]⟩
def Sj (_p0:(Int×(Int×Unit))) (_p1:Int) (_p2:Int):Int→aB:=fun r=>⟨(.imm true (.int .i64) r),[],[]⟩
theorem ai5:∀(p0:(Int×(Int×Unit)))(p1:Int)(p2:Int),bN N7 YL ⟨[(.imm true aL p0),(.imm true (.int .i64) p1),(.imm true (.int .i64) p2)],[]⟩=(afM p0 p1 p2).run fun r=>some (Sj p0 p1 p2 r):=fun _ _ _=>by kernel_rfl
def YK (av:List AV) (rs:List Root):Tre aB:=
 aJ av fun a0_ av0=>
 aJ av0 fun a1_ av1=>
 aJ av1 fun a2_ av2=>
 aU av2<|
 aU rs<|
 aC true aL a0_ fun d1=>
 aC true (.int .i64) a1_ fun d2=>
 aC true (.int .i64) a2_ fun d3=>
 .mat (bY d1 d2 d3) fun r=>.ret (Sj d1 d2 d3 r)
def oO:Ctr:=⟨[],fun ci=>YK ci.args ci.roots,false⟩
theorem ahn:bM Tryz.prog .none N7:=(aA anM az2 (aA afX avS aN))
theorem pY:Contract Tryz.prog .none 75 oO:=by
 have hl:aZ N7 [] YM:=bB (by kernel_rfl)
 refine (aI (F:=YL) bg ahn Tryz.func75 (by kernel_rfl) (by kernel_rfl) (by kernel_rfl) hl []).weaken ?_
 rintro ⟨av,rs⟩ co h
 have h:(YK av rs).run some=some co:=h
 obtain ⟨a0_,av0,rfl,h_0⟩:=au h
 obtain ⟨a1_,av1,rfl,h_1⟩:=au h_0
 obtain ⟨a2_,av2,rfl,h_2⟩:=au h_1
 obtain ⟨rfl,h_3⟩:=ay h_2
 obtain ⟨rfl,h_4⟩:=ay h_3
 obtain ⟨d1,rfl,h_5⟩:=ak h_4
 obtain ⟨d2,rfl,h_6⟩:=ak h_5
 obtain ⟨d3,rfl,h_7⟩:=ak h_6
 exact bJ (ai5 d1 d2 d3) h_7
def jv (h2_0_1:Int) (h2_0_3:(Int×(Int×Unit))):(Int×Int)→Tre ((Int×Int) ⊕ Int):=fun s2=>
 .cond (decide (s2.2<h2_0_1))
  (.mat (bY h2_0_3 s2.1 s2.1) fun r1=>
  .ret (.inl (r1,aP .i64 (s2.2+1))))
  (.ret (.inr s2.1))
def JL (p0:(Int×(Int×Unit))) (p1:Int) (p2:Int):Tre Int:=
 .ifn (p0.1=0)<|
 .mat (aR (jv (Int.tmod p2 p0.1) p0) (p1,0)) fun l2=>
 .ret l2
def fV (p0:(Int×(Int×Unit))) (p1:Int) (p2:Int):Option Int:=(JL p0 p1 p2).run some
-- more
theorem anR{f:TF3}(hf:aO f=true){a b:Nat}(ha:a<(FOf f hf).q)(hb:b<(FOf f hf).q):bY f (a:Int) (b:Int)=some (((FOf f hf).mul a b:Nat):Int):=by
 rw [anS hf ((YU hf).2 ⟨a,rfl,ha⟩) ((YU hf).2 ⟨b,rfl,hb⟩),aoc hf ha hb]
theorem axO{f:TF3}(hf:aO f=true):f.1=(f.1.toNat:Int)∧f.1≠0∧1≤f.1.toNat∧f.1.toNat≤5:=by
 have:=nX hf
 refine ⟨by omega,by omega,by omega,by omega⟩
theorem ajv{f:TF3}(hf:aO f=true){x:Nat}(hx:x<(FOf f hf).q)(k:Nat):fV f (x:Int) (k:Int)=some (((FOf f hf).sqn k x:Nat):Int):=by
 obtain ⟨h1,h2,h3,h4⟩:=axO hf
 have hm:Int.tmod (k:Int) f.1=((k%f.1.toNat:Nat):Int):=by
  conv=>lhs;rw [h1]
  exact (Int.ofNat_tmod k f.1.toNat).symm
 have hml:k%f.1.toNat<f.1.toNat:=Nat.mod_lt _ (by omega)
 unfold fV JL
 rw [Tre.Rw,if_neg h2,hm,ah (show aR (jv ((k%f.1.toNat:Nat):Int) f) ((x:Int),0)=some (((FOf f hf).sqn k x:Nat):Int) from ?_),Tre.aK]
 refine cO (fun i=>(((((FOf f hf).sqn i x:Nat):Int)),(i:Int))) (k%f.1.toNat) _ (fun i hi=>?_) ?_
 ·have hl:=(FOf f hf).Hw i hx
  unfold jv
  dsimp only
  rw [Tre.aG,decide_eq_true (by omega),cond_true,ah (anR hf hl hl),Tre.aK,aV (by omega),FO.aqW]
  rfl
 ·unfold jv
  dsimp only
  rw [dw,Tre.aK,ady hf hx]
def qb:Env:=⟨tau,[(75,oO)],[]⟩
def xE:Code:=(Tryz.f62.body).getD .skip
def vX (h2_0_1:Int) (h2_0_3:(Int×(Int×Unit))):(Int×Int)→St:=fun x=>bR [(1,(.imm true (.int .i64) x.1)),(3,(.ptr (5,0) [])),(10,(.imm true (.int .i64) h2_0_1)),(11,(.imm true (.int .i64) x.2))] [((5,0),some ⟨true,aL,.own,h2_0_3⟩)]
def uQ (_h2_0_1:Int) (_h2_0_3:(Int×(Int×Unit))):Int→Ex×St:=fun x=>(.exit 0,bR [(1,(.imm true (.int .i64) x))] [])
def Ie (s:St):Tre (Ex×St):=
 aC true (.int .i64) (s.tmps 1) fun d2=>
 dU (5,0) [] (s.tmps 3)<|
 aC true (.int .i64) (s.tmps 10) fun d5=>
 aC true (.int .i64) (s.tmps 11) fun d7=>
 bD true aL (s.roots (5,0)) fun m9 d10=>
 asM .own m9<|
 .mat (aR (jv d5 d10) (d2,d7)) fun x=>.ret (uQ d5 d10 x)
def jE:bK:=⟨([1,3,10,11],[(5,0)]),([1],[]),Ie⟩
def xD:List (Nat×bK):=[(2,jE)]
theorem QU:∀(h2_0_1:Int)(h2_0_3:(Int×(Int×Unit)))(x:(Int×Int))(c:St→Option (Ex×St)),den qb xD (aY xE 0) (vX h2_0_1 h2_0_3 x) (bU jE.kp jE.kx c)=(jv h2_0_1 h2_0_3 x).run (bV (vX h2_0_1 h2_0_3) (uQ h2_0_1 h2_0_3) c):=fun _ _ _ _=>by
 kernel_rfl
theorem U2:bS qb xD (aY xE 0) jE:=bA fun s e s' h=>by
 generalize hs:restrict jE.kp s=s1 at h
 have h:(Ie s1).run some=some (e,s'):=h
 obtain ⟨d2,e1,h_0⟩:=ak h
 obtain ⟨e3,h_1⟩:=bF h_0
 obtain ⟨d5,e4,h_2⟩:=ak h_1
 obtain ⟨d7,e6,h_3⟩:=ak h_2
 obtain ⟨m9,d10,e8,h_4⟩:=aH h_3
 obtain ⟨rfl,h_5⟩:=aQ h_4
 obtain ⟨y,hy,hz⟩:=bT h_5
 refine ⟨_,_,vX d5 d10,uQ d5 d10,jv d5 d10,(d2,d7),y,?_,hy,?_,QU d5 d10⟩
 ·subst hs;exact aT (T:=[(1,(.imm true (.int .i64) d2)),(3,(.ptr (5,0) [])),(10,(.imm true (.int .i64) d5)),(11,(.imm true (.int .i64) d7))]) (U:=[((5,0),some ⟨true,aL,.own,d10⟩)]) rfl rfl ⟨e1,e3,e4,e6,trivial⟩ ⟨e8,trivial⟩
 ·exact Option.some.inj hz
def Pn:FnI:=⟨xE,Tryz.f62.results.toList,Tryz.f62.resultTypes.toList,xD⟩
def JM (_p0:(Int×(Int×Unit))) (_p1:Int) (_p2:Int):Int→aB:=fun r=>⟨(.imm true (.int .i64) r),[],[]⟩
theorem abq:∀(p0:(Int×(Int×Unit)))(p1:Int)(p2:Int),bN qb Pn ⟨[(.imm true aL p0),(.imm true (.int .i64) p1),(.imm true (.int .i64) p2)],[]⟩=(JL p0 p1 p2).run fun r=>some (JM p0 p1 p2 r):=fun _ _ _=>by kernel_rfl
def Pm (av:List AV) (rs:List Root):Tre aB:=
 aJ av fun a0_ av0=>
 aJ av0 fun a1_ av1=>
 aJ av1 fun a2_ av2=>
 aU av2<|
 aU rs<|
 aC true aL a0_ fun d1=>
 aC true (.int .i64) a1_ fun d2=>
 aC true (.int .i64) a2_ fun d3=>
 .mat (fV d1 d2 d3) fun r=>.ret (JM d1 d2 d3 r)
def mE:Ctr:=⟨[],fun ci=>Pm ci.args ci.roots,false⟩
theorem Z4:bM Tryz.prog .none qb:=(aA pY amq aN)
theorem nZ:Contract Tryz.prog .none 62 mE:=by
 have hl:aZ qb xD xE:=(bC (n:=1) (by kernel_rfl) fun k hk=>by
   match k,hk with
   |0,_=>exact bq (id:=2) (L:=jE) (by kernel_rfl) (by kernel_rfl) U2)
 refine (aI (F:=Pn) bg Z4 Tryz.func62 (by kernel_rfl) (by kernel_rfl) (by kernel_rfl) hl []).weaken ?_
 rintro ⟨av,rs⟩ co h
 have h:(Pm av rs).run some=some co:=h
 obtain ⟨a0_,av0,rfl,h_0⟩:=au h
 obtain ⟨a1_,av1,rfl,h_1⟩:=au h_0
 obtain ⟨a2_,av2,rfl,h_2⟩:=au h_1
 obtain ⟨rfl,h_3⟩:=ay h_2
 obtain ⟨rfl,h_4⟩:=ay h_3
 obtain ⟨d1,rfl,h_5⟩:=ak h_4
 obtain ⟨d2,rfl,h_6⟩:=ak h_5
 obtain ⟨d3,rfl,h_7⟩:=ak h_6
 exact bJ (abq d1 d2 d3) h_7
def mW (h2_0_2:(Int×(Int×Unit))):(Int×Int)→Tre ((Int×Int) ⊕ Int):=fun s2=>
 .cond (decide (s2.2>0))
  (.mat (dH h2_0_2 s2.1 s2.1) fun r1=>
  .ret (.inl (r1,aP .i64 (s2.2-1))))
  (.ret (.inr s2.1))
def Ws (p0:(Int×(Int×Unit))) (p1:Int) (p2:Int):Tre Int:=
 .ifn (p0.1=0)<|
 .mat (aR (mW p0) (p1,Int.tmod p2 p0.1)) fun l2=>
 .ret l2
def kH (p0:(Int×(Int×Unit))) (p1:Int) (p2:Int):Option Int:=(Ws p0 p1 p2).run some
-- more
theorem afv{f:TF3}(hf:aO f=true){a b:Nat}(ha:a<(FOf f hf).q)(hb:b<(FOf f hf).q):dH f (a:Int) (b:Int)=some (((FOf f hf).mul a b:Nat):Int):=by
 rw [atH hf ((YU hf).2 ⟨a,rfl,ha⟩) ((YU hf).2 ⟨b,rfl,hb⟩),aoc hf ha hb]
theorem afw{f:TF3}(hf:aO f=true){x:Nat}(hx:x<(FOf f hf).q)(k:Nat):kH f (x:Int) (k:Int)=some (((FOf f hf).sqn k x:Nat):Int):=by
 obtain ⟨h1,h2,h3,h4⟩:=axO hf
 have hm:Int.tmod (k:Int) f.1=((k%f.1.toNat:Nat):Int):=by
  conv=>lhs;rw [h1]
  exact (Int.ofNat_tmod k f.1.toNat).symm
 have hml:k%f.1.toNat<f.1.toNat:=Nat.mod_lt _ (by omega)
 unfold kH Ws
 rw [Tre.Rw,if_neg h2,hm,ah (show aR (mW f) ((x:Int),((k%f.1.toNat:Nat):Int))=some (((FOf f hf).sqn k x:Nat):Int) from ?_),Tre.aK]
 refine cO (fun i=>(((((FOf f hf).sqn i x:Nat):Int)),((k%f.1.toNat-i:Nat):Int))) (k%f.1.toNat) _ (fun i hi=>?_) ?_
 ·have hl:=(FOf f hf).Hw i hx
  unfold mW
  dsimp only
  rw [Tre.aG,decide_eq_true (by omega),cond_true,ah (afv hf hl hl),Tre.aK,gM (by omega) (by omega),FO.aqW,Nat.sub_sub]
  rfl
 ·unfold mW
  dsimp only
  rw [Nat.sub_self,Tre.aG,decide_eq_false (by omega),cond_false,Tre.aK,ady hf hx]
def zu:Env:=⟨tau,[(68,sw)],[]⟩
def EL:Code:=(Tryz.f56.body).getD .skip
def Co (h2_0_2:(Int×(Int×Unit))):(Int×Int)→St:=fun x=>bR [(1,(.imm true (.int .i64) x.1)),(2,(.imm true (.int .i64) x.2)),(3,(.ptr (5,0) []))] [((5,0),some ⟨true,aL,.own,h2_0_2⟩)]
def Ad (_h2_0_2:(Int×(Int×Unit))):Int→Ex×St:=fun x=>(.exit 0,bR [(1,(.imm true (.int .i64) x))] [])
def Qh (s:St):Tre (Ex×St):=
 aC true (.int .i64) (s.tmps 1) fun d2=>
 aC true (.int .i64) (s.tmps 2) fun d4=>
 dU (5,0) [] (s.tmps 3)<|
 bD true aL (s.roots (5,0)) fun m7 d8=>
 asM .own m7<|
 .mat (aR (mW d8) (d2,d4)) fun x=>.ret (Ad d8 x)
def mI:bK:=⟨([1,2,3],[(5,0)]),([1],[]),Qh⟩
def EK:List (Nat×bK):=[(2,mI)]
theorem Ym:∀(h2_0_2:(Int×(Int×Unit)))(x:(Int×Int))(c:St→Option (Ex×St)),den zu EK (aY EL 0) (Co h2_0_2 x) (bU mI.kp mI.kx c)=(mW h2_0_2 x).run (bV (Co h2_0_2) (Ad h2_0_2) c):=fun _ _ _=>by
 kernel_rfl
theorem acX:bS zu EK (aY EL 0) mI:=bA fun s e s' h=>by
 generalize hs:restrict mI.kp s=s1 at h
 have h:(Qh s1).run some=some (e,s'):=h
 obtain ⟨d2,e1,h_0⟩:=ak h
 obtain ⟨d4,e3,h_1⟩:=ak h_0
 obtain ⟨e5,h_2⟩:=bF h_1
 obtain ⟨m7,d8,e6,h_3⟩:=aH h_2
 obtain ⟨rfl,h_4⟩:=aQ h_3
 obtain ⟨y,hy,hz⟩:=bT h_4
 refine ⟨_,_,Co d8,Ad d8,mW d8,(d2,d4),y,?_,hy,?_,Ym d8⟩
 ·subst hs;exact aT (T:=[(1,(.imm true (.int .i64) d2)),(2,(.imm true (.int .i64) d4)),(3,(.ptr (5,0) []))]) (U:=[((5,0),some ⟨true,aL,.own,d8⟩)]) rfl rfl ⟨e1,e3,e5,trivial⟩ ⟨e6,trivial⟩
 ·exact Option.some.inj hz
def Zh:FnI:=⟨EL,Tryz.f56.results.toList,Tryz.f56.resultTypes.toList,EK⟩
def Tn (_p0:(Int×(Int×Unit))) (_p1:Int) (_p2:Int):Int→aB:=fun r=>⟨(.imm true (.int .i64) r),[],[]⟩
theorem akm:∀(p0:(Int×(Int×Unit)))(p1:Int)(p2:Int),bN zu Zh ⟨[(.imm true aL p0),(.imm true (.int .i64) p1),(.imm true (.int .i64) p2)],[]⟩=(Ws p0 p1 p2).run fun r=>some (Tn p0 p1 p2 r):=fun _ _ _=>by kernel_rfl
def Zg (av:List AV) (rs:List Root):Tre aB:=
 aJ av fun a0_ av0=>
 aJ av0 fun a1_ av1=>
 aJ av1 fun a2_ av2=>
 aU av2<|
 aU rs<|
 aC true aL a0_ fun d1=>
 aC true (.int .i64) a1_ fun d2=>
 aC true (.int .i64) a2_ fun d3=>
 .mat (kH d1 d2 d3) fun r=>.ret (Tn d1 d2 d3 r)
def uz:Ctr:=⟨[],fun ci=>Zg ci.args ci.roots,false⟩
theorem ahQ:bM Tryz.prog .none zu:=(aA qZ afJ aN)
theorem wM:Contract Tryz.prog .none 56 uz:=by
 have hl:aZ zu EK EL:=(bC (n:=1) (by kernel_rfl) fun k hk=>by
   match k,hk with
   |0,_=>exact bq (id:=2) (L:=mI) (by kernel_rfl) (by kernel_rfl) acX)
 refine (aI (F:=Zh) bg ahQ Tryz.func56 (by kernel_rfl) (by kernel_rfl) (by kernel_rfl) hl []).weaken ?_
 rintro ⟨av,rs⟩ co h
 have h:(Zg av rs).run some=some co:=h
 obtain ⟨a0_,av0,rfl,h_0⟩:=au h
 obtain ⟨a1_,av1,rfl,h_1⟩:=au h_0
 obtain ⟨a2_,av2,rfl,h_2⟩:=au h_1
 obtain ⟨rfl,h_3⟩:=ay h_2
 obtain ⟨rfl,h_4⟩:=ay h_3
 obtain ⟨d1,rfl,h_5⟩:=ak h_4
 obtain ⟨d2,rfl,h_6⟩:=ak h_5
 obtain ⟨d3,rfl,h_7⟩:=ak h_6
 exact bJ (akm d1 d2 d3) h_7
def aeW (p0:List Int):Tre (List Int):=
 .ite ((0+p0.length)*8≤bO∧1≤8)<|
 .ret ([]++p0)
def Nc (p0:List Int):Option (List Int):=(aeW p0).run some
-- more
theorem ayt{p0:List Int}(h:p0.length≤1048576):Nc p0=some p0:=by
 unfold Nc aeW
 rw [Tre.run_ite,if_pos (by unfold bO;omega)]
 rfl
def V8:Env:=⟨tau,[],[(1000000,[((4,0),[],false)])]⟩
def agl:Code:=(Tryz.f108.body).getD .skip
def agk:FnI:=⟨agl,Tryz.f108.results.toList,Tryz.f108.resultTypes.toList,[]⟩
def Y9 (_zp0:Bool) (_p0:List Int):(List Int)→aB:=fun r=>⟨(.imm true (.sl (.int .i64)) r),[],[]⟩
theorem aon:∀(zp0:Bool)(p0:List Int),bN V8 agk ⟨[(.imm zp0 (.sl (.int .i64)) p0)],[]⟩=(aeW p0).run fun r=>some (Y9 zp0 p0 r):=fun _ _=>by kernel_rfl
def agj (av:List AV) (rs:List Root):Tre aB:=
 aJ av fun a0_ av0=>
 aU av0<|
 aU rs<|
 bE (.sl (.int .i64)) a0_ fun z2 d1=>
 .mat (Nc d1) fun r=>.ret (Y9 z2 d1 r)
def agm:Ctr:=⟨[],fun ci=>agj ci.args ci.roots,false⟩
theorem alB:bM Tryz.prog .none V8:=aN
theorem aoo:Contract Tryz.prog .none 108 agm:=by
 have hl:aZ V8 [] agl:=bB (by kernel_rfl)
 refine (aI (F:=agk) bg alB Tryz.func108 (by kernel_rfl) (by kernel_rfl) (by kernel_rfl) hl []).weaken ?_
 rintro ⟨av,rs⟩ co h
 have h:(agj av rs).run some=some co:=h
 obtain ⟨a0_,av0,rfl,h_0⟩:=au h
 obtain ⟨rfl,h_1⟩:=ay h_0
 obtain ⟨rfl,h_2⟩:=ay h_1
 obtain ⟨z2,d1,rfl,h_3⟩:=aD h_2
 exact bJ (aon z2 d1) h_3
def EJ (h2_0_0:Int) (h2_0_3:(Int×(Int×Unit))):(Int×Int)→Tre ((Int×Int) ⊕ Int):=fun s2=>
 .cond (decide (s2.1>0))
  (.mat (dH h2_0_3 s2.2 h2_0_0) fun r1=>
  .ret (.inl (aP .i64 (s2.1-1),r1)))
  (.ret (.inr s2.2))
def akk (p0:(Int×(Int×Unit))) (p1:Int) (p2:Int):Tre Int:=
 .mat (aR (EJ p1 p0) (p2,1)) fun l2=>
 .ret l2
def acR (p0:(Int×(Int×Unit))) (p1:Int) (p2:Int):Option Int:=(akk p0 p1 p2).run some
def Cm:Env:=⟨tau,[(68,sw)],[]⟩
def I9:Code:=(Tryz.f135.body).getD .skip
def Ea (h2_0_0:Int) (h2_0_3:(Int×(Int×Unit))):(Int×Int)→St:=fun x=>bR [(1,(.imm true (.int .i64) h2_0_0)),(2,(.imm true (.int .i64) x.1)),(3,(.ptr (5,0) [])),(7,(.imm true (.int .i64) x.2))] [((5,0),some ⟨true,aL,.own,h2_0_3⟩)]
def Cn (_h2_0_0:Int) (_h2_0_3:(Int×(Int×Unit))):Int→Ex×St:=fun x=>(.exit 0,bR [(7,(.imm true (.int .i64) x))] [])
def Tm (s:St):Tre (Ex×St):=
 aC true (.int .i64) (s.tmps 1) fun d2=>
 aC true (.int .i64) (s.tmps 2) fun d4=>
 dU (5,0) [] (s.tmps 3)<|
 aC true (.int .i64) (s.tmps 7) fun d7=>
 bD true aL (s.roots (5,0)) fun m9 d10=>
 asM .own m9<|
 .mat (aR (EJ d2 d10) (d4,d7)) fun x=>.ret (Cn d2 d10 x)
def nQ:bK:=⟨([1,2,3,7],[(5,0)]),([7],[]),Tm⟩
def I8:List (Nat×bK):=[(2,nQ)]
theorem aaF:∀(h2_0_0:Int)(h2_0_3:(Int×(Int×Unit)))(x:(Int×Int))(c:St→Option (Ex×St)),den Cm I8 (aY I9 0) (Ea h2_0_0 h2_0_3 x) (bU nQ.kp nQ.kx c)=(EJ h2_0_0 h2_0_3 x).run (bV (Ea h2_0_0 h2_0_3) (Cn h2_0_0 h2_0_3) c):=fun _ _ _ _=>by
 kernel_rfl
theorem ae1:bS Cm I8 (aY I9 0) nQ:=bA fun s e s' h=>by
 generalize hs:restrict nQ.kp s=s1 at h
 have h:(Tm s1).run some=some (e,s'):=h
 obtain ⟨d2,e1,h_0⟩:=ak h
 obtain ⟨d4,e3,h_1⟩:=ak h_0
 obtain ⟨e5,h_2⟩:=bF h_1
 obtain ⟨d7,e6,h_3⟩:=ak h_2
 obtain ⟨m9,d10,e8,h_4⟩:=aH h_3
 obtain ⟨rfl,h_5⟩:=aQ h_4
 obtain ⟨y,hy,hz⟩:=bT h_5
 refine ⟨_,_,Ea d2 d10,Cn d2 d10,EJ d2 d10,(d4,d7),y,?_,hy,?_,aaF d2 d10⟩
 ·subst hs;exact aT (T:=[(1,(.imm true (.int .i64) d2)),(2,(.imm true (.int .i64) d4)),(3,(.ptr (5,0) [])),(7,(.imm true (.int .i64) d7))]) (U:=[((5,0),some ⟨true,aL,.own,d10⟩)]) rfl rfl ⟨e1,e3,e5,e6,trivial⟩ ⟨e8,trivial⟩
 ·exact Option.some.inj hz
def acT:FnI:=⟨I9,Tryz.f135.results.toList,Tryz.f135.resultTypes.toList,I8⟩
def Wm (_p0:(Int×(Int×Unit))) (_p1:Int) (_p2:Int):Int→aB:=fun r=>⟨(.imm true (.int .i64) r),[],[]⟩
theorem alE:∀(p0:(Int×(Int×Unit)))(p1:Int)(p2:Int),bN Cm acT ⟨[(.imm true aL p0),(.imm true (.int .i64) p1),(.imm true (.int .i64) p2)],[]⟩=(akk p0 p1 p2).run fun r=>some (Wm p0 p1 p2 r):=fun _ _ _=>by kernel_rfl
def acS (av:List AV) (rs:List Root):Tre aB:=
 aJ av fun a0_ av0=>
 aJ av0 fun a1_ av1=>
 aJ av1 fun a2_ av2=>
 aU av2<|
 aU rs<|
 aC true aL a0_ fun d1=>
 aC true (.int .i64) a1_ fun d2=>
 aC true (.int .i64) a2_ fun d3=>
 .mat (acR d1 d2 d3) fun r=>.ret (Wm d1 d2 d3 r)
def acU:Ctr:=⟨[],fun ci=>acS ci.args ci.roots,false⟩
theorem akl:bM Tryz.prog .none Cm:=(aA qZ afJ aN)
theorem alF:Contract Tryz.prog .none 135 acU:=by
 have hl:aZ Cm I8 I9:=(bC (n:=1) (by kernel_rfl) fun k hk=>by
   match k,hk with
   |0,_=>exact bq (id:=2) (L:=nQ) (by kernel_rfl) (by kernel_rfl) ae1)
 refine (aI (F:=acT) bg akl Tryz.func135 (by kernel_rfl) (by kernel_rfl) (by kernel_rfl) hl []).weaken ?_
 rintro ⟨av,rs⟩ co h
 have h:(acS av rs).run some=some co:=h
 obtain ⟨a0_,av0,rfl,h_0⟩:=au h
 obtain ⟨a1_,av1,rfl,h_1⟩:=au h_0
 obtain ⟨a2_,av2,rfl,h_2⟩:=au h_1
 obtain ⟨rfl,h_3⟩:=ay h_2
 obtain ⟨rfl,h_4⟩:=ay h_3
 obtain ⟨d1,rfl,h_5⟩:=ak h_4
 obtain ⟨d2,rfl,h_6⟩:=ak h_5
 obtain ⟨d3,rfl,h_7⟩:=ak h_6
 exact bJ (alE d1 d2 d3) h_7
def acO (p0:(Int×(Int×Unit))) (p1:Int):Tre Int:=
 .mat (wL p0) fun r1=>
 .mat (acR p0 p1 (aP .i64 (r1-2))) fun r2=>
 .ret r2
def dG (p0:(Int×(Int×Unit))) (p1:Int):Option Int:=(acO p0 p1).run some
-- more
set_option maxRecDepth 100000
theorem aAP:Bg dG uU 1 2=true:=by kernel_rfl
theorem aAQ:Bg dG uU 1 3=true:=by kernel_rfl
theorem aAR:Bg dG uU 2 7=true:=by kernel_rfl
theorem ayE:Bg dG uU 3 11=true:=by kernel_rfl
theorem ayF:Bg dG uU 3 13=true:=by kernel_rfl
theorem ayG:Bg dG uU 4 19=true:=by kernel_rfl
theorem ayH:Bg dG uU 4 25=true:=by kernel_rfl
theorem ayI:Bg dG uU 4 31=true:=by kernel_rfl
theorem ayJ:Bg dG uU 5 37=true:=by kernel_rfl
theorem ayK:Bg dG uU 5 41=true:=by kernel_rfl
theorem ayL:Bg dG uU 5 47=true:=by kernel_rfl
theorem ayM:Bg dG uU 5 55=true:=by kernel_rfl
theorem ayN:Bg dG uU 5 59=true:=by kernel_rfl
theorem ayO:Bg dG uU 5 61=true:=by kernel_rfl
theorem atF{f:TF3}(hf:aO f=true){a:Int}(ha:inF f a):dG f a=some (Bc f a):=by
 refine awT (fun q hq=>?_) hf ha
 simp only [jm,List.mem_cons,List.not_mem_nil,or_false] at hq
 rcases hq with rfl|rfl|rfl|rfl|rfl|rfl|rfl|rfl|rfl|rfl|rfl|rfl|rfl|rfl
 ·exact aAP
 ·exact aAQ
 ·exact aAR
 ·exact ayE
 ·exact ayF
 ·exact ayG
 ·exact ayH
 ·exact ayI
 ·exact ayJ
 ·exact ayK
 ·exact ayL
 ·exact ayM
 ·exact ayN
 ·exact ayO
def KR:Env:=⟨tau,[(87,Gd),(135,acU)],[]⟩
def Wh:Code:=(Tryz.f117.body).getD .skip
def Wd:FnI:=⟨Wh,Tryz.f117.results.toList,Tryz.f117.resultTypes.toList,[]⟩
def Qf (_p0:(Int×(Int×Unit))) (_p1:Int):Int→aB:=fun r=>⟨(.imm true (.int .i64) r),[],[]⟩
theorem ahN:∀(p0:(Int×(Int×Unit)))(p1:Int),bN KR Wd ⟨[(.imm true aL p0),(.imm true (.int .i64) p1)],[]⟩=(acO p0 p1).run fun r=>some (Qf p0 p1 r):=fun _ _=>by kernel_rfl
def V9 (av:List AV) (rs:List Root):Tre aB:=
 aJ av fun a0_ av0=>
 aJ av0 fun a1_ av1=>
 aU av1<|
 aU rs<|
 aC true aL a0_ fun d1=>
 aC true (.int .i64) a1_ fun d2=>
 .mat (dG d1 d2) fun r=>.ret (Qf d1 d2 r)
def KS:Ctr:=⟨[],fun ci=>V9 ci.args ci.roots,false⟩
theorem aeX:bM Tryz.prog .none KR:=(aA Jb asS (aA alF aAi aN))
theorem Tk:Contract Tryz.prog .none 117 KS:=by
 have hl:aZ KR [] Wh:=bB (by kernel_rfl)
 refine (aI (F:=Wd) bg aeX Tryz.func117 (by kernel_rfl) (by kernel_rfl) (by kernel_rfl) hl []).weaken ?_
 rintro ⟨av,rs⟩ co h
 have h:(V9 av rs).run some=some co:=h
 obtain ⟨a0_,av0,rfl,h_0⟩:=au h
 obtain ⟨a1_,av1,rfl,h_1⟩:=au h_0
 obtain ⟨rfl,h_2⟩:=ay h_1
 obtain ⟨rfl,h_3⟩:=ay h_2
 obtain ⟨d1,rfl,h_4⟩:=ak h_3
 obtain ⟨d2,rfl,h_5⟩:=ak h_4
 exact bJ (ahN d1 d2) h_5
def oJ (h3_0_0:List Int) (h3_0_1:List Int) (h3_0_2:Int) (h3_0_4:(Int×(Int×Unit))):(Int×(List Int))→Tre ((Int×(List Int)) ⊕ (List Int)):=fun s3=>
 .cond (decide (s3.1<(h3_0_0.length:Int)))
  (.ite (0≤s3.1∧s3.1<(h3_0_0.length:Int))<|
  .mat (h3_0_0[s3.1.toNat]?) fun x1=>
  .ite (0≤s3.1∧s3.1<(h3_0_1.length:Int))<|
  .mat (h3_0_1[s3.1.toNat]?) fun x2=>
  .mat (dH h3_0_4 x2 h3_0_2) fun r3=>
  .ite ((s3.2.length+1)*8≤bO∧1≤8)<|
  let v4:=s3.2++([jJ .i64 x1 r3])
  .ret (.inl (aP .i64 (s3.1+1),v4)))
  (.ret (.inr s3.2))
def afh (p0:(Int×(Int×Unit))) (p1:List Int) (p2:List Int) (p3:Int):Tre (List Int):=
 .mat (aR (oJ p1 p2 p3 p0) (0,[])) fun l5=>
 .ret l5
def Gj (p0:(Int×(Int×Unit))) (p1:List Int) (p2:List Int) (p3:Int):Option (List Int):=(afh p0 p1 p2 p3).run some
-- more
theorem ada{f:TF3}(hf:aO f=true){u w:List Int}(hl:u.length=w.length)(hs:u.length≤1000000)(hw:∀y∈w,inF f y){x:Int}(hx:inF f x):Gj f u w x=some (adJ f u w x):=by
 have key:=mD (xs:=u.zip w) (step:=oJ u w x f) (fun (i:Nat) (acc:List Int)=>((i:Int),acc)) (fun _ acc p=>.inl (acc++[jJ .i64 p.1 (gu f p.2 x)])) id (fun i acc=>acc.length=i) (by
  intro i acc p hp hi
  have hlt:=(List.getElem?_eq_some_iff.1 hp).1
  rw [List.length_zip] at hlt
  obtain ⟨p1,p2⟩:=p
  rw [List.getElem?_zip_eq_some] at hp
  obtain ⟨h1,h2⟩:=hp
  refine ⟨?_,fun a ha=>?_⟩
  ·unfold oJ
   dsimp only
   rw [Tre.aG,decide_eq_true (by omega),cond_true,Tre.run_ite,if_pos (by omega),Int.toNat_natCast,ah h1,Tre.run_ite,if_pos (by omega),ah h2,ah (atH hf (hw _ (List.mem_of_getElem? h2)) hx),Tre.run_ite,if_pos (by unfold bO;omega),Tre.aK,aV (by omega)]
  ·cases ha;simp [hi]) (by
  intro acc _
  unfold oJ
  dsimp only
  rw [Tre.aG,decide_eq_false (by rw [List.length_zip];omega),cond_false]
  rfl) (u.zip w) 0 [] rfl (Nat.zero_le _) rfl
 rw [ad3] at key
 have key:aR (oJ u w x f) (0,[])=some (adJ f u w x):=key
 unfold Gj afh
 rw [ah key]
 rfl
def Gl:Env:=⟨tau,[(68,sw)],[(1000000,[((10,0),[],false)])]⟩
def NH:Code:=(Tryz.f38.body).getD .skip
def G9 (z3_0:Bool) (z3_1:Bool) (h3_0_0:List Int) (h3_0_1:List Int) (h3_0_2:Int) (h3_0_4:(Int×(Int×Unit))):(Int×(List Int))→St:=fun x=>bR [(1,(.imm z3_0 (.sl (.int .i64)) h3_0_0)),(2,(.imm z3_1 (.sl (.int .i64)) h3_0_1)),(3,(.imm true (.int .i64) h3_0_2)),(4,(.ptr (6,0) [])),(9,(.ref (11,0) [])),(10,(.imm true (.int .i64) x.1))] [((6,0),some ⟨true,aL,.own,h3_0_4⟩),((11,0),some ⟨false,(.sl (.int .i64)),.own,x.2⟩)]
def Ej (_z3_0:Bool) (_z3_1:Bool) (_h3_0_0:List Int) (_h3_0_1:List Int) (_h3_0_2:Int) (_h3_0_4:(Int×(Int×Unit))):(List Int)→Ex×St:=fun x=>(.exit 0,bR [(9,(.ref (11,0) []))] [((11,0),some ⟨false,(.sl (.int .i64)),.own,x⟩)])
def WR (s:St):Tre (Ex×St):=
 bE (.sl (.int .i64)) (s.tmps 1) fun z3 d2=>
 bE (.sl (.int .i64)) (s.tmps 2) fun z6 d5=>
 aC true (.int .i64) (s.tmps 3) fun d8=>
 dU (6,0) [] (s.tmps 4)<|
 dz (11,0) [] (s.tmps 9)<|
 aC true (.int .i64) (s.tmps 10) fun d12=>
 bD true aL (s.roots (6,0)) fun m14 d15=>
 asM .own m14<|
 bD false (.sl (.int .i64)) (s.roots (11,0)) fun m17 d18=>
 asM .own m17<|
 .mat (aR (oJ d2 d5 d8 d15) (d12,d18)) fun x=>.ret (Ej z3 z6 d2 d5 d8 d15 x)
def qM:bK:=⟨([1,2,3,4,9,10],[(6,0),(11,0)]),([9],[(11,0)]),WR⟩
def NG:List (Nat×bK):=[(3,qM)]
theorem adb:∀(z3_0:Bool)(z3_1:Bool)(h3_0_0:List Int)(h3_0_1:List Int)(h3_0_2:Int)(h3_0_4:(Int×(Int×Unit)))(x:(Int×(List Int)))(c:St→Option (Ex×St)),den Gl NG (aY NH 0) (G9 z3_0 z3_1 h3_0_0 h3_0_1 h3_0_2 h3_0_4 x) (bU qM.kp qM.kx c)=(oJ h3_0_0 h3_0_1 h3_0_2 h3_0_4 x).run (bV (G9 z3_0 z3_1 h3_0_0 h3_0_1 h3_0_2 h3_0_4) (Ej z3_0 z3_1 h3_0_0 h3_0_1 h3_0_2 h3_0_4) c):=fun _ _ _ _ _ _ _ _=>by
 kernel_rfl
theorem ahW:bS Gl NG (aY NH 0) qM:=bA fun s e s' h=>by
 generalize hs:restrict qM.kp s=s1 at h
 have h:(WR s1).run some=some (e,s'):=h
 obtain ⟨z3,d2,e1,h_0⟩:=aD h
 obtain ⟨z6,d5,e4,h_1⟩:=aD h_0
 obtain ⟨d8,e7,h_2⟩:=ak h_1
 obtain ⟨e9,h_3⟩:=bF h_2
 obtain ⟨e10,h_4⟩:=bf h_3
 obtain ⟨d12,e11,h_5⟩:=ak h_4
 obtain ⟨m14,d15,e13,h_6⟩:=aH h_5
 obtain ⟨rfl,h_7⟩:=aQ h_6
 obtain ⟨m17,d18,e16,h_8⟩:=aH h_7
 obtain ⟨rfl,h_9⟩:=aQ h_8
 obtain ⟨y,hy,hz⟩:=bT h_9
 refine ⟨_,_,G9 z3 z6 d2 d5 d8 d15,Ej z3 z6 d2 d5 d8 d15,oJ d2 d5 d8 d15,(d12,d18),y,?_,hy,?_,adb z3 z6 d2 d5 d8 d15⟩
 ·subst hs;exact aT (T:=[(1,(.imm z3 (.sl (.int .i64)) d2)),(2,(.imm z6 (.sl (.int .i64)) d5)),(3,(.imm true (.int .i64) d8)),(4,(.ptr (6,0) [])),(9,(.ref (11,0) [])),(10,(.imm true (.int .i64) d12))]) (U:=[((6,0),some ⟨true,aL,.own,d15⟩),((11,0),some ⟨false,(.sl (.int .i64)),.own,d18⟩)]) rfl rfl ⟨e1,e4,e7,e9,e10,e11,trivial⟩ ⟨e13,e16,trivial⟩
 ·exact Option.some.inj hz
def agV:FnI:=⟨NH,Tryz.f38.results.toList,Tryz.f38.resultTypes.toList,NG⟩
def Zq (_zp0:Bool) (_zp1:Bool) (_p0:(Int×(Int×Unit))) (_p1:List Int) (_p2:List Int) (_p3:Int):(List Int)→aB:=fun r=>⟨(.imm true (.sl (.int .i64)) r),[],[]⟩
theorem aoI:∀(zp0:Bool)(zp1:Bool)(p0:(Int×(Int×Unit)))(p1:List Int)(p2:List Int)(p3:Int),bN Gl agV ⟨[(.imm true aL p0),(.imm zp0 (.sl (.int .i64)) p1),(.imm zp1 (.sl (.int .i64)) p2),(.imm true (.int .i64) p3)],[]⟩=(afh p0 p1 p2 p3).run fun r=>some (Zq zp0 zp1 p0 p1 p2 p3 r):=fun _ _ _ _ _ _=>by kernel_rfl
def agU (av:List AV) (rs:List Root):Tre aB:=
 aJ av fun a0_ av0=>
 aJ av0 fun a1_ av1=>
 aJ av1 fun a2_ av2=>
 aJ av2 fun a3_ av3=>
 aU av3<|
 aU rs<|
 aC true aL a0_ fun d1=>
 bE (.sl (.int .i64)) a1_ fun z3 d2=>
 bE (.sl (.int .i64)) a2_ fun z5 d4=>
 aC true (.int .i64) a3_ fun d6=>
 .mat (Gj d1 d2 d4 d6) fun r=>.ret (Zq z3 z5 d1 d2 d4 d6 r)
def agW:Ctr:=⟨[],fun ci=>agU ci.args ci.roots,false⟩
theorem alR:bM Tryz.prog .none Gl:=(aA qZ afJ aN)
theorem aoJ:Contract Tryz.prog .none 38 agW:=by
 have hl:aZ Gl NG NH:=(bC (n:=1) (by kernel_rfl) fun k hk=>by
   match k,hk with
   |0,_=>exact bq (id:=3) (L:=qM) (by kernel_rfl) (by kernel_rfl) ahW)
 refine (aI (F:=agV) bg alR Tryz.func38 (by kernel_rfl) (by kernel_rfl) (by kernel_rfl) hl []).weaken ?_
 rintro ⟨av,rs⟩ co h
 have h:(agU av rs).run some=some co:=h
 obtain ⟨a0_,av0,rfl,h_0⟩:=au h
 obtain ⟨a1_,av1,rfl,h_1⟩:=au h_0
 obtain ⟨a2_,av2,rfl,h_2⟩:=au h_1
 obtain ⟨a3_,av3,rfl,h_3⟩:=au h_2
 obtain ⟨rfl,h_4⟩:=ay h_3
 obtain ⟨rfl,h_5⟩:=ay h_4
 obtain ⟨d1,rfl,h_6⟩:=ak h_5
 obtain ⟨z3,d2,rfl,h_7⟩:=aD h_6
 obtain ⟨z5,d4,rfl,h_8⟩:=aD h_7
 obtain ⟨d6,rfl,h_9⟩:=ak h_8
 exact bJ (aoI z3 z5 d1 d2 d4 d6) h_9
def jM (h3_0_1:(List (List Int))):(Int×(List (List Int)))→Tre ((Int×(List (List Int))) ⊕ (List (List Int))):=fun s3=>
 .cond (decide (s3.1<(h3_0_1.length:Int)))
  (.ite (0≤s3.1∧s3.1<(h3_0_1.length:Int))<|
  .mat (h3_0_1[s3.1.toNat]?) fun x1=>
  .mat (Nc x1) fun r2=>
  .ite ((s3.2.length+1)*24≤bO∧1≤24)<|
  .ret (.inl (aP .i64 (s3.1+1),s3.2++([r2]))))
  (.ret (.inr s3.2))
def je (h11_0_2:Int) (h11_0_5:(List (List Int))):Int→Tre (Int ⊕ Int):=fun s11=>
 .cond (decide (s11<(h11_0_5.length:Int)))
  (.ite (0≤s11∧s11<(h11_0_5.length:Int))<|
  .mat (h11_0_5[s11.toNat]?) fun x4=>
  .ite (0≤h11_0_2∧h11_0_2<(x4.length:Int))<|
  .mat (x4[h11_0_2.toNat]?) fun x5=>
  .cond (decide (x5=0))
   (.ret (.inl (aP .i64 (s11+1))))
   (.ret (.inr s11)))
  (.ret (.inr s11))
def jf (h18_0_1:Int) (h18_0_2:Int) (h18_0_4:(Int×(Int×Unit))):(Int×(List (List Int)))→Tre ((Int×(List (List Int))) ⊕ (List (List Int))):=fun s18=>
 .cond (decide (s18.1<(s18.2.length:Int)))
  (.cond (!decide (s18.1=h18_0_1))
   (.ite (0≤s18.1∧s18.1<(s18.2.length:Int))<|
   .mat (s18.2[s18.1.toNat]?) fun x15=>
   .ite (0≤h18_0_2∧h18_0_2<(x15.length:Int))<|
   .mat (x15[h18_0_2.toNat]?) fun x16=>
   .cond (!decide (x16=0))
    (.ite (0≤s18.1∧s18.1<(s18.2.length:Int))<|
    .mat (s18.2[s18.1.toNat]?) fun x17=>
    .ite (0≤h18_0_1∧h18_0_1<(s18.2.length:Int))<|
    .mat (s18.2[h18_0_1.toNat]?) fun x18=>
    .ite (0≤s18.1∧s18.1<(s18.2.length:Int))<|
    .mat (s18.2[s18.1.toNat]?) fun x19=>
    .ite (0≤h18_0_2∧h18_0_2<(x19.length:Int))<|
    .mat (x19[h18_0_2.toNat]?) fun x20=>
    .mat (Gj h18_0_4 x17 x18 x20) fun r21=>
    .ite (0≤s18.1∧s18.1<(s18.2.length:Int))<|
    .mat (s18.2[s18.1.toNat]?) fun _=>
    let v23:=s18.2.set s18.1.toNat r21
    .ret (.inl (aP .i64 (s18.1+1),v23)))
    (.ret (.inl (aP .i64 (s18.1+1),s18.2))))
   (.ret (.inl (aP .i64 (s18.1+1),s18.2))))
  (.ret (.inr s18.2))
def iK (h8_0_0:Int) (h8_0_3:(Int×(Int×Unit))):(Int×Int×(List (List Int)))→Tre ((Int×Int×(List (List Int))) ⊕ (Int×(List (List Int)))):=fun s8=>
 .cond (decide (s8.2.1<h8_0_0))
  (.mat (aR (je s8.2.1 s8.2.2) s8.1) fun l6=>
  .cond (decide (l6=(s8.2.2.length:Int)))
   (.ret (.inl (s8.1,aP .i64 (s8.2.1+1),s8.2.2)))
   (.ite (0≤l6∧l6<(s8.2.2.length:Int))<|
   .mat (s8.2.2[l6.toNat]?) fun x7=>
   .ite (0≤s8.1∧s8.1<(s8.2.2.length:Int))<|
   .mat (s8.2.2[s8.1.toNat]?) fun x8=>
   .ite (0≤l6∧l6<(s8.2.2.length:Int))<|
   .mat (s8.2.2[l6.toNat]?) fun _=>
   .ite (((.int .i64):K)=(.int .i64)∧0≤h8_0_0∧h8_0_0=h8_0_0∧h8_0_0*(8:Nat)≤140737488355328∧1≤8)<|
   .ite (0≤s8.2.1∧s8.2.1<(x7.length:Int))<|
   .mat (x7[s8.2.1.toNat]?) fun x10=>
   .mat (dG h8_0_3 x10) fun r11=>
   .mat (Gj h8_0_3 (List.replicate h8_0_0.toNat (0:Int)) x7 r11) fun r12=>
   .ite (0≤s8.1∧s8.1<((s8.2.2.set l6.toNat x8).length:Int))<|
   .mat ((s8.2.2.set l6.toNat x8)[s8.1.toNat]?) fun _=>
   let v14:=(s8.2.2.set l6.toNat x8).set s8.1.toNat r12
   .mat (aR (jf s8.1 s8.2.1 h8_0_3) (0,v14)) fun l24=>
   .ret (.inl (aP .i64 (s8.1+1),aP .i64 (s8.2.1+1),l24))))
  (.ret (.inr (s8.1,s8.2.2)))
def RP (p0:(Int×(Int×Unit))) (p1:Int) (p2:(List (List Int))):Tre (List (List Int)):=
 .mat (aR (jM p2) (0,[])) fun l3=>
 .mat (aR (iK p1 p0) (0,0,l3)) fun l25=>
 .ite (0≤(0:Int)∧(0:Int)≤l25.1∧l25.1≤(l25.2.length:Int))<|
 .ret ((l25.2.drop 0).take ((l25.1-0).toNat))
def Ct (p0:(Int×(Int×Unit))) (p1:Int) (p2:(List (List Int))):Option (List (List Int)):=(RP p0 p1 p2).run some
-- more
theorem auZ{rows:List (List Int)}(hl:rows.length≤1000000)(hr:∀r∈rows,r.length≤1000000):aR (jM rows) (0,[])=some rows:=by
 have key:=mD (xs:=rows) (step:=jM rows) (fun (i:Nat) (acc:List (List Int))=>((i:Int),acc)) (fun _ acc r=>.inl (acc++[id r])) id (fun i acc=>acc.length=i) (by
  intro i acc r h hi
  have hlt:=(List.getElem?_eq_some_iff.1 h).1
  refine ⟨?_,fun a ha=>?_⟩
  ·unfold jM
   dsimp only
   rw [Tre.aG,decide_eq_true (by omega),cond_true,Tre.run_ite,if_pos (by omega),Int.toNat_natCast,ah h,ah (ayt (by have:=hr r (List.mem_of_getElem? h);omega)),Tre.run_ite,if_pos (by unfold bO;omega),Tre.aK,aV (by omega)]
   rfl
  ·cases ha;simp [hi]) (by
  intro acc _
  unfold jM
  dsimp only
  rw [Tre.aG,decide_eq_false (by omega),cond_false]
  rfl) rows 0 [] rfl (Nat.zero_le _) rfl
 rw [ad3,List.map_id] at key
 exact key
theorem au0{c:Nat}{L:List (List Int)}(hc:∀r∈L,c<r.length)(hL:L.length≤1000000):∀(l:List (List Int))(i:Nat),L.drop i=l→i≤L.length →
  aR (je (c:Int) L) (i:Int)=some (if oq (DX c) i l<0 then (L.length:Int) else oq (DX c) i l):=by
 intro l
 induction l with
 |nil=>
  intro i hl hi
  have:i=L.length:=by have:=List.drop_eq_nil_iff.1 hl;omega
  subst this
  refine fB ?_
  unfold je
  exact dw
 |cons x l ih=>
  intro i hl hi
  have hx:L[i]?=some x:=by
   have:=congrArg (·[0]?) hl
   simpa using this
  have hlt:=(List.getElem?_eq_some_iff.1 hx).1
  have hcx:=hc x (List.mem_of_getElem? hx)
  obtain ⟨y,hy⟩:∃y,x[c]?=some y:=⟨_,List.getElem?_eq_getElem hcx⟩
  have hn:DX c x = !decide (y=0):=by unfold DX;rw [hy]
  by_cases h0:y=0
  ·have e:oq (DX c) i (x::l)=oq (DX c) (i+1) l:=by simp [oq,hn,h0]
   rw [e,←ih (i+1) (by rw [←List.drop_drop,hl];rfl) (by omega)]
   refine mR ?_
   unfold je
   rw [dP hx,Tre.run_ite,if_pos (by omega),Int.toNat_natCast,ah hy,Tre.aG,decide_eq_true h0,cond_true,Tre.aK,aV (by omega)]
  ·have e:oq (DX c) i (x::l)=(i:Int):=by simp [oq,hn,h0]
   rw [e,if_neg (by omega)]
   refine fB ?_
   unfold je
   rw [dP hx,Tre.run_ite,if_pos (by omega),Int.toNat_natCast,ah hy,Tre.aG,decide_eq_false h0,cond_false,Tre.aK]
theorem asx{f:TF3}(hf:aO f=true){n c a:Nat}{own:List Int}{L:List (List Int)}(hc:c<n)(hn:n≤1000000)(h:GR f n L)(hk:L[a]?=some own)(hL:L.length≤1000000) :
  aR (jf (a:Int) (c:Int) f) (0,L)=some (L.mapIdx (oN f c a own)):=by
 obtain ⟨hol,hof⟩:=EO h hk
 have hak:=(List.getElem?_eq_some_iff.1 hk).1
 have key:=mD (xs:=L) (step:=jf (a:Int) (c:Int) f) (fun (i:Nat) (acc:List (List Int))=>((i:Int),acc)) (fun i acc r=>.inl (acc.set i (oN f c a own i r))) id (fun i acc=>acc.length=L.length∧acc.drop i=L.drop i∧acc[a]?=some own) (by
  intro i acc r hr hi
  have hlt:=(List.getElem?_eq_some_iff.1 hr).1
  obtain ⟨hr1,hr2⟩:=EO h hr
  have hai:acc[i]?=some r:=by
   have:=congrArg (·[0]?) hi.2.1
   simpa [hr] using this
  obtain ⟨x,hx⟩:∃x,r[c]?=some x:=⟨_,List.getElem?_eq_getElem (by omega)⟩
  have hxf:=hr2 x (List.mem_of_getElem? hx)
  have hset:acc.set i r=acc:=by
   apply List.ext_getElem?
   intro j
   rw [List.getElem?_set]
   split
   ·rename_i h;subst h;simp [show i<acc.length by omega,←hai]
   ·rfl
  refine ⟨?_,fun b hb=>?_⟩
  ·unfold jf
   dsimp only
   rw [Tre.aG,decide_eq_true (by omega),cond_true,Tre.aG]
   by_cases h1:i=a
   ·rw [decide_eq_true (show (i:Int)=(a:Int) by omega),Bool.not_true,cond_false,Tre.aK,aV (by omega)]
    simp only [oN,hx,h1,decide_true,Bool.true_or,cond_true]
    rw [←h1,hset]
   ·rw [decide_eq_false (show ¬(i:Int)=(a:Int) by omega),Bool.not_false,cond_true,Tre.run_ite,if_pos (by omega),Int.toNat_natCast,ah hai,Tre.run_ite,if_pos (by omega),Int.toNat_natCast,ah hx,Tre.aG]
    by_cases h2:x=0
    ·rw [decide_eq_true h2,Bool.not_true,cond_false,Tre.aK,aV (by omega)]
     simp only [oN,hx,h2,decide_true,Bool.or_true,cond_true]
     rw [hset]
    ·rw [decide_eq_false h2,Bool.not_false,cond_true,Tre.run_ite,if_pos (by omega),ah hai,Tre.run_ite,if_pos (by omega),Int.toNat_natCast,ah hi.2.2,Tre.run_ite,if_pos (by omega),ah hai,Tre.run_ite,if_pos (by omega),ah hx,ah (ada hf (by omega) (by omega) hof hxf),Tre.run_ite,if_pos (by omega),ah hai,Tre.aK,aV (by omega)]
     simp only [oN,hx,h1,h2,decide_false,Bool.or_self,cond_false]
     have:adJ f r own x=(r.zip own).map fun p=>jJ .i64 p.1 (gu f x p.2):=by
      unfold adJ
      refine List.map_congr_left fun p hp=>?_
      have h1:=List.of_mem_zip (a:=p.1) (b:=p.2) hp
      rw [(DW hf (hof _ h1.2) hxf).2]
     rw [this]
  ·cases hb
   refine ⟨by simp [hi.1],?_,?_⟩
   ·rw [List.drop_set_of_lt (by omega),←List.drop_drop,←List.drop_drop,hi.2.1]
   ·by_cases h1:i=a
    ·subst h1
     rw [List.getElem?_set_self (by omega)]
     rw [hr] at hk;cases hk
     simp only [oN,hx,decide_true,Bool.true_or,cond_true]
    ·rw [List.getElem?_set_ne h1];exact hi.2.2) (by
  rintro acc ⟨hl,_⟩
  unfold jf
  dsimp only
  rw [Tre.aG,decide_eq_false (by omega),cond_false]
  rfl) L 0 L rfl (Nat.zero_le _) ⟨rfl,rfl,hk⟩
 rw [aiW _ _ _ _ _ (by simp)] at key
 simpa using key
theorem atO{f:TF3}(hf:aO f=true){x:Int}(hx:inF f x):∀{w:List Int},(∀y∈w,inF f y)→adJ f (List.replicate w.length 0) w x=w.map fun y=>gu f y x:=by
 intro w
 induction w with
 |nil=>intro _;rfl
 |cons y w ih=>
  intro h
  have:=ih (fun z hz=>h z (List.mem_cons_of_mem _ hz))
  unfold adJ at this ⊢
  simp only [List.length_cons,List.replicate_succ,List.zip_cons_cons,List.map_cons]
  rw [this,qX hf (DW hf (h y (List.mem_cons_self ..)) hx).1]
theorem au2{f:TF3}(hf:aO f=true){n c:Nat}(hc:c<n)(hn:n≤1000000)(s:Nat×List (List Int))(h:GR f n s.2)(hL:s.2.length≤1000000)(ha:s.1≤s.2.length) :
  (iK (n:Int) f ((s.1:Int),(c:Int),s.2)).run some=some (.inl (((jl f c s).1:Int),((c+1:Nat):Int),(jl f c s).2)):=by
 obtain ⟨a,L⟩:=s
 dsimp only at h hL ha
 have hfd:=au0 (c:=c) (fun r hr=>by rw [(h r hr).1];exact hc) hL (L.drop a) a rfl ha
 unfold iK
 dsimp only
 rw [Tre.aG,decide_eq_true (by omega),cond_true,ah hfd,Tre.aG]
 unfold jl
 dsimp only
 rcases zZ (DX c) (L.drop a) a with ⟨h1,_⟩|⟨k,row,h1,h2,h3⟩
 ·rw [h1,if_pos (by decide),decide_eq_true rfl,show decide ((-1:Int)<0)=true from rfl,cond_true,cond_true,Tre.aK,aV (by omega)]
 ·have hak:L[a+k]?=some row:=by rw [←h1,List.getElem?_drop]
  have hlt:=(List.getElem?_eq_some_iff.1 hak).1
  obtain ⟨r0,hr0⟩:∃r0,L[a]?=some r0:=⟨_,List.getElem?_eq_getElem (by omega)⟩
  obtain ⟨hrl,hrf⟩:=EO h hak
  obtain ⟨x,hx,hx0⟩:=aod h2
  have hxf:=hrf x (List.mem_of_getElem? hx)
  have hxi:=(wD hf hxf).1
  rw [h3,if_neg (by omega),decide_eq_false (by omega),decide_eq_false (by omega),cond_false,cond_false]
  rw [Tre.run_ite,if_pos (by omega),Int.toNat_natCast,ah hak,Tre.run_ite,if_pos (by omega),Int.toNat_natCast,ah hr0,Tre.run_ite,if_pos (by omega),ah hak,Tre.run_ite,if_pos ⟨rfl,by omega,rfl,by omega,by decide⟩,Tre.run_ite,if_pos (by omega),Int.toNat_natCast,ah hx,ah (atF hf hxf),Int.toNat_natCast]
  rw [ah (ada hf (by simp [hrl]) (by simp;omega) hrf hxi),←hrl,atO hf hxi hrf]
  have hg:(L.set (a+k) r0)[a]?=some r0:=by
   rw [List.getElem?_set]
   split
   ·first|rfl|rw [if_pos (by omega)]
   ·exact hr0
  simp only [List.length_set]
  rw [Tre.run_ite,if_pos (by omega),ah hg]
  have hp:Um f c (a+k) a L=(L.set (a+k) r0).set a (row.map fun y=>gu f y (Bc f x)):=by
   unfold Um aaX
   rw [hak,hr0]
   simp only [hx]
  have hpg:=aii (c:=c) (k:=a+k) (a:=a) hf h
  rw [hp] at hpg ⊢
  have hpa:((L.set (a+k) r0).set a (row.map fun y=>gu f y (Bc f x)))[a]?=some (row.map fun y=>gu f y (Bc f x)):=List.getElem?_set_self (by simp;omega)
  generalize hG:(L.set (a+k) r0).set a (row.map fun y=>gu f y (Bc f x))=G at hpg hpa
  rw [ah (asx hf hc hn hpg.1 hpa (by omega)),Tre.aK,aV (by omega),aV (by omega)]
  unfold Gs
  rw [hpa]
theorem au1{f:TF3}(hf:aO f=true){n:Nat}(hn:n≤1000000):∀(m c:Nat)(s:Nat×List (List Int)),c+m=n→GR f n s.2→s.2.length≤1000000→s.1≤s.2.length→aR (iK (n:Int) f) ((s.1:Int),(c:Int),s.2)=some (((gU f c m s).1:Int),(gU f c m s).2):=by
 intro m
 induction m with
 |zero=>
  intro c s hc h hL ha
  have hc:c=n:=hc
  subst hc
  refine fB ?_
  unfold iK
  exact dw
 |succ m ih=>
  intro c s hc h hL ha
  rw [mR (au2 hf (by omega) hn s h hL ha)]
  have h1:=Ju (c:=c) hf h ha
  exact ih (c+1) _ (by omega) h1.1 (by omega) (by omega)
theorem ayB{f:TF3}(hf:aO f=true){n:Nat}(hn:n≤1000000){L:List (List Int)}(h:GR f n L)(hL:L.length≤1000000):Ct f (n:Int) L=some (ES f n L):=by
 have hl:=au1 hf hn n 0 (0,L) (by omega) h hL (Nat.zero_le _)
 have hk:=QJ hf n 0 (0,L) h (Nat.zero_le _)
 have hl:aR (iK (n:Int) f) (0,0,L)=_:=hl
 unfold Ct RP
 rw [ah (auZ hL (fun r hr=>by rw [(h r hr).1];exact hn)),ah hl,Tre.run_ite,if_pos (by have:=hk.2.1;have:=hk.2.2;dsimp only at *;omega),Tre.aK]
 unfold ES
 simp
def fP:Env:=⟨tau,[(108,agm),(117,KS),(38,agW)],[(2,[((9,0),[],true)])]⟩
def iH:Code:=(Tryz.f88.body).getD .skip
def Aj (z3_0:Bool) (h3_0_0:Int) (h3_0_1:(List (List Int))) (h3_0_3:(Int×(Int×Unit))):(Int×(List (List Int)))→St:=fun x=>bR [(1,(.imm true (.int .i64) h3_0_0)),(2,(.imm z3_0 (.sl (.sl (.int .i64))) h3_0_1)),(3,(.ptr (5,0) [])),(7,(.ref (9,0) [])),(8,(.imm true (.int .i64) x.1))] [((5,0),some ⟨true,aL,.own,h3_0_3⟩),((9,0),some ⟨false,(.sl (.sl (.int .i64))),(.sl (.imm true)),x.2⟩)]
def yT (_z3_0:Bool) (h3_0_0:Int) (_h3_0_1:(List (List Int))) (h3_0_3:(Int×(Int×Unit))):(List (List Int))→Ex×St:=fun x=>(.exit 0,bR [(1,(.imm true (.int .i64) h3_0_0)),(3,(.ptr (5,0) [])),(7,(.ref (9,0) []))] [((5,0),some ⟨true,aL,.own,h3_0_3⟩),((9,0),some ⟨false,(.sl (.sl (.int .i64))),(.sl (.imm true)),x⟩)])
def NI (s:St):Tre (Ex×St):=
 aC true (.int .i64) (s.tmps 1) fun d2=>
 bE (.sl (.sl (.int .i64))) (s.tmps 2) fun z5 d4=>
 dU (5,0) [] (s.tmps 3)<|
 dz (9,0) [] (s.tmps 7)<|
 aC true (.int .i64) (s.tmps 8) fun d9=>
 bD true aL (s.roots (5,0)) fun m11 d12=>
 asM .own m11<|
 bD false (.sl (.sl (.int .i64))) (s.roots (9,0)) fun m14 d15=>
 asM (.sl (.imm true)) m14<|
 .mat (aR (jM d4) (d9,d15)) fun x=>.ret (yT z5 d2 d4 d12 x)
def lC:bK:=⟨([1,2,3,7,8],[(5,0),(9,0)]),([1,3,7],[(5,0),(9,0)]),NI⟩
def yR (h11_0_0:Int) (h11_0_1:Int) (h11_0_2:Int) (h11_0_4:(Int×(Int×Unit))) (h11_0_5:(List (List Int))):Int→St:=fun x=>bR [(1,(.imm true (.int .i64) h11_0_0)),(3,(.ptr (5,0) [])),(7,(.ref (9,0) [])),(9,(.imm true (.int .i64) h11_0_1)),(10,(.imm true (.int .i64) h11_0_2)),(11,(.imm true (.int .i64) x))] [((5,0),some ⟨true,aL,.own,h11_0_4⟩),((9,0),some ⟨false,(.sl (.sl (.int .i64))),(.sl (.imm true)),h11_0_5⟩)]
def wS (h11_0_0:Int) (h11_0_1:Int) (h11_0_2:Int) (h11_0_4:(Int×(Int×Unit))) (h11_0_5:(List (List Int))):Int→Ex×St:=fun x=>(.exit 4,bR [(1,(.imm true (.int .i64) h11_0_0)),(3,(.ptr (5,0) [])),(7,(.ref (9,0) [])),(9,(.imm true (.int .i64) h11_0_1)),(10,(.imm true (.int .i64) h11_0_2)),(11,(.imm true (.int .i64) x))] [((5,0),some ⟨true,aL,.own,h11_0_4⟩),((9,0),some ⟨false,(.sl (.sl (.int .i64))),(.sl (.imm true)),h11_0_5⟩)])
def Le (s:St):Tre (Ex×St):=
 aC true (.int .i64) (s.tmps 1) fun d2=>
 dU (5,0) [] (s.tmps 3)<|
 dz (9,0) [] (s.tmps 7)<|
 aC true (.int .i64) (s.tmps 9) fun d6=>
 aC true (.int .i64) (s.tmps 10) fun d8=>
 aC true (.int .i64) (s.tmps 11) fun d10=>
 bD true aL (s.roots (5,0)) fun m12 d13=>
 asM .own m12<|
 bD false (.sl (.sl (.int .i64))) (s.roots (9,0)) fun m15 d16=>
 asM (.sl (.imm true)) m15<|
 .mat (aR (je d8 d16) d10) fun x=>.ret (wS d2 d6 d8 d13 d16 x)
def ko:bK:=⟨([1,3,7,9,10,11],[(5,0),(9,0)]),([1,3,7,9,10,11],[(5,0),(9,0)]),Le⟩
def yS (h18_0_0:Int) (h18_0_1:Int) (h18_0_2:Int) (h18_0_4:(Int×(Int×Unit))):(Int×(List (List Int)))→St:=fun x=>bR [(1,(.imm true (.int .i64) h18_0_0)),(3,(.ptr (5,0) [])),(7,(.ref (9,0) [])),(9,(.imm true (.int .i64) h18_0_1)),(10,(.imm true (.int .i64) h18_0_2)),(13,(.imm true (.int .i64) x.1))] [((5,0),some ⟨true,aL,.own,h18_0_4⟩),((9,0),some ⟨false,(.sl (.sl (.int .i64))),(.sl (.imm true)),x.2⟩)]
def wT (h18_0_0:Int) (h18_0_1:Int) (h18_0_2:Int) (h18_0_4:(Int×(Int×Unit))):(List (List Int))→Ex×St:=fun x=>(.exit 6,bR [(1,(.imm true (.int .i64) h18_0_0)),(3,(.ptr (5,0) [])),(7,(.ref (9,0) [])),(9,(.imm true (.int .i64) h18_0_1)),(10,(.imm true (.int .i64) h18_0_2))] [((5,0),some ⟨true,aL,.own,h18_0_4⟩),((9,0),some ⟨false,(.sl (.sl (.int .i64))),(.sl (.imm true)),x⟩)])
def Lf (s:St):Tre (Ex×St):=
 aC true (.int .i64) (s.tmps 1) fun d2=>
 dU (5,0) [] (s.tmps 3)<|
 dz (9,0) [] (s.tmps 7)<|
 aC true (.int .i64) (s.tmps 9) fun d6=>
 aC true (.int .i64) (s.tmps 10) fun d8=>
 aC true (.int .i64) (s.tmps 13) fun d10=>
 bD true aL (s.roots (5,0)) fun m12 d13=>
 asM .own m12<|
 bD false (.sl (.sl (.int .i64))) (s.roots (9,0)) fun m15 d16=>
 asM (.sl (.imm true)) m15<|
 .mat (aR (jf d6 d8 d13) (d10,d16)) fun x=>.ret (wT d2 d6 d8 d13 x)
def kr:bK:=⟨([1,3,7,9,10,13],[(5,0),(9,0)]),([1,3,7,9,10],[(5,0),(9,0)]),Lf⟩
def Ak (h8_0_0:Int) (h8_0_3:(Int×(Int×Unit))):(Int×Int×(List (List Int)))→St:=fun x=>bR [(1,(.imm true (.int .i64) h8_0_0)),(3,(.ptr (5,0) [])),(7,(.ref (9,0) [])),(9,(.imm true (.int .i64) x.1)),(10,(.imm true (.int .i64) x.2.1))] [((5,0),some ⟨true,aL,.own,h8_0_3⟩),((9,0),some ⟨false,(.sl (.sl (.int .i64))),(.sl (.imm true)),x.2.2⟩)]
def yU (_h8_0_0:Int) (_h8_0_3:(Int×(Int×Unit))):(Int×(List (List Int)))→Ex×St:=fun x=>(.exit 2,bR [(7,(.ref (9,0) [])),(9,(.imm true (.int .i64) x.1))] [((9,0),some ⟨false,(.sl (.sl (.int .i64))),(.sl (.imm true)),x.2⟩)])
def NJ (s:St):Tre (Ex×St):=
 aC true (.int .i64) (s.tmps 1) fun d2=>
 dU (5,0) [] (s.tmps 3)<|
 dz (9,0) [] (s.tmps 7)<|
 aC true (.int .i64) (s.tmps 9) fun d6=>
 aC true (.int .i64) (s.tmps 10) fun d8=>
 bD true aL (s.roots (5,0)) fun m10 d11=>
 asM .own m10<|
 bD false (.sl (.sl (.int .i64))) (s.roots (9,0)) fun m13 d14=>
 asM (.sl (.imm true)) m13<|
 .mat (aR (iK d2 d11) (d6,d8,d14)) fun x=>.ret (yU d2 d11 x)
def lD:bK:=⟨([1,3,7,9,10],[(5,0),(9,0)]),([7,9],[(9,0)]),NJ⟩
def iG:List (Nat×bK):=[(3,lC),(11,ko),(18,kr),(8,lD)]
theorem WW:∀(z3_0:Bool)(h3_0_0:Int)(h3_0_1:(List (List Int)))(h3_0_3:(Int×(Int×Unit)))(x:(Int×(List (List Int))))(c:St→Option (Ex×St)),den fP iG (aY iH 0) (Aj z3_0 h3_0_0 h3_0_1 h3_0_3 x) (bU lC.kp lC.kx c)=(jM h3_0_1 x).run (bV (Aj z3_0 h3_0_0 h3_0_1 h3_0_3) (yT z3_0 h3_0_0 h3_0_1 h3_0_3) c):=fun _ _ _ _ _ _=>by
 kernel_rfl
theorem aaP:bS fP iG (aY iH 0) lC:=bA fun s e s' h=>by
 generalize hs:restrict lC.kp s=s1 at h
 have h:(NI s1).run some=some (e,s'):=h
 obtain ⟨d2,e1,h_0⟩:=ak h
 obtain ⟨z5,d4,e3,h_1⟩:=aD h_0
 obtain ⟨e6,h_2⟩:=bF h_1
 obtain ⟨e7,h_3⟩:=bf h_2
 obtain ⟨d9,e8,h_4⟩:=ak h_3
 obtain ⟨m11,d12,e10,h_5⟩:=aH h_4
 obtain ⟨rfl,h_6⟩:=aQ h_5
 obtain ⟨m14,d15,e13,h_7⟩:=aH h_6
 obtain ⟨rfl,h_8⟩:=aQ h_7
 obtain ⟨y,hy,hz⟩:=bT h_8
 refine ⟨_,_,Aj z5 d2 d4 d12,yT z5 d2 d4 d12,jM d4,(d9,d15),y,?_,hy,?_,WW z5 d2 d4 d12⟩
 ·subst hs;exact aT (T:=[(1,(.imm true (.int .i64) d2)),(2,(.imm z5 (.sl (.sl (.int .i64))) d4)),(3,(.ptr (5,0) [])),(7,(.ref (9,0) [])),(8,(.imm true (.int .i64) d9))]) (U:=[((5,0),some ⟨true,aL,.own,d12⟩),((9,0),some ⟨false,(.sl (.sl (.int .i64))),(.sl (.imm true)),d15⟩)]) rfl rfl ⟨e1,e3,e6,e7,e8,trivial⟩ ⟨e10,e13,trivial⟩
 ·exact Option.some.inj hz
theorem Ur:∀(h11_0_0:Int)(h11_0_1:Int)(h11_0_2:Int)(h11_0_4:(Int×(Int×Unit)))(h11_0_5:(List (List Int)))(x:Int)(c:St→Option (Ex×St)),den fP iG (aY iH 2) (yR h11_0_0 h11_0_1 h11_0_2 h11_0_4 h11_0_5 x) (bU ko.kp ko.kx c)=(je h11_0_2 h11_0_5 x).run (bV (yR h11_0_0 h11_0_1 h11_0_2 h11_0_4 h11_0_5) (wS h11_0_0 h11_0_1 h11_0_2 h11_0_4 h11_0_5) c):=fun _ _ _ _ _ _ _=>by
 kernel_rfl
theorem Yu:bS fP iG (aY iH 2) ko:=bA fun s e s' h=>by
 generalize hs:restrict ko.kp s=s1 at h
 have h:(Le s1).run some=some (e,s'):=h
 obtain ⟨d2,e1,h_0⟩:=ak h
 obtain ⟨e3,h_1⟩:=bF h_0
 obtain ⟨e4,h_2⟩:=bf h_1
 obtain ⟨d6,e5,h_3⟩:=ak h_2
 obtain ⟨d8,e7,h_4⟩:=ak h_3
 obtain ⟨d10,e9,h_5⟩:=ak h_4
 obtain ⟨m12,d13,e11,h_6⟩:=aH h_5
 obtain ⟨rfl,h_7⟩:=aQ h_6
 obtain ⟨m15,d16,e14,h_8⟩:=aH h_7
 obtain ⟨rfl,h_9⟩:=aQ h_8
 obtain ⟨y,hy,hz⟩:=bT h_9
 refine ⟨_,_,yR d2 d6 d8 d13 d16,wS d2 d6 d8 d13 d16,je d8 d16,d10,y,?_,hy,?_,Ur d2 d6 d8 d13 d16⟩
 ·subst hs;exact aT (T:=[(1,(.imm true (.int .i64) d2)),(3,(.ptr (5,0) [])),(7,(.ref (9,0) [])),(9,(.imm true (.int .i64) d6)),(10,(.imm true (.int .i64) d8)),(11,(.imm true (.int .i64) d10))]) (U:=[((5,0),some ⟨true,aL,.own,d13⟩),((9,0),some ⟨false,(.sl (.sl (.int .i64))),(.sl (.imm true)),d16⟩)]) rfl rfl ⟨e1,e3,e4,e5,e7,e9,trivial⟩ ⟨e11,e14,trivial⟩
 ·exact Option.some.inj hz
theorem Us:∀(h18_0_0:Int)(h18_0_1:Int)(h18_0_2:Int)(h18_0_4:(Int×(Int×Unit)))(x:(Int×(List (List Int))))(c:St→Option (Ex×St)),den fP iG (aY iH 3) (yS h18_0_0 h18_0_1 h18_0_2 h18_0_4 x) (bU kr.kp kr.kx c)=(jf h18_0_1 h18_0_2 h18_0_4 x).run (bV (yS h18_0_0 h18_0_1 h18_0_2 h18_0_4) (wT h18_0_0 h18_0_1 h18_0_2 h18_0_4) c):=fun _ _ _ _ _ _=>by
 kernel_rfl
theorem Yv:bS fP iG (aY iH 3) kr:=bA fun s e s' h=>by
 generalize hs:restrict kr.kp s=s1 at h
 have h:(Lf s1).run some=some (e,s'):=h
 obtain ⟨d2,e1,h_0⟩:=ak h
 obtain ⟨e3,h_1⟩:=bF h_0
 obtain ⟨e4,h_2⟩:=bf h_1
 obtain ⟨d6,e5,h_3⟩:=ak h_2
 obtain ⟨d8,e7,h_4⟩:=ak h_3
 obtain ⟨d10,e9,h_5⟩:=ak h_4
 obtain ⟨m12,d13,e11,h_6⟩:=aH h_5
 obtain ⟨rfl,h_7⟩:=aQ h_6
 obtain ⟨m15,d16,e14,h_8⟩:=aH h_7
 obtain ⟨rfl,h_9⟩:=aQ h_8
 obtain ⟨y,hy,hz⟩:=bT h_9
 refine ⟨_,_,yS d2 d6 d8 d13,wT d2 d6 d8 d13,jf d6 d8 d13,(d10,d16),y,?_,hy,?_,Us d2 d6 d8 d13⟩
 ·subst hs;exact aT (T:=[(1,(.imm true (.int .i64) d2)),(3,(.ptr (5,0) [])),(7,(.ref (9,0) [])),(9,(.imm true (.int .i64) d6)),(10,(.imm true (.int .i64) d8)),(13,(.imm true (.int .i64) d10))]) (U:=[((5,0),some ⟨true,aL,.own,d13⟩),((9,0),some ⟨false,(.sl (.sl (.int .i64))),(.sl (.imm true)),d16⟩)]) rfl rfl ⟨e1,e3,e4,e5,e7,e9,trivial⟩ ⟨e11,e14,trivial⟩
 ·exact Option.some.inj hz
theorem WX:∀(h8_0_0:Int)(h8_0_3:(Int×(Int×Unit)))(x:(Int×Int×(List (List Int))))(c:St→Option (Ex×St)),den fP iG (aY iH 1) (Ak h8_0_0 h8_0_3 x) (bU lD.kp lD.kx c)=(iK h8_0_0 h8_0_3 x).run (bV (Ak h8_0_0 h8_0_3) (yU h8_0_0 h8_0_3) c):=fun _ _ _ _=>by
 kernel_rfl
theorem aaQ:bS fP iG (aY iH 1) lD:=bA fun s e s' h=>by
 generalize hs:restrict lD.kp s=s1 at h
 have h:(NJ s1).run some=some (e,s'):=h
 obtain ⟨d2,e1,h_0⟩:=ak h
 obtain ⟨e3,h_1⟩:=bF h_0
 obtain ⟨e4,h_2⟩:=bf h_1
 obtain ⟨d6,e5,h_3⟩:=ak h_2
 obtain ⟨d8,e7,h_4⟩:=ak h_3
 obtain ⟨m10,d11,e9,h_5⟩:=aH h_4
 obtain ⟨rfl,h_6⟩:=aQ h_5
 obtain ⟨m13,d14,e12,h_7⟩:=aH h_6
 obtain ⟨rfl,h_8⟩:=aQ h_7
 obtain ⟨y,hy,hz⟩:=bT h_8
 refine ⟨_,_,Ak d2 d11,yU d2 d11,iK d2 d11,(d6,d8,d14),y,?_,hy,?_,WX d2 d11⟩
 ·subst hs;exact aT (T:=[(1,(.imm true (.int .i64) d2)),(3,(.ptr (5,0) [])),(7,(.ref (9,0) [])),(9,(.imm true (.int .i64) d6)),(10,(.imm true (.int .i64) d8))]) (U:=[((5,0),some ⟨true,aL,.own,d11⟩),((9,0),some ⟨false,(.sl (.sl (.int .i64))),(.sl (.imm true)),d14⟩)]) rfl rfl ⟨e1,e3,e4,e5,e7,trivial⟩ ⟨e9,e12,trivial⟩
 ·exact Option.some.inj hz
def WU:FnI:=⟨iH,Tryz.f88.results.toList,Tryz.f88.resultTypes.toList,iG⟩
def Qk (_zp0:Bool) (_p0:(Int×(Int×Unit))) (_p1:Int) (_p2:(List (List Int))):(List (List Int))→aB:=fun r=>⟨(.ref (1,0) []),[],[⟨false,(.sl (.sl (.int .i64))),(.sl (.imm true)),r⟩]⟩
theorem ahX:∀(zp0:Bool)(p0:(Int×(Int×Unit)))(p1:Int)(p2:(List (List Int))),bN fP WU ⟨[(.imm true aL p0),(.imm true (.int .i64) p1),(.imm zp0 (.sl (.sl (.int .i64))) p2)],[]⟩=(RP p0 p1 p2).run fun r=>some (Qk zp0 p0 p1 p2 r):=fun _ _ _ _=>by kernel_rfl
def WT (av:List AV) (rs:List Root):Tre aB:=
 aJ av fun a0_ av0=>
 aJ av0 fun a1_ av1=>
 aJ av1 fun a2_ av2=>
 aU av2<|
 aU rs<|
 aC true aL a0_ fun d1=>
 aC true (.int .i64) a1_ fun d2=>
 bE (.sl (.sl (.int .i64))) a2_ fun z4 d3=>
 .mat (Ct d1 d2 d3) fun r=>.ret (Qk z4 d1 d2 d3 r)
def WV:Ctr:=⟨[],fun ci=>WT ci.args ci.roots,false⟩
theorem afj:bM Tryz.prog .none fP:=(aA aoo ad1 (aA Tk avT (aA aoJ avY aN)))
theorem ahY:Contract Tryz.prog .none 88 WV:=by
 have hl:aZ fP iG iH:=(bC (n:=4) (by kernel_rfl) fun k hk=>by
   match k,hk with
   |0,_=>exact bq (id:=3) (L:=lC) (by kernel_rfl) (by kernel_rfl) aaP
   |1,_=>exact bq (id:=8) (L:=lD) (by kernel_rfl) (by kernel_rfl) aaQ
   |2,_=>exact bq (id:=11) (L:=ko) (by kernel_rfl) (by kernel_rfl) Yu
   |3,_=>exact bq (id:=18) (L:=kr) (by kernel_rfl) (by kernel_rfl) Yv)
 refine (aI (F:=WU) bg afj Tryz.func88 (by kernel_rfl) (by kernel_rfl) (by kernel_rfl) hl []).weaken ?_
 rintro ⟨av,rs⟩ co h
 have h:(WT av rs).run some=some co:=h
 obtain ⟨a0_,av0,rfl,h_0⟩:=au h
 obtain ⟨a1_,av1,rfl,h_1⟩:=au h_0
 obtain ⟨a2_,av2,rfl,h_2⟩:=au h_1
 obtain ⟨rfl,h_3⟩:=ay h_2
 obtain ⟨rfl,h_4⟩:=ay h_3
 obtain ⟨d1,rfl,h_5⟩:=ak h_4
 obtain ⟨d2,rfl,h_6⟩:=ak h_5
 obtain ⟨z4,d3,rfl,h_7⟩:=aD h_6
 exact bJ (ahX z4 d1 d2 d3) h_7
def AZ (h2_0_0:List Int) (h2_0_1:Int):Int→Tre (Int ⊕ (Bool ⊕ Unit)):=fun s2=>
 .cond (decide (s2<(h2_0_0.length:Int)))
  (.ite (0≤s2∧s2<(h2_0_0.length:Int))<|
  .mat (h2_0_0[s2.toNat]?) fun x1=>
  .cond (decide (x1=h2_0_1))
   (.ret (.inr (.inl true)))
   (.ret (.inl (aP .i64 (s2+1)))))
  (.ret (.inr (.inr ())))
def aj5 (p0:List Int) (p1:Int):Tre Bool:=
 .mat (aR (AZ p0 p1) 0) fun l2=>
 .alt l2
  (fun a3=>
   .ret a3)
  (fun _=>
   .ret false)
def Ry (p0:List Int) (p1:Int):Option Bool:=(aj5 p0 p1).run some
def KO:Env:=⟨tau,[],[]⟩
def Rz:Code:=(Tryz.f89.body).getD .skip
def KP (z2_0:Bool) (h2_0_0:List Int) (h2_0_1:Int):Int→St:=fun x=>bR [(0,(.imm z2_0 (.sl (.int .i64)) h2_0_0)),(1,(.imm true (.int .i64) h2_0_1)),(5,(.imm true (.int .i64) x))] []
def zG (_z2_0:Bool) (_h2_0_0:List Int) (_h2_0_1:Int):(Bool ⊕ Unit)→Ex×St
 |.inl x=>(.ret,bR [(4,(.imm true .bool x))] [])
 |.inr _=>(.exit 0,bR [(4,.dead)] [])
def Y8 (s:St):Tre (Ex×St):=
 bE (.sl (.int .i64)) (s.tmps 0) fun z3 d2=>
 aC true (.int .i64) (s.tmps 1) fun d5=>
 aC true (.int .i64) (s.tmps 5) fun d7=>
 .mat (aR (AZ d2 d5) d7) fun x=>.alt x (fun a0=>.ret (zG z3 d2 d5 (.inl a0))) (fun b0=>.ret (zG z3 d2 d5 (.inr b0)))
def uw:bK:=⟨([0,1,5],[]),([4],[]),Y8⟩
def Rx:List (Nat×bK):=[(2,uw)]
theorem aeU:∀(z2_0:Bool)(h2_0_0:List Int)(h2_0_1:Int)(x:Int)(c:St→Option (Ex×St)),den KO Rx (aY Rz 0) (KP z2_0 h2_0_0 h2_0_1 x) (bU uw.kp uw.kx c)=(AZ h2_0_0 h2_0_1 x).run (bV (KP z2_0 h2_0_0 h2_0_1) (zG z2_0 h2_0_0 h2_0_1) c):=fun _ _ _ _ _=>by
 kernel_rfl
theorem aj9:bS KO Rx (aY Rz 0) uw:=bA fun s e s' h=>by
 generalize hs:restrict uw.kp s=s1 at h
 have h:(Y8 s1).run some=some (e,s'):=h
 obtain ⟨z3,d2,e1,h_0⟩:=aD h
 obtain ⟨d5,e4,h_1⟩:=ak h_0
 obtain ⟨d7,e6,h_2⟩:=ak h_1
 obtain ⟨y,hy,hz⟩:=jR h_2
 refine ⟨_,_,KP z3 d2 d5,zG z3 d2 d5,AZ d2 d5,d7,y,?_,hy,?_,aeU z3 d2 d5⟩
 ·subst hs;exact aT (T:=[(0,(.imm z3 (.sl (.int .i64)) d2)),(1,(.imm true (.int .i64) d5)),(5,(.imm true (.int .i64) d7))]) (U:=[]) rfl rfl ⟨e1,e4,e6,trivial⟩ trivial
 ·rcases y with x|x<;>exact Option.some.inj hz
def aj7:FnI:=⟨Rz,Tryz.f89.results.toList,Tryz.f89.resultTypes.toList,Rx⟩
def acL (_zp0:Bool) (_p0:List Int) (_p1:Int):Bool→aB:=fun r=>⟨(.imm true .bool r),[],[]⟩
theorem aqE:∀(zp0:Bool)(p0:List Int)(p1:Int),bN KO aj7 ⟨[(.imm zp0 (.sl (.int .i64)) p0),(.imm true (.int .i64) p1)],[]⟩=(aj5 p0 p1).run fun r=>some (acL zp0 p0 p1 r):=fun _ _ _=>by kernel_rfl
def aj6 (av:List AV) (rs:List Root):Tre aB:=
 aJ av fun a0_ av0=>
 aJ av0 fun a1_ av1=>
 aU av1<|
 aU rs<|
 bE (.sl (.int .i64)) a0_ fun z2 d1=>
 aC true (.int .i64) a1_ fun d3=>
 .mat (Ry d1 d3) fun r=>.ret (acL z2 d1 d3 r)
def aj8:Ctr:=⟨[],fun ci=>aj6 ci.args ci.roots,false⟩
theorem aok:bM Tryz.prog .none KO:=aN
theorem aqF:Contract Tryz.prog .none 89 aj8:=by
 have hl:aZ KO Rx Rz:=(bC (n:=1) (by kernel_rfl) fun k hk=>by
   match k,hk with
   |0,_=>exact bq (id:=2) (L:=uw) (by kernel_rfl) (by kernel_rfl) aj9)
 refine (aI (F:=aj7) bg aok Tryz.func89 (by kernel_rfl) (by kernel_rfl) (by kernel_rfl) hl []).weaken ?_
 rintro ⟨av,rs⟩ co h
 have h:(aj6 av rs).run some=some co:=h
 obtain ⟨a0_,av0,rfl,h_0⟩:=au h
 obtain ⟨a1_,av1,rfl,h_1⟩:=au h_0
 obtain ⟨rfl,h_2⟩:=ay h_1
 obtain ⟨rfl,h_3⟩:=ay h_2
 obtain ⟨z2,d1,rfl,h_4⟩:=aD h_3
 obtain ⟨d3,rfl,h_5⟩:=ak h_4
 exact bJ (aqE z2 d1 d3) h_5
def A9:Tre (List Int):=
 .ret []
def Ma:Option (List Int):=(A9).run some
theorem Hu:Ma=some []:=rfl
def nJ:Env:=⟨tau,[],[]⟩
def yC:Code:=(Tryz.f65.body).getD .skip
def yB:FnI:=⟨yC,Tryz.f65.results.toList,Tryz.f65.resultTypes.toList,[]⟩
def vJ:(List Int)→aB:=fun r=>⟨(.ref (1,0) []),[],[⟨false,(.sl (.int .i64)),.own,r⟩]⟩
theorem LC:bN nJ yB ⟨[.nil],[]⟩=(A9).run fun r=>some (vJ r):=by kernel_rfl
def yA (av:List AV) (rs:List Root):Tre aB:=
 aJ av fun a0_ av0=>
 aU av0<|
 aU rs<|
 avq a0_<|
 .ret (vJ [])
def Mc:Ctr:=⟨[],fun ci=>yA ci.args ci.roots,false⟩
theorem Jk:bM Tryz.prog .none nJ:=aN
theorem LD:Contract Tryz.prog .none 65 Mc:=by
 have hl:aZ nJ [] yC:=bB (by kernel_rfl)
 refine (aI (F:=yB) bg Jk Tryz.func65 (by kernel_rfl) (by kernel_rfl) (by kernel_rfl) hl []).weaken ?_
 rintro ⟨av,rs⟩ co h
 have h:(yA av rs).run some=some co:=h
 obtain ⟨a0_,av0,rfl,h_0⟩:=au h
 obtain ⟨rfl,h_1⟩:=ay h_0
 obtain ⟨rfl,h_2⟩:=ay h_1
 obtain ⟨rfl,h_3⟩:=arl h_2
 exact xq (LC) (Hu) h_3
def qW (p0:List Int):Tre (List Int):=
 .ite ((0+p0.length)*8≤bO∧1≤8)<|
 .ret ([]++p0)
def yt (p0:List Int):Option (List Int):=(qW p0).run some
theorem Ht(p0:List Int)(y:List Int)(h:gH p0=some y):yt p0=some y:=by
 obtain ⟨hl,rfl⟩:=ab8 h
 have hb:(0+p0.length)*8≤bO∧1≤8:=by unfold bO;omega
 unfold yt qW
 rw [Tre.run_ite,if_pos hb]
 rfl
def nI:Env:=⟨tau,[],[]⟩
def yx:Code:=(Tryz.f65.body).getD .skip
def yw:FnI:=⟨yx,Tryz.f65.results.toList,Tryz.f65.resultTypes.toList,[]⟩
def vI (_zp0:Bool) (_p0:List Int):(List Int)→aB:=fun r=>⟨(.ref (1,0) []),[],[⟨false,(.sl (.int .i64)),.own,r⟩]⟩
theorem LA:∀(zp0:Bool)(p0:List Int),bN nI yw ⟨[(.nn zp0 (.int .i64) p0)],[]⟩=(qW p0).run fun r=>some (vI zp0 p0 r):=fun _ _=>by kernel_rfl
def yu (av:List AV) (rs:List Root):Tre aB:=
 aJ av fun a0_ av0=>
 aU av0<|
 aU rs<|
 azU (.int .i64) a0_ fun z1 d2=>
 .mat (gH d2) fun r=>.ret (vI z1 d2 r)
def L9:Ctr:=⟨[],fun ci=>yu ci.args ci.roots,false⟩
theorem Jj:bM Tryz.prog .none nI:=aN
theorem LB:Contract Tryz.prog .none 65 L9:=by
 have hl:aZ nI [] yx:=bB (by kernel_rfl)
 refine (aI (F:=yw) bg Jj Tryz.func65 (by kernel_rfl) (by kernel_rfl) (by kernel_rfl) hl []).weaken ?_
 rintro ⟨av,rs⟩ co h
 have h:(yu av rs).run some=some co:=h
 obtain ⟨a0_,av0,rfl,h_0⟩:=au h
 obtain ⟨rfl,h_1⟩:=ay h_0
 obtain ⟨rfl,h_2⟩:=ay h_1
 obtain ⟨z1,d2,rfl,h_3⟩:=atS h_2
 exact xg (LA z1 d2) (Ht d2) h_3
theorem RY(y:List Int)(h:gH ([]:List Int)=some y):y=[]:=(ab8 h).2.symm
def Gp (av:List AV) (rs:List Root):Tre aB:=
 aJ av fun a0_ av0=>
 aU av0<|
 aU rs<|
 bE (.sl (.int .i64)) a0_ fun _ d1=>
 .mat (gH d1) fun r=>.ret ⟨(.ref (1,0) []),[],[⟨false,(.sl (.int .i64)),.own,r⟩]⟩
def kN:Ctr:=⟨[],fun ci=>Gp ci.args ci.roots,false⟩
theorem ny:Contract Tryz.prog .none 65 kN:=by
 refine anA (e:=(.int .i64)) LD LB ?_
 rintro ⟨av,rs⟩ co h
 have h:(Gp av rs).run some=some co:=h
 obtain ⟨a0_,av0,rfl,h_0⟩:=au h
 obtain ⟨rfl,h_1⟩:=ay h_0
 obtain ⟨rfl,h_2⟩:=ay h_1
 obtain ⟨z2,d1,rfl,h_3⟩:=aD h_2
 refine ⟨z2,d1,rfl,?_,?_⟩
 ·exact h_3
 ·rintro rfl
  obtain ⟨y,h1,h2⟩:=bT h_3
  have hy:y=[]:=by
   have:=RY y h1
   exact this
  subst hy
  rw [←h2];rfl
def uP (p0:List Int) (p1:Int):Tre Bool:=
 .ite (0≤p1∧p1<(p0.length:Int))<|
 .mat (p0[p1.toNat]?) fun x1=>
 .ret (!decide (x1=0))
def kV (p0:List Int) (p1:Int):Option Bool:=(uP p0 p1).run some
-- more
theorem aAM{r:List Int}{c:Nat}(h:c<r.length):kV r (c:Int)=some (DX c r):=by
 unfold kV uP
 have hx:=List.getElem?_eq_getElem h
 rw [Tre.run_ite,if_pos ⟨by omega,by omega⟩,Int.toNat_natCast,ah hx,Tre.aK]
 unfold DX
 rw [hx]
def p9:Env:=⟨tau,[],[]⟩
def Aw:Code:=(Tryz.f123.body).getD .skip
def Av:FnI:=⟨Aw,Tryz.f123.results.toList,Tryz.f123.resultTypes.toList,[]⟩
def xX (_zp0:Bool) (_p0:List Int) (p1:Int):Bool→aB:=fun r=>⟨(.imm true .bool r),[⟨true,(.int .i64),.own,p1⟩],[]⟩
theorem N8:∀(zp0:Bool)(p0:List Int)(p1:Int),bN p9 Av ⟨[(.imm zp0 (.sl (.int .i64)) p0),(.ptr (0,0) [])],[⟨true,(.int .i64),.own,p1⟩]⟩=(uP p0 p1).run fun r=>some (xX zp0 p0 p1 r):=fun _ _ _=>by kernel_rfl
def Au (av:List AV) (rs:List Root):Tre aB:=
 aJ av fun a0_ av0=>
 aJ av0 fun a1_ av1=>
 aU av1<|
 aJ rs fun r0_ rs0=>
 aU rs0<|
 bE (.sl (.int .i64)) a0_ fun z2 d1=>
 dU (0,0) [] a1_<|
 Js true (.int .i64) r0_ fun m3 d4=>
 asM .own m3<|
 .mat (kV d1 d4) fun r=>.ret (xX z2 d1 d4 r)
def Ay:Ctr:=⟨[],fun ci=>Au ci.args ci.roots,false⟩
theorem LV:bM Tryz.prog .none p9:=aN
theorem N9:Contract Tryz.prog .none 123 Ay:=by
 have hl:aZ p9 [] Aw:=bB (by kernel_rfl)
 refine (aI (F:=Av) bg LV Tryz.func123 (by kernel_rfl) (by kernel_rfl) (by kernel_rfl) hl []).weaken ?_
 rintro ⟨av,rs⟩ co h
 have h:(Au av rs).run some=some co:=h
 obtain ⟨a0_,av0,rfl,h_0⟩:=au h
 obtain ⟨a1_,av1,rfl,h_1⟩:=au h_0
 obtain ⟨rfl,h_2⟩:=ay h_1
 obtain ⟨r0_,rs0,rfl,h_3⟩:=au h_2
 obtain ⟨rfl,h_4⟩:=ay h_3
 obtain ⟨z2,d1,rfl,h_5⟩:=aD h_4
 obtain ⟨rfl,h_6⟩:=bF h_5
 obtain ⟨m3,d4,rfl,h_7⟩:=eY h_6
 obtain ⟨rfl,h_8⟩:=aQ h_7
 exact bJ (N8 z2 d1 d4) h_8
def aeF (h2_0_0:(List (List Int))) (h2_0_1:Int) (h2_0_3:Int):Int→Tre (Int ⊕ (Int ⊕ Unit)):=fun s2=>
 .cond (decide (s2<h2_0_1))
  (.ite (0≤s2∧s2<(h2_0_0.length:Int))<|
  .mat (h2_0_0[s2.toNat]?) fun x1=>
  .mat (kV x1 h2_0_3) fun r2=>
  .cond r2
   (.ret (.inr (.inl s2)))
   (.ret (.inl (aP .i64 (s2+1)))))
  (.ret (.inr (.inr ())))
def nm3 (p0:(List (List Int))) (p1:Int):Tre Int:=
 .mat (aR (aeF p0 (p0.length:Int) p1) 0) fun l3=>
 .alt l3
  (fun a4=>
   .ret a4)
  (fun _=>
   .ret (-1))
def atj (p0:(List (List Int))) (p1:Int):Option Int:=(nm3 p0 p1).run some
-- more
theorem ayw{xs:List (List Int)}{c:Nat}(hc:∀r∈xs,c<r.length)(hl:xs.length≤1048576):atj xs (c:Int)=some (oq (DX c) 0 xs):=by
 unfold atj nm3
 rw [Tre.oF,OT (xs:=xs) (fun i x=>cond (DX c x) (some (.inl (i:Int))) none) (.inr ())]
 ·rw [Option.bind_some,←Xq (p:=fun x=>DX c x)]
  generalize UG _ _ _ _=r
  cases r<;>rfl
 ·intro i x hx
  have hi:i<xs.length:=(List.getElem?_eq_some_iff.1 hx).1
  unfold aeF
  rw [dP hx,ah (aAM (hc x (List.mem_of_getElem? hx))),Tre.aG]
  cases DX c x
  ·simp only [cond_false,Tre.aK,aV (show i<4611686018427387904 by omega)]
  ·rfl
 ·unfold aeF
  exact dw
def aqj:Env:=⟨tau,[(123,Ay)],[]⟩
def atl:Code:=(Tryz.f122.body).getD .skip
def aeG (z2_0:Bool) (h2_0_0:(List (List Int))) (h2_0_1:Int) (h2_0_3:Int):Int→St:=fun x=>bR [(0,(.imm z2_0 (.sl (.sl (.int .i64))) h2_0_0)),(1,(.fn 123 [(0,0)])),(7,(.imm true (.int .i64) h2_0_1)),(8,(.imm true (.int .i64) x))] [((0,0),some ⟨true,(.int .i64),.own,h2_0_3⟩)]
def Rq (_z2_0:Bool) (_h2_0_0:(List (List Int))) (_h2_0_1:Int) (h2_0_3:Int):(Int ⊕ Unit)→Ex×St
 |.inl x=>(.ret,bR [(4,(.imm true (.int .i64) x))] [((0,0),some ⟨true,(.int .i64),.own,h2_0_3⟩)])
 |.inr _=>(.exit 0,bR [(4,.dead)] [((0,0),some ⟨true,(.int .i64),.own,h2_0_3⟩)])
def aqk (s:St):Tre (Ex×St):=
 bE (.sl (.sl (.int .i64))) (s.tmps 0) fun z3 d2=>
 aa4 123 [(0,0)] (s.tmps 1)<|
 aC true (.int .i64) (s.tmps 7) fun d6=>
 aC true (.int .i64) (s.tmps 8) fun d8=>
 bD true (.int .i64) (s.roots (0,0)) fun m10 d11=>
 asM .own m10<|
 .mat (aR (aeF d2 d6 d11) d8) fun x=>.alt x (fun a0=>.ret (Rq z3 d2 d6 d11 (.inl a0))) (fun b0=>.ret (Rq z3 d2 d6 d11 (.inr b0)))
def PW:bK:=⟨([0,1,7,8],[(0,0)]),([4],[(0,0)]),aqk⟩
def ati:List (Nat×bK):=[(2,PW)]
theorem aql:∀(z2_0:Bool)(h2_0_0:(List (List Int)))(h2_0_1:Int)(h2_0_3:Int)(x:Int)(c:St→Option (Ex×St)),den aqj ati (aY atl 0) (aeG z2_0 h2_0_0 h2_0_1 h2_0_3 x) (bU PW.kp PW.kx c)=(aeF h2_0_0 h2_0_1 h2_0_3 x).run (bV (aeG z2_0 h2_0_0 h2_0_1 h2_0_3) (Rq z2_0 h2_0_0 h2_0_1 h2_0_3) c):=fun _ _ _ _ _ _=>by
 kernel_rfl
theorem auE:bS aqj ati (aY atl 0) PW:=bA fun s e s' h=>by
 generalize hs:restrict PW.kp s=s1 at h
 have h:(aqk s1).run some=some (e,s'):=h
 obtain ⟨z3,d2,e1,h_0⟩:=aD h
 obtain ⟨e4,h_1⟩:=nK h_0
 obtain ⟨d6,e5,h_2⟩:=ak h_1
 obtain ⟨d8,e7,h_3⟩:=ak h_2
 obtain ⟨m10,d11,e9,h_4⟩:=aH h_3
 obtain ⟨rfl,h_5⟩:=aQ h_4
 obtain ⟨y,hy,hz⟩:=jR h_5
 refine ⟨_,_,aeG z3 d2 d6 d11,Rq z3 d2 d6 d11,aeF d2 d6 d11,d8,y,?_,hy,?_,aql z3 d2 d6 d11⟩
 ·subst hs;exact aT (T:=[(0,(.imm z3 (.sl (.sl (.int .i64))) d2)),(1,(.fn 123 [(0,0)])),(7,(.imm true (.int .i64) d6)),(8,(.imm true (.int .i64) d8))]) (U:=[((0,0),some ⟨true,(.int .i64),.own,d11⟩)]) rfl rfl ⟨e1,e4,e5,e7,trivial⟩ ⟨e9,trivial⟩
 ·rcases y with x|x<;>exact Option.some.inj hz
def azB:FnI:=⟨atl,Tryz.f122.results.toList,Tryz.f122.resultTypes.toList,ati⟩
def atm (_zp0:Bool) (_p0:(List (List Int))) (p1:Int):Int→aB:=fun r=>⟨(.imm true (.int .i64) r),[⟨true,(.int .i64),.own,p1⟩],[]⟩
theorem aAC:∀(zp0:Bool)(p0:(List (List Int)))(p1:Int),bN aqj azB ⟨[(.imm zp0 (.sl (.sl (.int .i64))) p0),(.fn 123 [(0,0)])],[⟨true,(.int .i64),.own,p1⟩]⟩=(nm3 p0 p1).run fun r=>some (atm zp0 p0 p1 r):=fun _ _ _=>by kernel_rfl
def azA (av:List AV) (rs:List Root):Tre aB:=
 aJ av fun a0_ av0=>
 aJ av0 fun a1_ av1=>
 aU av1<|
 aJ rs fun r0_ rs0=>
 aU rs0<|
 bE (.sl (.sl (.int .i64))) a0_ fun z2 d1=>
 aa4 123 [(0,0)] a1_<|
 Js true (.int .i64) r0_ fun m3 d4=>
 asM .own m3<|
 .mat (atj d1 d4) fun r=>.ret (atm z2 d1 d4 r)
def azC:Ctr:=⟨[],fun ci=>azA ci.args ci.roots,false⟩
theorem ayn:bM Tryz.prog .none aqj:=(aA N9 aAa aN)
theorem aAD:Contract Tryz.prog .none 122 azC:=by
 have hl:aZ aqj ati atl:=(bC (n:=1) (by kernel_rfl) fun k hk=>by
   match k,hk with
   |0,_=>exact bq (id:=2) (L:=PW) (by kernel_rfl) (by kernel_rfl) auE)
 refine (aI (F:=azB) bg ayn Tryz.func122 (by kernel_rfl) (by kernel_rfl) (by kernel_rfl) hl []).weaken ?_
 rintro ⟨av,rs⟩ co h
 have h:(azA av rs).run some=some co:=h
 obtain ⟨a0_,av0,rfl,h_0⟩:=au h
 obtain ⟨a1_,av1,rfl,h_1⟩:=au h_0
 obtain ⟨rfl,h_2⟩:=ay h_1
 obtain ⟨r0_,rs0,rfl,h_3⟩:=au h_2
 obtain ⟨rfl,h_4⟩:=ay h_3
 obtain ⟨z2,d1,rfl,h_5⟩:=aD h_4
 obtain ⟨rfl,h_6⟩:=nK h_5
 obtain ⟨m3,d4,rfl,h_7⟩:=eY h_6
 obtain ⟨rfl,h_8⟩:=aQ h_7
 exact bJ (aAC z2 d1 d4) h_8
def NW (p0:(Int×(Int×Unit))):Tre Int:=
 .ite (0≤p0.1)<|
 .ret (ael .i64 1 p0.1)
def tu (p0:(Int×(Int×Unit))):Option Int:=(NW p0).run some
def Gu:Env:=⟨tau,[],[]⟩
def Sd:Code:=(Tryz.f95.body).getD .skip
def Sc:FnI:=⟨Sd,Tryz.f95.results.toList,Tryz.f95.resultTypes.toList,[]⟩
def Mq (_p0:(Int×(Int×Unit))):Int→aB:=fun r=>⟨(.imm true (.int .i64) r),[],[]⟩
theorem ad6:∀(p0:(Int×(Int×Unit))),bN Gu Sc ⟨[(.imm true aL p0)],[]⟩=(NW p0).run fun r=>some (Mq p0 r):=fun _=>by kernel_rfl
def Sb (av:List AV) (rs:List Root):Tre aB:=
 aJ av fun a0_ av0=>
 aU av0<|
 aU rs<|
 aC true aL a0_ fun d1=>
 .mat (tu d1) fun r=>.ret (Mq d1 r)
def Gv:Ctr:=⟨[],fun ci=>Sb ci.args ci.roots,false⟩
theorem abj:bM Tryz.prog .none Gu:=aN
theorem O4:Contract Tryz.prog .none 95 Gv:=by
 have hl:aZ Gu [] Sd:=bB (by kernel_rfl)
 refine (aI (F:=Sc) bg abj Tryz.func95 (by kernel_rfl) (by kernel_rfl) (by kernel_rfl) hl []).weaken ?_
 rintro ⟨av,rs⟩ co h
 have h:(Sb av rs).run some=some co:=h
 obtain ⟨a0_,av0,rfl,h_0⟩:=au h
 obtain ⟨rfl,h_1⟩:=ay h_0
 obtain ⟨rfl,h_2⟩:=ay h_1
 obtain ⟨d1,rfl,h_3⟩:=ak h_2
 exact bJ (ad6 d1) h_3
def xC (h2_0_3:(Int×(Int×Unit))):(Int×Int×Int)→Tre ((Int×Int×Int) ⊕ Int):=fun s2=>
 .cond (decide (s2.2.1>0))
  (.cond (decide (ahy .i64 s2.2.1 1=1))
   (.mat (bY h2_0_3 s2.2.2 s2.1) fun r1=>
   .mat (bY h2_0_3 s2.1 s2.1) fun r2=>
   .ret (.inl (r2,aak .i64 s2.2.1 1,r1)))
   (.mat (bY h2_0_3 s2.1 s2.1) fun r3=>
   .ret (.inl (r3,aak .i64 s2.2.1 1,s2.2.2))))
  (.ret (.inr s2.2.2))
def YN (p0:(Int×(Int×Unit))) (p1:Int) (p2:Int):Tre Int:=
 .mat (aR (xC p0) (p1,p2,1)) fun l4=>
 .ret l4
def Sk (p0:(Int×(Int×Unit))) (p1:Int) (p2:Int):Option Int:=(YN p0 p1 p2).run some
def tC:Env:=⟨tau,[(75,oO)],[]⟩
def zB:Code:=(Tryz.f113.body).getD .skip
def yI (h2_0_3:(Int×(Int×Unit))):(Int×Int×Int)→St:=fun x=>bR [(1,(.imm true (.int .i64) x.1)),(2,(.imm true (.int .i64) x.2.1)),(3,(.ptr (5,0) [])),(7,(.imm true (.int .i64) x.2.2))] [((5,0),some ⟨true,aL,.own,h2_0_3⟩)]
def vU (_h2_0_3:(Int×(Int×Unit))):Int→Ex×St:=fun x=>(.exit 0,bR [(7,(.imm true (.int .i64) x))] [])
def JH (s:St):Tre (Ex×St):=
 aC true (.int .i64) (s.tmps 1) fun d2=>
 aC true (.int .i64) (s.tmps 2) fun d4=>
 dU (5,0) [] (s.tmps 3)<|
 aC true (.int .i64) (s.tmps 7) fun d7=>
 bD true aL (s.roots (5,0)) fun m9 d10=>
 asM .own m9<|
 .mat (aR (xC d10) (d2,d4,d7)) fun x=>.ret (vU d10 x)
def jU:bK:=⟨([1,2,3,7],[(5,0)]),([7],[]),JH⟩
def zA:List (Nat×bK):=[(2,jU)]
theorem TS:∀(h2_0_3:(Int×(Int×Unit)))(x:(Int×Int×Int))(c:St→Option (Ex×St)),den tC zA (aY zB 0) (yI h2_0_3 x) (bU jU.kp jU.kx c)=(xC h2_0_3 x).run (bV (yI h2_0_3) (vU h2_0_3) c):=fun _ _ _=>by
 kernel_rfl
theorem XY:bS tC zA (aY zB 0) jU:=bA fun s e s' h=>by
 generalize hs:restrict jU.kp s=s1 at h
 have h:(JH s1).run some=some (e,s'):=h
 obtain ⟨d2,e1,h_0⟩:=ak h
 obtain ⟨d4,e3,h_1⟩:=ak h_0
 obtain ⟨e5,h_2⟩:=bF h_1
 obtain ⟨d7,e6,h_3⟩:=ak h_2
 obtain ⟨m9,d10,e8,h_4⟩:=aH h_3
 obtain ⟨rfl,h_5⟩:=aQ h_4
 obtain ⟨y,hy,hz⟩:=bT h_5
 refine ⟨_,_,yI d10,vU d10,xC d10,(d2,d4,d7),y,?_,hy,?_,TS d10⟩
 ·subst hs;exact aT (T:=[(1,(.imm true (.int .i64) d2)),(2,(.imm true (.int .i64) d4)),(3,(.ptr (5,0) [])),(7,(.imm true (.int .i64) d7))]) (U:=[((5,0),some ⟨true,aL,.own,d10⟩)]) rfl rfl ⟨e1,e3,e5,e6,trivial⟩ ⟨e8,trivial⟩
 ·exact Option.some.inj hz
def Sm:FnI:=⟨zB,Tryz.f113.results.toList,Tryz.f113.resultTypes.toList,zA⟩
def MC (_p0:(Int×(Int×Unit))) (_p1:Int) (_p2:Int):Int→aB:=fun r=>⟨(.imm true (.int .i64) r),[],[]⟩
theorem ad8:∀(p0:(Int×(Int×Unit)))(p1:Int)(p2:Int),bN tC Sm ⟨[(.imm true aL p0),(.imm true (.int .i64) p1),(.imm true (.int .i64) p2)],[]⟩=(YN p0 p1 p2).run fun r=>some (MC p0 p1 p2 r):=fun _ _ _=>by kernel_rfl
def Sl (av:List AV) (rs:List Root):Tre aB:=
 aJ av fun a0_ av0=>
 aJ av0 fun a1_ av1=>
 aJ av1 fun a2_ av2=>
 aU av2<|
 aU rs<|
 aC true aL a0_ fun d1=>
 aC true (.int .i64) a1_ fun d2=>
 aC true (.int .i64) a2_ fun d3=>
 .mat (Sk d1 d2 d3) fun r=>.ret (MC d1 d2 d3 r)
def Sn:Ctr:=⟨[],fun ci=>Sl ci.args ci.roots,false⟩
theorem abo:bM Tryz.prog .none tC:=(aA pY amq aN)
theorem ad9:Contract Tryz.prog .none 113 Sn:=by
 have hl:aZ tC zA zB:=(bC (n:=1) (by kernel_rfl) fun k hk=>by
   match k,hk with
   |0,_=>exact bq (id:=2) (L:=jU) (by kernel_rfl) (by kernel_rfl) XY)
 refine (aI (F:=Sm) bg abo Tryz.func113 (by kernel_rfl) (by kernel_rfl) (by kernel_rfl) hl []).weaken ?_
 rintro ⟨av,rs⟩ co h
 have h:(Sl av rs).run some=some co:=h
 obtain ⟨a0_,av0,rfl,h_0⟩:=au h
 obtain ⟨a1_,av1,rfl,h_1⟩:=au h_0
 obtain ⟨a2_,av2,rfl,h_2⟩:=au h_1
 obtain ⟨rfl,h_3⟩:=ay h_2
 obtain ⟨rfl,h_4⟩:=ay h_3
 obtain ⟨d1,rfl,h_5⟩:=ak h_4
 obtain ⟨d2,rfl,h_6⟩:=ak h_5
 obtain ⟨d3,rfl,h_7⟩:=ak h_6
 exact bJ (ad8 d1 d2 d3) h_7
def Si (p0:(Int×(Int×Unit))) (p1:Int):Tre Int:=
 .mat (tu p0) fun r1=>
 .mat (Sk p0 p1 (aP .i64 (r1-2))) fun r2=>
 .ret r2
def bZ (p0:(Int×(Int×Unit))) (p1:Int):Option Int:=(Si p0 p1).run some
-- more
set_option maxRecDepth 100000
theorem aAp:Bg bZ uU 1 2=true:=by kernel_rfl
theorem aAq:Bg bZ uU 1 3=true:=by kernel_rfl
theorem aAr:Bg bZ uU 2 7=true:=by kernel_rfl
theorem axS:Bg bZ uU 3 11=true:=by kernel_rfl
theorem axT:Bg bZ uU 3 13=true:=by kernel_rfl
theorem axU:Bg bZ uU 4 19=true:=by kernel_rfl
theorem axV:Bg bZ uU 4 25=true:=by kernel_rfl
theorem axW:Bg bZ uU 4 31=true:=by kernel_rfl
theorem axX:Bg bZ uU 5 37=true:=by kernel_rfl
theorem axY:Bg bZ uU 5 41=true:=by kernel_rfl
theorem axZ:Bg bZ uU 5 47=true:=by kernel_rfl
theorem ax0:Bg bZ uU 5 55=true:=by kernel_rfl
theorem ax1:Bg bZ uU 5 59=true:=by kernel_rfl
theorem ax2:Bg bZ uU 5 61=true:=by kernel_rfl
theorem asY{f:TF3}(hf:aO f=true){a:Int}(ha:inF f a):bZ f a=some (Bc f a):=by
 refine awT (fun q hq=>?_) hf ha
 simp only [jm,List.mem_cons,List.not_mem_nil,or_false] at hq
 rcases hq with rfl|rfl|rfl|rfl|rfl|rfl|rfl|rfl|rfl|rfl|rfl|rfl|rfl|rfl
 ·exact aAp
 ·exact aAq
 ·exact aAr
 ·exact axS
 ·exact axT
 ·exact axU
 ·exact axV
 ·exact axW
 ·exact axX
 ·exact axY
 ·exact axZ
 ·exact ax0
 ·exact ax1
 ·exact ax2
def Bp:Env:=⟨tau,[(95,Gv),(113,Sn)],[]⟩
def Mt:Code:=(Tryz.f76.body).getD .skip
def Ms:FnI:=⟨Mt,Tryz.f76.results.toList,Tryz.f76.resultTypes.toList,[]⟩
def Ia (_p0:(Int×(Int×Unit))) (_p1:Int):Int→aB:=fun r=>⟨(.imm true (.int .i64) r),[],[]⟩
theorem ZV:∀(p0:(Int×(Int×Unit)))(p1:Int),bN Bp Ms ⟨[(.imm true aL p0),(.imm true (.int .i64) p1)],[]⟩=(Si p0 p1).run fun r=>some (Ia p0 p1 r):=fun _ _=>by kernel_rfl
def Mr (av:List AV) (rs:List Root):Tre aB:=
 aJ av fun a0_ av0=>
 aJ av0 fun a1_ av1=>
 aU av1<|
 aU rs<|
 aC true aL a0_ fun d1=>
 aC true (.int .i64) a1_ fun d2=>
 .mat (bZ d1 d2) fun r=>.ret (Ia d1 d2 r)
def Bq:Ctr:=⟨[],fun ci=>Mr ci.args ci.roots,false⟩
theorem XV:bM Tryz.prog .none Bp:=(aA O4 azn (aA ad9 az3 aN))
theorem JE:Contract Tryz.prog .none 76 Bq:=by
 have hl:aZ Bp [] Mt:=bB (by kernel_rfl)
 refine (aI (F:=Ms) bg XV Tryz.func76 (by kernel_rfl) (by kernel_rfl) (by kernel_rfl) hl []).weaken ?_
 rintro ⟨av,rs⟩ co h
 have h:(Mr av rs).run some=some co:=h
 obtain ⟨a0_,av0,rfl,h_0⟩:=au h
 obtain ⟨a1_,av1,rfl,h_1⟩:=au h_0
 obtain ⟨rfl,h_2⟩:=ay h_1
 obtain ⟨rfl,h_3⟩:=ay h_2
 obtain ⟨d1,rfl,h_4⟩:=ak h_3
 obtain ⟨d2,rfl,h_5⟩:=ak h_4
 exact bJ (ZV d1 d2) h_5
end Go.Proofs.YtihiobjhogpmdaaGreat
