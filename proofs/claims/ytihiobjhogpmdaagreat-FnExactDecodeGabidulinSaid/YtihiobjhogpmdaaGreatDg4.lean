/- Part 4 of the proof of FnExactDecodeGabidulin. -/
import Derived.Test.YtihiobjhogpmdaaGreatDg3
set_option maxRecDepth 100000
namespace Go.Proofs.YtihiobjhogpmdaaGreat
open Go Go.Abs Go.Proofs
-- shared
theorem ave {n d:Nat} (h0:n≠0) (hn:n < 2 ^ d):∃ i m,i < d∧m < n∧n=m ^^^ 2 ^ i:=by
 have hl:=Nat.log2_lt (n:=n) (k:=d) h0 |>.2 hn
 have hself:=Nat.log2_self_le h0
 have hup:=Nat.lt_log2_self (n:=n)
 have hb1:n ^^^ 2 ^ n.log2 < 2 ^ n.log2:=by
  apply Nat.lt_pow_two_of_testBit
  intro i hi
  rw [Nat.testBit_xor,Nat.testBit_two_pow]
  by_cases hi2:n.log2=i
  ·subst hi2
   rw [Nat.testBit_log2 h0]
   simp
  ·have:n.testBit i=false:=Nat.testBit_lt_two_pow (Nat.lt_of_lt_of_le hup (Nat.pow_le_pow_right (by omega) (by omega)))
   rw [this]
   simp [hi2]
 exact ⟨n.log2,n ^^^ 2 ^ n.log2,hl,by omega,by rw [Nat.xor_assoc,Nat.xor_self,Nat.xor_zero]⟩
def apn (d:Nat) (g:Nat→Nat):Prop:=∀ a b,a < 2 ^ d→b < 2 ^ d→g (a ^^^ b)=g a ^^^ g b
theorem apn.zero {d:Nat} {g:Nat→Nat} (h:apn d g):g 0=0:=by
 have e1:=h 0 0 (Nat.two_pow_pos d) (Nat.two_pow_pos d)
 rw [Nat.xor_self] at e1
 rw [Nat.xor_self] at e1
 exact e1
theorem ax3 {d:Nat} {g:Nat→Nat} (h0:g 0=0) (h:∀ b i,b < 2 ^ d→i < d→g (b ^^^ 2 ^ i)=g b ^^^ g (2 ^ i)):apn d g:=by
 intro b c
 induction c using Nat.strongRecOn generalizing b with
 |ind c ih =>
  intro hb hc
  by_cases hz:c=0
  ·subst hz;rw [Nat.xor_zero,h0,Nat.xor_zero]
  ·obtain ⟨i,m,hi,hm,he⟩:=ave hz hc
   have hp:2 ^ i < 2 ^ d:=Nat.pow_lt_pow_right (by omega) hi
   have hm2:m < 2 ^ d:=by omega
   rw [he,← Nat.xor_assoc,h _ _ (Nat.xor_lt_two_pow hb hm2) hi,ih m hm b hb hm2,h _ _ hm2 hi,Nat.xor_assoc]
theorem aq3 {d:Nat} {g h:Nat→Nat} (hg:apn d g) (hh:apn d h) (hb:∀ i,i < d→g (2 ^ i)=h (2 ^ i)):∀ n,n < 2 ^ d→g n=h n:=by
 intro n
 induction n using Nat.strongRecOn with
 |ind n ih =>
  intro hn
  by_cases h0:n=0
  ·subst h0;rw [hg.zero,hh.zero]
  ·obtain ⟨i,m,hi,hm,he⟩:=ave h0 hn
   have hp:2 ^ i < 2 ^ d:=Nat.pow_lt_pow_right (by omega) hi
   rw [he,hg _ _ (by omega) hp,hh _ _ (by omega) hp,ih m hm (by omega),hb i hi]
def azg (d p:Nat):Bool:=(List.range (2 ^ d)).all fun a=>(List.range (2 ^ d)).all fun b=>(List.range d).all fun i=>Nat.beq (mulN p a (Nat.xor b (2 ^ i))) (Nat.xor (mulN p a b) (mulN p a (2 ^ i)))
def jg (d p:Nat):Bool:=(List.range (2 ^ d)).all fun a=>(List.range d).all fun j=>(List.range d).all fun i=>Nat.beq (mulN p (mulN p a (2 ^ j)) (2 ^ i)) (mulN p a (mulN p (2 ^ j) (2 ^ i)))
def az7 (d p:Nat):Bool:=(List.range (2 ^ d)).all fun a=>Nat.beq (mulN p a 1) a&&Nat.beq (mulN p a 0) 0
theorem ar2:(ji.all fun q=>azg q.1 q.2)=true:=by kernel_rfl
theorem apy:(ji.all fun q=>jg q.1 q.2)=true:=by kernel_rfl
theorem auR:(ji.all fun q=>az7 q.1 q.2)=true:=by kernel_rfl
theorem nV {d p a b:Nat} (hq:(d,p)∈ji) (ha:a < 2 ^ d) (hb:b < 2 ^ d):mulN p a b < 2 ^ d∧mulN p a b=mulN p b a:=by
 have h1:=List.all_eq_true.1 (List.all_eq_true.1 (List.all_eq_true.1 aaC _ hq) a (List.mem_range.2 ha)) b (List.mem_range.2 hb)
 rw [Bool.and_eq_true] at h1
 exact ⟨Nat.le_of_ble_eq_true h1.1,Nat.eq_of_beq_eq_true h1.2⟩
theorem aaE {d p a:Nat} (hq:(d,p)∈ji) (ha:a < 2 ^ d):mulN p a 1=a∧mulN p a 0=0:=by
 have h1:=List.all_eq_true.1 (List.all_eq_true.1 auR _ hq) a (List.mem_range.2 ha)
 rw [Bool.and_eq_true] at h1
 exact ⟨Nat.eq_of_beq_eq_true h1.1,Nat.eq_of_beq_eq_true h1.2⟩
theorem ER {d p a:Nat} (hq:(d,p)∈ji) (ha:a < 2 ^ d):apn d (mulN p a):=by
 refine ax3 (aaE hq ha).2 fun b i hb hi=>?_
 have h1:=List.all_eq_true.1 (List.all_eq_true.1 (List.all_eq_true.1 (List.all_eq_true.1 ar2 _ hq) a (List.mem_range.2 ha)) b (List.mem_range.2 hb)) i (List.mem_range.2 hi)
 exact Nat.eq_of_beq_eq_true h1
theorem XB {d p b:Nat} (hq:(d,p)∈ji) (hb:b < 2 ^ d):apn d (fun a=>mulN p a b):=by
 intro x y hx hy
 show mulN p (x ^^^ y) b=mulN p x b ^^^ mulN p y b
 rw [(nV hq (Nat.xor_lt_two_pow hx hy) hb).2,ER hq hb x y hx hy,(nV hq hx hb).2,(nV hq hy hb).2]
theorem ah1 {d p a b c:Nat} (hq:(d,p)∈ji) (ha:a < 2 ^ d) (hb:b < 2 ^ d) (hc:c < 2 ^ d):mulN p (mulN p a b) c=mulN p a (mulN p b c):=by
 have hpow:∀ i,i < d→2 ^ i < 2 ^ d:=fun i hi=>Nat.pow_lt_pow_right (by omega) hi
 have k1:∀ i,i < d→∀ b,b < 2 ^ d→mulN p (mulN p a b) (2 ^ i)=mulN p a (mulN p b (2 ^ i)):=by
  intro i hi
  refine aq3 (g:=fun b=>mulN p (mulN p a b) (2 ^ i)) (h:=fun b=>mulN p a (mulN p b (2 ^ i))) ?_ ?_ ?_
  ·intro x y hx hy
   show mulN p (mulN p a (x ^^^ y)) (2 ^ i)=_
   rw [ER hq ha x y hx hy]
   exact XB hq (hpow i hi) _ _ (nV hq ha hx).1 (nV hq ha hy).1
  ·intro x y hx hy
   show mulN p a (mulN p (x ^^^ y) (2 ^ i))=_
   rw [show mulN p (x ^^^ y) (2 ^ i)=_ from XB hq (hpow i hi) x y hx hy]
   exact ER hq ha _ _ (nV hq hx (hpow i hi)).1 (nV hq hy (hpow i hi)).1
  ·intro j hj
   have h1:=List.all_eq_true.1 (List.all_eq_true.1 (List.all_eq_true.1 (List.all_eq_true.1 apy _ hq) a (List.mem_range.2 ha)) j (List.mem_range.2 hj)) i (List.mem_range.2 hi)
   exact Nat.eq_of_beq_eq_true h1
 refine aq3 (g:=fun c=>mulN p (mulN p a b) c) (h:=fun c=>mulN p a (mulN p b c)) ?_ ?_ (fun i hi=>k1 i hi b hb) c hc
 ·exact ER hq (nV hq ha hb).1
 ·intro x y hx hy
  show mulN p a (mulN p b (x ^^^ y))=_
  rw [ER hq hb x y hx hy]
  exact ER hq ha _ _ (nV hq hb hx).1 (nV hq hb hy).1
theorem al1 {f:TF3} (hf:aN f=true):∃ d p:Nat,(d,p)∈ji∧f=((d:Int),(p:Int),())∧∀ a,inF f a→∃ m:Nat,a=(m:Int)∧m < 2 ^ d∧m < 2 ^ 63:=by
 obtain ⟨d,p,hq,rfl⟩:=Ct hf
 refine ⟨d,p,hq,rfl,fun a ha=>?_⟩
 obtain ⟨m,e,h1,h2⟩:=Dz hf ha
 exact ⟨m,e,by simpa using h1,h2⟩
theorem Bj {d p m n:Nat}:gu ((d:Int),(p:Int),()) (m:Int) (n:Int)=((mulN p m n:Nat):Int):=by
 unfold gu
 simp only [Int.toNat_natCast]
theorem wR {f:TF3} (hf:aN f=true) {a b:Int} (ha:inF f a) (hb:inF f b):inF f (gu f a b):=(CX hf ha hb).1
theorem iX {f:TF3} (hf:aN f=true) {a b:Int} (ha:inF f a) (hb:inF f b):gu f a b=gu f b a:=(CX hf ha hb).2
theorem axY {d p:Nat} (hq:(d,p)∈ji) {x:Nat} (h:x < 2 ^ d):x < 2 ^ 63:=by
 have:∀ q∈ji,q.1≤5:=by decide
 have h5:=this _ hq
 have:2 ^ d≤2 ^ 5:=Nat.pow_le_pow_right (by omega) h5
 omega
theorem ah0 {f:TF3} (hf:aN f=true) {a b c:Int} (ha:inF f a) (hb:inF f b) (hc:inF f c):gu f a (jI .i64 b c)=jI .i64 (gu f a b) (gu f a c):=by
 obtain ⟨d,p,hq,rfl,hn⟩:=al1 hf
 obtain ⟨x,rfl,hx,hx6⟩:=hn a ha
 obtain ⟨y,rfl,hy,hy6⟩:=hn b hb
 obtain ⟨z,rfl,hz,hz6⟩:=hn c hc
 rw [nS hy6 hz6,Bj,Bj,Bj,nS (axY hq (nV hq hx hy).1) (axY hq (nV hq hx hz).1),ER hq hx y z hy hz]
theorem YV {f:TF3} (hf:aN f=true) {a b c:Int} (ha:inF f a) (hb:inF f b) (hc:inF f c):gu f (gu f a b) c=gu f a (gu f b c):=by
 obtain ⟨d,p,hq,rfl,hn⟩:=al1 hf
 obtain ⟨x,rfl,hx,hx6⟩:=hn a ha
 obtain ⟨y,rfl,hy,hy6⟩:=hn b hb
 obtain ⟨z,rfl,hz,hz6⟩:=hn c hc
 rw [Bj,Bj,Bj,Bj,ah1 hq hx hy hz]
theorem aaD {f:TF3} (hf:aN f=true) {a:Int} (ha:inF f a):gu f a 1=a:=by
 obtain ⟨d,p,hq,rfl,hn⟩:=al1 hf
 obtain ⟨x,rfl,hx,hx6⟩:=hn a ha
 rw [show (1:Int)=((1:Nat):Int) from rfl,Bj,(aaE hq hx).1]
theorem sP {f:TF3} (hf:aN f=true) {a:Int} (ha:inF f a):gu f a 0=0:=by
 obtain ⟨d,p,hq,rfl,hn⟩:=al1 hf
 obtain ⟨x,rfl,hx,hx6⟩:=hn a ha
 rw [show (0:Int)=((0:Nat):Int) from rfl,Bj,(aaE hq hx).2]
theorem Wd {f:TF3} (hf:aN f=true) {a b:Int} (ha:inF f a) (hb:inF f b):jI .i64 a b=jI .i64 b a:=by
 obtain ⟨x,rfl,_,hx⟩:=Dz hf ha
 obtain ⟨y,rfl,_,hy⟩:=Dz hf hb
 rw [nS hx hy,nS hy hx,Nat.xor_comm]
theorem zK {f:TF3} (hf:aN f=true) {a b c:Int} (ha:inF f a) (hb:inF f b) (hc:inF f c):jI .i64 (jI .i64 a b) c=jI .i64 a (jI .i64 b c):=by
 obtain ⟨x,rfl,hx1,hx⟩:=Dz hf ha
 obtain ⟨y,rfl,hy1,hy⟩:=Dz hf hb
 obtain ⟨z,rfl,hz1,hz⟩:=Dz hf hc
 rw [nS hx hy,nS hy hz,nS (Nat.xor_lt_two_pow hx hy) hz,nS hx (Nat.xor_lt_two_pow hy hz),Nat.xor_assoc]
theorem OW {f:TF3} (hf:aN f=true) {a:Int} (ha:inF f a):jI .i64 a 0=a:=by
 rw [Wd hf ha gG,qD hf ha]
theorem OV {f:TF3} (hf:aN f=true) {a:Int} (ha:inF f a):jI .i64 a a=0:=by
 obtain ⟨x,rfl,_,hx⟩:=Dz hf ha
 rw [nS hx hx,Nat.xor_self]
 rfl
-- shared
structure FO where
 q:Nat
 dg:Nat
 mul:Nat→Nat→Nat
 hq:1 < q
 hd:1≤dg
 lt:∀ a b,mul a b < q
 xlt:∀ a b,a < q→b < q→a ^^^ b < q
 comm:∀ a b,mul a b=mul b a
 assoc:∀ a b c,mul (mul a b) c=mul a (mul b c)
 add:∀ a b c,mul a (b ^^^ c)=mul a b ^^^ mul a c
 one:∀ a,a < q→mul a 1=a
 inv:∀ a,a < q→a≠0→∃ b,b < q∧mul a b=1
namespace FO
variable (F : FO)
theorem mul_zero (a:Nat):F.mul a 0=0:=by
 have:=F.add a 0 0
 rw [Nat.xor_self,Nat.xor_self] at this
 exact this
theorem zero_mul (a:Nat):F.mul 0 a=0:=by rw [F.comm,F.mul_zero]
theorem atp (a b c:Nat):F.mul (a ^^^ b) c=F.mul a c ^^^ F.mul b c:=by rw [F.comm,F.add,F.comm c a,F.comm c b]
theorem nz {a b:Nat} (ha:a < F.q) (hb:b < F.q) (h:F.mul a b=0):a=0∨b=0:=by
 by_cases h0:a=0
 ·exact .inl h0
 ·right
  obtain ⟨c,hc,h1⟩:=F.inv a ha h0
  rw [← F.one b hb,← h1,F.comm,F.comm a c,F.assoc,h,F.mul_zero]
theorem zlt:0 < F.q:=Nat.lt_trans Nat.zero_lt_one F.hq
def sq (a:Nat):Nat:=F.mul a a
theorem avf (a:Nat):F.sq a < F.q:=F.lt a a
theorem Ie:F.sq 0=0:=F.mul_zero 0
theorem azc (a b c:Nat):(a ^^^ b) ^^^ (b ^^^ c)=a ^^^ c:=by rw [Nat.xor_assoc,← Nat.xor_assoc b b c,Nat.xor_self,Nat.zero_xor]
theorem ai6 (a b:Nat):F.sq (a ^^^ b)=F.sq a ^^^ F.sq b:=by
 unfold sq
 rw [F.add,F.atp,F.atp,F.comm b a,azc]
theorem avg (a b:Nat):F.sq (F.mul a b)=F.mul (F.sq a) (F.sq b):=by
 unfold sq
 rw [F.assoc a b (F.mul a b),← F.assoc b a b,F.comm b a,F.assoc a b b,← F.assoc a a]
theorem ay7 {a:Nat} (ha:a < F.q) (h:F.sq a=0):a=0:=(F.nz ha ha h).elim id id
def sqn:Nat→Nat→Nat
 |0,a=>a
 |k+1,a=>sqn k (F.sq a)
theorem Nh:∀ (k:Nat) {a:Nat},a < F.q→F.sqn k a < F.q:=by
 intro k
 induction k with
 |zero=>intro a h;exact h
 |succ k ih=>intro a _;exact ih (F.avf a)
theorem apc:∀ (k:Nat),F.sqn k 0=0:=by
 intro k
 induction k with
 |zero=>rfl
 |succ k ih=>unfold sqn;rw [F.Ie];exact ih
theorem aw8:∀ (k:Nat) {a:Nat},a < F.q→F.sqn k a=0→a=0:=by
 intro k
 induction k with
 |zero=>intro a _ h;exact h
 |succ k ih=>intro a ha h;exact F.ay7 ha (ih (F.avf a) h)
theorem agz:∀ (i j a:Nat),F.sqn (i+j) a=F.sqn j (F.sqn i a):=by
 intro i
 induction i with
 |zero=>intro j a;rw [Nat.zero_add];rfl
 |succ i ih=>intro j a;rw [show i+1+j=(i+j)+1 by omega];exact ih j (F.sq a)
theorem apb (k a:Nat):F.sqn (k+1) a=F.sq (F.sqn k a):=F.agz k 1 a
def lp:List Nat→Nat→Nat
 |[],_=>0
 |c::p,x=>F.mul c x ^^^ lp p (F.sq x)
theorem aql:∀ (p:List Nat) (x y:Nat),F.lp p (x ^^^ y)=F.lp p x ^^^ F.lp p y:=by
 intro p
 induction p with
 |nil=>intro x y;simp [lp]
 |cons c p ih =>
  intro x y
  simp only [lp]
  rw [F.add,F.ai6,ih]
  ac_rfl
theorem aq6:∀ (p:List Nat),F.lp p 0=0:=by
 intro p
 induction p with
 |nil=>rfl
 |cons c p ih=>simp only [lp];rw [F.mul_zero,F.Ie,ih];rfl
theorem aom:∀ (p:List Nat) (x:Nat),F.lp p x < F.q:=by
 intro p
 induction p with
 |nil=>intro x;exact F.zlt
 |cons c p ih=>intro x;exact F.xlt _ _ (F.lt _ _) (ih _)
def KG:Nat→List Nat→List Nat×Nat
 |_,[]=>([],0)
 |_,[c]=>([],c)
 |g,c::d::ps=>((KG (F.sq g) (d::ps)).2::(KG (F.sq g) (d::ps)).1,c ^^^ F.mul (KG (F.sq g) (d::ps)).2 g)
theorem atK:∀ (p:List Nat) (g:Nat),p≠[]→(F.KG g p).1.length+1=p.length:=by
 intro p
 induction p with
 |nil=>intro g h;exact absurd rfl h
 |cons c p ih =>
  intro g _
  cases p with
  |nil=>rfl
  |cons d ps =>
   have:=ih (F.sq g) (by simp)
   simp only [KG,List.length_cons] at this ⊢
   omega
theorem aqO:∀ (p:List Nat) (g x:Nat),F.lp p x=F.lp (F.KG g p).1 (F.sq x ^^^ F.mul g x) ^^^ F.mul (F.KG g p).2 x:=by
 intro p
 induction p with
 |nil=>intro g x;simp only [KG,lp];rw [F.zero_mul];rfl
 |cons c p ih =>
  intro g x
  cases p with
  |nil=>simp only [KG,lp];rw [Nat.xor_zero,Nat.zero_xor]
  |cons d ps =>
   have h:=ih (F.sq g) (F.sq x)
   have h1:F.sq (F.sq x ^^^ F.mul g x)=F.sq (F.sq x) ^^^ F.mul (F.sq g) (F.sq x):=by rw [F.ai6,F.avg]
   show F.mul c x ^^^ F.lp (d::ps) (F.sq x)=(F.mul (F.KG (F.sq g) (d::ps)).2 (F.sq x ^^^ F.mul g x) ^^^ F.lp (F.KG (F.sq g) (d::ps)).1 (F.sq (F.sq x ^^^ F.mul g x))) ^^^ F.mul (c ^^^ F.mul (F.KG (F.sq g) (d::ps)).2 g) x
   rw [h,h1,F.add,F.atp,F.assoc]
   generalize F.lp (F.KG (F.sq g) (d::ps)).1 _=A
   generalize F.mul (F.KG (F.sq g) (d::ps)).2 (F.sq x)=B
   generalize F.mul (F.KG (F.sq g) (d::ps)).2 (F.mul g x)=D
   generalize F.mul c x=E
   calc E ^^^ (A ^^^ B)=(B ^^^ A ^^^ E) ^^^ 0:=by rw [Nat.xor_zero];ac_rfl
    _=(B ^^^ A ^^^ E) ^^^ (D ^^^ D):=by rw [Nat.xor_self]
    _=B ^^^ D ^^^ A ^^^ (E ^^^ D):=by ac_rfl
theorem ar3:∀ (p:List Nat) (g:Nat),(∀ y∈(F.KG g p).1,y=0)→(F.KG g p).2=0→∀ y∈p,y=0:=by
 intro p
 induction p with
 |nil=>intro g _ _ y hy;cases hy
 |cons c p ih =>
  intro g h1 h2
  cases p with
  |nil=>intro y hy;rw [List.mem_singleton.1 hy];exact h2
  |cons d ps =>
   simp only [KG] at h1 h2
   have h3:=h1 _ (List.mem_cons_self ..)
   have h4:=ih (F.sq g) (fun y hy=>h1 y (List.mem_cons_of_mem _ hy)) h3
   rw [h3,F.zero_mul,Nat.xor_zero] at h2
   intro y hy
   rcases List.mem_cons.1 hy with rfl | hy
   ·exact h2
   ·exact h4 y hy
theorem avI:∀ (p:List Nat) (g:Nat),(∀ y∈p,y < F.q)→(F.KG g p).2 < F.q∧∀ y∈(F.KG g p).1,y < F.q:=by
 intro p
 induction p with
 |nil=>intro g _;exact ⟨F.zlt,fun y hy=>by cases hy⟩
 |cons c p ih =>
  intro g h
  cases p with
  |nil=>exact ⟨h c (List.mem_cons_self ..),fun y hy=>by cases hy⟩
  |cons d ps =>
   have:=ih (F.sq g) fun y hy=>h y (List.mem_cons_of_mem _ hy)
   refine ⟨F.xlt _ _ (h c (List.mem_cons_self ..)) (F.lt _ _),fun y hy=>?_⟩
   rcases List.mem_cons.1 hy with rfl | hy
   ·exact this.1
   ·exact this.2 y hy
def om:List Bool→List Nat→Nat
 |b::bs,x::xs=>(bif b then x else 0) ^^^ om bs xs
 |_,_=>0
def yu (xs:List Nat):Prop:=∀ bs:List Bool,bs.length=xs.length→om bs xs=0→∀ b∈bs,b=false
theorem ao8 {φ:Nat→Nat} (h0:φ 0=0) (hφ:∀ a b,φ (a ^^^ b)=φ a ^^^ φ b):∀ (bs:List Bool) (xs:List Nat),om bs (xs.map φ)=φ (om bs xs):=by
 intro bs
 induction bs with
 |nil=>intro xs;cases xs <;> exact h0.symm
 |cons b bs ih =>
  intro xs
  cases xs with
  |nil=>exact h0.symm
  |cons x xs =>
   simp only [List.map_cons,om]
   rw [ih,hφ]
   cases b
   ·simp only [cond_false];rw [h0]
   ·rfl
theorem Zj:∀ (n:Nat) (xs:List Nat),om (List.replicate n false) xs=0:=by
 intro n
 induction n with
 |zero=>intro xs;cases xs <;> rfl
 |succ n ih =>
  intro xs
  cases xs with
  |nil=>rfl
  |cons x xs=>simp only [List.replicate_succ,om,cond_false];rw [ih];rfl
theorem awI:∀ (bs:List Bool) (xs:List Nat),(∀ x∈xs,x < F.q)→om bs xs < F.q:=by
 intro bs
 induction bs with
 |nil=>intro xs _;cases xs <;> exact F.zlt
 |cons b bs ih =>
  intro xs h
  cases xs with
  |nil=>exact F.zlt
  |cons x xs =>
   simp only [om]
   refine F.xlt _ _ ?_ (ih xs fun y hy=>h y (List.mem_cons_of_mem _ hy))
   cases b
   ·exact F.zlt
   ·exact h x (List.mem_cons_self ..)
theorem afm:∀ (b1:List Bool) (x1:List Nat) (b2:List Bool) (x2:List Nat),b1.length=x1.length→om (b1++b2) (x1++x2)=om b1 x1 ^^^ om b2 x2:=by
 intro b1
 induction b1 with
 |nil=>intro x1 b2 x2 h;cases x1 with
  |nil=>simp [om]
  |cons _ _=>simp at h
 |cons b b1 ih =>
  intro x1 b2 x2 h
  cases x1 with
  |nil=>simp at h
  |cons x x1 =>
   simp only [List.cons_append,om]
   rw [ih x1 b2 x2 (by simpa using h),Nat.xor_assoc]
theorem yu.head {g:Nat} {gs:List Nat} (h:yu (g::gs)):g≠0:=by
 intro h0
 have:=h (true::List.replicate gs.length false) (by simp) (by simp only [om,cond_true];rw [Zj,h0];rfl) true (List.mem_cons_self ..)
 cases this
theorem yu.tail {g:Nat} {gs:List Nat} (h:yu (g::gs)):yu gs:=by
 intro bs hl hs b hb
 exact h (false::bs) (by simp [hl]) (by simp only [om,cond_false];rw [hs];rfl) b (List.mem_cons_of_mem _ hb)
theorem aqm:∀ (n:Nat) (gs p:List Nat),gs.length=n→p.length≤gs.length→(∀ g∈gs,g < F.q)→(∀ c∈p,c < F.q)→yu gs→(∀ g∈gs,F.lp p g=0)→∀ c∈p,c=0:=by
 intro n
 induction n with
 |zero =>
  intro gs p hn hl _ _ _ _ c hc
  rw [List.length_eq_zero_iff.1 (show p.length=0 by omega)] at hc
  cases hc
 |succ n ih =>
  intro gs p hn hl hg hp hi hr
  cases gs with
  |nil=>simp at hn
  |cons g gs =>
  simp only [List.length_cons,Nat.add_right_cancel_iff] at hn
  by_cases hp0:p=[]
  ·subst hp0;intro c hc;cases hc
  have hlen:=F.atK p g hp0
  have hlt:=F.avI p g hp
  have hg0:=hi.head
  have hgq:=hg g (List.mem_cons_self ..)
  have h1:=F.aqO p g g
  rw [hr g (List.mem_cons_self ..),show F.sq g ^^^ F.mul g g=0 from Nat.xor_self _,F.aq6,Nat.zero_xor] at h1
  have hc0:(F.KG g p).2=0:=(F.nz hlt.1 hgq h1.symm).resolve_right hg0
  have hφ0:(fun x=>F.sq x ^^^ F.mul g x) 0=0:=by show F.sq 0 ^^^ F.mul g 0=0;rw [F.Ie,F.mul_zero];rfl
  have hφ:∀ a b,(fun x=>F.sq x ^^^ F.mul g x) (a ^^^ b)=(fun x=>F.sq x ^^^ F.mul g x) a ^^^ (fun x=>F.sq x ^^^ F.mul g x) b:=by
   intro a b
   show F.sq (a ^^^ b) ^^^ F.mul g (a ^^^ b)=(F.sq a ^^^ F.mul g a) ^^^ (F.sq b ^^^ F.mul g b)
   rw [F.ai6,F.add]
   ac_rfl
  refine F.ar3 p g (ih (gs.map fun x=>F.sq x ^^^ F.mul g x) (F.KG g p).1 (by simpa using hn) ?_ ?_ hlt.2 ?_ ?_) hc0
  ·rw [List.length_map];simp only [List.length_cons] at hl;omega
  ·intro y hy
   obtain ⟨x,_,rfl⟩:=List.mem_map.1 hy
   exact F.xlt _ _ (F.avf x) (F.lt _ _)
  ·intro bs hbl hbs
   rw [List.length_map] at hbl
   rw [ao8 hφ0 hφ] at hbs
   have hS:=F.awI bs gs fun y hy=>hg y (List.mem_cons_of_mem _ hy)
   have h2:F.mul (om bs gs ^^^ g) (om bs gs)=0:=by rw [F.atp];exact hbs
   rcases F.nz (F.xlt _ _ hS hgq) hS h2 with h3 | h3
   ·exfalso
    have:=hi (true::bs) (by simp [hbl]) (by simp only [om,cond_true];rw [Nat.xor_comm];exact h3) true (List.mem_cons_self ..)
    cases this
   ·exact hi.tail bs hbl h3
  ·intro y hy
   obtain ⟨x,hx,rfl⟩:=List.mem_map.1 hy
   have h2:=F.aqO p g x
   rw [hr x (List.mem_cons_of_mem _ hx),hc0,F.zero_mul,Nat.xor_zero] at h2
   exact h2.symm
theorem auE (gs p:List Nat) (hl:p.length≤gs.length) (hg:∀ g∈gs,g < F.q) (hp:∀ c∈p,c < F.q) (hi:yu gs) (h:∀ g∈gs,F.lp p g=0):∀ c∈p,c=0:=F.aqm _ gs p rfl hl hg hp hi h
def EL (us:List Nat) (v:Nat):Prop:=∃ bs:List Bool,bs.length=us.length∧v=om bs us
theorem au8:∀ (b1 b2:List Bool) (us:List Nat),b1.length=us.length→b2.length=us.length→om (List.zipWith xor b1 b2) us=om b1 us ^^^ om b2 us:=by
 intro b1
 induction b1 with
 |nil=>intro b2 us h1 h2;cases us with
  |nil=>simp [om]
  |cons _ _=>simp at h1
 |cons b b1 ih =>
  intro b2 us h1 h2
  cases us with
  |nil=>simp at h1
  |cons u us =>
   cases b2 with
   |nil=>simp at h2
   |cons b' b2 =>
    simp only [List.zipWith_cons_cons,om]
    rw [ih b2 us (by simpa using h1) (by simpa using h2)]
    have:(bif xor b b' then u else 0)=(bif b then u else 0) ^^^ (bif b' then u else 0):=by
     cases b <;> cases b' <;> simp
    rw [this]
    ac_rfl
theorem EL.add {us:List Nat} {a b:Nat} (ha:EL us a) (hb:EL us b):EL us (a ^^^ b):=by
 obtain ⟨b1,h1,rfl⟩:=ha
 obtain ⟨b2,h2,rfl⟩:=hb
 exact ⟨List.zipWith xor b1 b2,by simp [h1,h2],(au8 b1 b2 us h1 h2).symm⟩
theorem EL.zero (us:List Nat):EL us 0:=⟨List.replicate us.length false,by simp,(Zj _ _).symm⟩
theorem EL.cons {u:Nat} {us:List Nat} {v:Nat} (h:EL (u::us) v):EL us v∨EL us (v ^^^ u):=by
 obtain ⟨bs,hl,rfl⟩:=h
 cases bs with
 |nil=>simp at hl
 |cons b bs =>
  simp only [List.length_cons,Nat.add_right_cancel_iff] at hl
  cases b
  ·left;exact ⟨bs,hl,by simp only [om,cond_false];rw [Nat.zero_xor]⟩
  ·right;exact ⟨bs,hl,by simp only [om,cond_true];rw [Nat.xor_comm u,Nat.xor_assoc,Nat.xor_self,Nat.xor_zero]⟩
theorem EL.map {φ:Nat→Nat} (h0:φ 0=0) (hφ:∀ a b,φ (a ^^^ b)=φ a ^^^ φ b) {us:List Nat} {v:Nat} (h:EL us v):EL (us.map φ) (φ v):=by
 obtain ⟨bs,hl,rfl⟩:=h
 exact ⟨bs,by simpa using hl,(ao8 h0 hφ bs us).symm⟩
theorem aqz (ψ:Nat→Prop) [∀ g,Decidable (ψ g)] (g0:Nat):∀ (bs:List Bool) (gs:List Nat),bs.length=gs.length→∃ b:Bool,om bs (gs.map fun g=>if ψ g then g else g ^^^ g0)=om (b::bs) (g0::gs):=by
 intro bs
 induction bs with
 |nil=>intro gs h;cases gs with
  |nil=>exact ⟨false,by simp [om]⟩
  |cons _ _=>simp at h
 |cons b bs ih =>
  intro gs h
  cases gs with
  |nil=>simp at h
  |cons g gs =>
   obtain ⟨b',hb'⟩:=ih gs (by simpa using h)
   simp only [List.map_cons,om] at hb' ⊢
   rw [hb']
   cases b
   ·exact ⟨b',by simp only [cond_false,Nat.zero_xor]⟩
   ·simp only [cond_true]
    by_cases hg:ψ g
    ·exact ⟨b',by rw [if_pos hg];ac_rfl⟩
    ·refine ⟨!b',?_⟩
     rw [if_neg hg]
     cases b'
     ·simp only [cond_false,Bool.not_false,cond_true,Nat.zero_xor];ac_rfl
     ·simp only [cond_true,Bool.not_true,cond_false,Nat.zero_xor]
      calc g ^^^ g0 ^^^ (g0 ^^^ om bs gs)=g ^^^ om bs gs ^^^ (g0 ^^^ g0):=by ac_rfl
       _=g ^^^ om bs gs:=by rw [Nat.xor_self,Nat.xor_zero]
theorem aw6 {φ:Nat→Nat} (hφ:∀ a b,φ (a ^^^ b)=φ a ^^^ φ b) (u:Nat) (us:List Nat):∀ gs:List Nat,(∀ g∈gs,g < F.q)→(∀ g∈gs,EL (u::us) (φ g)) →
  ∃ gs',gs.length≤gs'.length+1∧(∀ g∈gs',g < F.q)∧(∀ g∈gs',EL us (φ g))∧∀ zs,yu (zs++gs)→yu (zs++gs'):=by
 intro gs
 induction gs with
 |nil=>intro _ _;exact ⟨[],by simp,fun g hg=>absurd hg List.not_mem_nil,fun g hg=>absurd hg List.not_mem_nil,fun zs h=>h⟩
 |cons g0 gs ih =>
  intro hlt hs
  have hlt2:∀ g∈gs,g < F.q:=fun g hg=>hlt g (List.mem_cons_of_mem _ hg)
  by_cases h0:EL us (φ g0)
  ·obtain ⟨gs',h1,h2,h3,h4⟩:=ih hlt2 fun g hg=>hs g (List.mem_cons_of_mem _ hg)
   refine ⟨g0::gs',by simp only [List.length_cons];omega,fun g hg=>?_,fun g hg=>?_,fun zs hz=>?_⟩
   ·rcases List.mem_cons.1 hg with rfl | hg
    ·exact hlt _ (List.mem_cons_self ..)
    ·exact h2 g hg
   ·rcases List.mem_cons.1 hg with rfl | hg
    ·exact h0
    ·exact h3 g hg
   ·have:=h4 (zs++[g0]) (by simpa using hz)
    simpa using this
  ·have hu:=(hs g0 (List.mem_cons_self ..)).cons.resolve_left h0
   haveI:∀ g,Decidable (EL us (φ g)):=fun g=>Classical.propDecidable _
   refine ⟨gs.map fun g=>if EL us (φ g) then g else g ^^^ g0,by simp,fun g hg=>?_,fun g hg=>?_,fun zs hz=>?_⟩
   ·obtain ⟨x,hx,rfl⟩:=List.mem_map.1 hg
    split
    ·exact hlt2 x hx
    ·exact F.xlt _ _ (hlt2 x hx) (hlt g0 (List.mem_cons_self ..))
   ·obtain ⟨x,hx,rfl⟩:=List.mem_map.1 hg
    split
    ·assumption
    ·rename_i hn
     have h1:=(hs x (List.mem_cons_of_mem _ hx)).cons.resolve_left hn
     rw [hφ]
     have h2:=h1.add hu
     rw [show φ x ^^^ u ^^^ (φ g0 ^^^ u)=φ x ^^^ φ g0 from by
      calc φ x ^^^ u ^^^ (φ g0 ^^^ u)=φ x ^^^ φ g0 ^^^ (u ^^^ u):=by ac_rfl
       _=φ x ^^^ φ g0:=by rw [Nat.xor_self,Nat.xor_zero]] at h2
     exact h2
   ·intro bs hl hb b hbm
    simp only [List.length_append,List.length_map] at hl
    have hsp:bs=bs.take zs.length++bs.drop zs.length:=(List.take_append_drop _ _).symm
    have hl1:(bs.take zs.length).length=zs.length:=by rw [List.length_take];omega
    have hl2:(bs.drop zs.length).length=gs.length:=by rw [List.length_drop];omega
    rw [hsp,afm _ _ _ _ hl1] at hb
    obtain ⟨c,hc⟩:=aqz (fun g=>EL us (φ g)) g0 (bs.drop zs.length) gs hl2
    rw [hc,← afm _ _ _ _ hl1] at hb
    have hall:=hz _ (by simp [hl1,hl2]) hb
    rw [hsp] at hbm
    refine hall b ?_
    rcases List.mem_append.1 hbm with h | h
    ·exact List.mem_append.2 (.inl h)
    ·exact List.mem_append.2 (.inr (List.mem_cons_of_mem _ h))
theorem ay6 {φ:Nat→Nat} (hφ:∀ a b,φ (a ^^^ b)=φ a ^^^ φ b):∀ (us gs:List Nat),(∀ g∈gs,g < F.q)→(∀ g∈gs,EL us (φ g))→yu gs →
  ∃ hs,gs.length≤hs.length+us.length∧(∀ h∈hs,h < F.q)∧(∀ h∈hs,φ h=0)∧yu hs:=by
 intro us
 induction us with
 |nil =>
  intro gs hlt hs hi
  refine ⟨gs,by simp,hlt,fun g hg=>?_,hi⟩
  obtain ⟨bs,_,h⟩:=hs g hg
  rw [h]
  cases bs <;> rfl
 |cons u us ih =>
  intro gs hlt hs hi
  obtain ⟨gs',h1,h2,h3,h4⟩:=F.aw6 hφ u us gs hlt hs
  obtain ⟨hs',k1,k2,k3,k4⟩:=ih gs' h2 h3 (h4 [] hi)
  exact ⟨hs',by simp only [List.length_cons];omega,k2,k3,k4⟩
theorem auF {us gs p:List Nat} (hl:p.length+us.length≤gs.length) (hg:∀ g∈gs,g < F.q) (hp:∀ c∈p,c < F.q) (hi:yu gs) (h:∀ g∈gs,EL us (F.lp p g)):∀ c∈p,c=0:=by
 obtain ⟨hs,h1,h2,h3,h4⟩:=F.ay6 (φ:=F.lp p) (F.aql p) us gs hg h hi
 exact F.auE hs p (by omega) h2 hp h4 h3
end FO
-- shared
def cf (p:List Nat) (i:Nat):Nat:=p.getD i 0
theorem Ai (i:Nat):cf [] i=0:=by simp [cf]
theorem O5 (a:Nat) (p:List Nat):cf (a::p) 0=a:=by simp [cf]
theorem qJ (a:Nat) (p:List Nat) (i:Nat):cf (a::p) (i+1)=cf p i:=by simp [cf]
theorem akr {p:List Nat} {i:Nat} (h:p.length≤i):cf p i=0:=by
 unfold cf
 rw [List.getD_eq_getElem?_getD,List.getElem?_eq_none h];rfl
theorem aty {p:List Nat} (h:∀ i,cf p i=0):∀ c∈p,c=0:=by
 intro c hc
 obtain ⟨i,hi⟩:=List.getElem?_of_mem hc
 have:=h i
 unfold cf at this
 rw [List.getD_eq_getElem?_getD,hi] at this
 exact this
theorem arY {p:List Nat} (h:∀ c∈p,c=0) (i:Nat):cf p i=0:=by
 unfold cf
 rw [List.getD_eq_getElem?_getD]
 cases hi:p[i]? with
 |none=>rfl
 |some c=>exact h c (List.mem_of_getElem? hi)
theorem alH {g:Nat→Nat} (h0:g 0=0) (p:List Nat) (i:Nat):cf (p.map g) i=g (cf p i):=by
 unfold cf
 rw [List.getD_eq_getElem?_getD,List.getD_eq_getElem?_getD,List.getElem?_map]
 cases p[i]? with
 |none=>exact h0.symm
 |some c=>rfl
theorem apD:∀ {p q:List Nat},p.length=q.length→(∀ i,cf p i=cf q i)→p=q:=by
 intro p
 induction p with
 |nil=>intro q h _;exact (List.length_eq_zero_iff.1 h.symm).symm
 |cons a p ih =>
  intro q h hc
  cases q with
  |nil=>simp at h
  |cons b q =>
   have h0:=hc 0
   rw [O5,O5] at h0
   rw [h0,ih (by simpa using h) fun i=>by have:=hc (i+1);rwa [qJ,qJ] at this]
def jM:List Nat→List Nat→List Nat
 |[],q=>q
 |a::p,[]=>a::p
 |a::p,b::q=>(a ^^^ b)::jM p q
theorem agH (p:List Nat):jM p []=p:=by cases p <;> rfl
theorem Nk:∀ (p q:List Nat),(jM p q).length=max p.length q.length:=by
 intro p
 induction p with
 |nil=>intro q;simp [jM]
 |cons a p ih =>
  intro q
  cases q with
  |nil=>simp [jM]
  |cons b q=>simp only [jM,List.length_cons,ih];omega
theorem Du:∀ (p q:List Nat) (i:Nat),cf (jM p q) i=cf p i ^^^ cf q i:=by
 intro p
 induction p with
 |nil=>intro q i;rw [Ai,Nat.zero_xor];rfl
 |cons a p ih =>
  intro q i
  cases q with
  |nil=>rw [Ai,Nat.xor_zero];rfl
  |cons b q =>
   cases i with
   |zero=>rfl
   |succ i=>simp only [jM,qJ];exact ih q i
def bY:List Nat→List Nat
 |[]=>[]
 |a::p=>match bY p with
  |[]=>if a=0 then [] else [a]
  |b::q=>a::b::q
theorem jL:∀ (p:List Nat) (i:Nat),cf (bY p) i=cf p i:=by
 intro p
 induction p with
 |nil=>intro i;rfl
 |cons a p ih =>
  intro i
  unfold bY
  cases ht:bY p with
  |nil =>
   rw [ht] at ih
   simp only
   split
   ·rename_i h
    subst h
    cases i with
    |zero=>rfl
    |succ i=>rw [qJ,← ih i,Ai,Ai]
   ·cases i with
    |zero=>rfl
    |succ i=>rw [qJ,qJ,← ih i]
  |cons b q =>
   rw [ht] at ih
   simp only
   cases i with
   |zero=>rfl
   |succ i=>rw [qJ,qJ,← ih i]
theorem wo:∀ (p:List Nat),bY p≠[]→cf (bY p) ((bY p).length - 1)≠0:=by
 intro p
 induction p with
 |nil=>intro h;exact absurd rfl h
 |cons a p ih =>
  unfold bY
  cases ht:bY p with
  |nil =>
   simp only
   split
   ·intro h;exact absurd rfl h
   ·rename_i h;intro _;exact h
  |cons b q =>
   rw [ht] at ih
   intro _
   have:=ih (by simp)
   simp only [List.length_cons,Nat.add_sub_cancel] at this ⊢
   rw [qJ];exact this
theorem lg:∀ (p:List Nat),(bY p).length≤p.length:=by
 intro p
 induction p with
 |nil=>exact Nat.le_refl _
 |cons a p ih =>
  unfold bY
  cases ht:bY p with
  |nil =>
   simp only
   split <;> simp
  |cons b q=>rw [ht] at ih;simp only [List.length_cons] at ih ⊢;omega
theorem als {p:List Nat} (h:∀ i,cf p i=0):bY p=[]:=by
 apply Classical.byContradiction
 intro hn
 exact wo p hn (by rw [jL];exact h _)
theorem adR {p q:List Nat} (hp:p≠[]→cf p (p.length - 1)≠0) (hq:q≠[]→cf q (q.length - 1)≠0) (h:∀ i,cf p i=cf q i):p=q:=by
 have key:∀ {p q:List Nat},(p≠[]→cf p (p.length - 1)≠0)→(∀ i,cf p i=cf q i)→p.length≤q.length:=by
  intro p q hp h
  by_cases hn:p=[]
  ·subst hn;exact Nat.zero_le _
  ·have:=hp hn
   have hl:0 < p.length:=List.length_pos_iff.2 hn
   apply Classical.byContradiction
   intro hlt
   rw [h,akr (by omega)] at this
   exact this rfl
 exact apD (Nat.le_antisymm (key hp h) (key hq fun i=>(h i).symm)) h
def tY (k:Nat) (p:List Nat):List Nat:=p++List.replicate (k - p.length) 0
theorem aqK (k:Nat) (p:List Nat) (i:Nat):cf (tY k p) i=cf p i:=by
 unfold tY cf
 rw [List.getD_eq_getElem?_getD,List.getD_eq_getElem?_getD]
 by_cases h:i < p.length
 ·rw [List.getElem?_append_left h]
 ·rw [List.getElem?_append_right (by omega),List.getElem?_eq_none (l:=p) (by omega),List.getElem?_replicate]
  split <;> rfl
theorem aaJ {k:Nat} {p:List Nat} (h:p.length≤k):(tY k p).length=k:=by simp [tY];omega
theorem P5 {k:Nat} {m:List Nat} (h:m.length=k):tY k (bY m)=m:=by
 have:=lg m
 exact apD (by rw [aaJ (by omega),h]) fun i=>by rw [aqK,jL]
namespace FO
variable (F : FO)
theorem aq4:∀ (p q:List Nat) (x:Nat),F.lp (jM p q) x=F.lp p x ^^^ F.lp q x:=by
 intro p
 induction p with
 |nil=>intro q x;simp [jM,lp]
 |cons a p ih =>
  intro q x
  cases q with
  |nil=>simp [jM,lp]
  |cons b q =>
   simp only [jM,lp]
   rw [F.atp,ih]
   ac_rfl
def fB:List Nat→(Nat→Nat)→Nat→Nat
 |[],_,_=>0
 |v::vs,x,i=>F.mul v (x i) ^^^ (match i with
  |0=>0
  |i+1=>fB vs (fun j=>F.sq (x j)) i)
def zN:List Nat→List Nat→List Nat
 |[],_=>[]
 |v::vs,m=>jM (m.map (F.mul v)) (0::zN vs (m.map F.sq))
theorem SF:∀ (V m:List Nat) (i:Nat),cf (F.zN V m) i=F.fB V (cf m) i:=by
 intro V
 induction V with
 |nil=>intro m i;exact Ai i
 |cons v vs ih =>
  intro m i
  simp only [zN,fB]
  rw [Du,alH (F.mul_zero v)]
  cases i with
  |zero=>rfl
  |succ i =>
   rw [qJ,ih]
   rw [show cf (m.map F.sq)=fun j=>F.sq (cf m j) from funext fun j=>alH F.Ie m j]
theorem akv:∀ (V m:List Nat),V≠[]→m≠[]→(F.zN V m).length+1=V.length+m.length:=by
 intro V
 induction V with
 |nil=>intro m h;exact absurd rfl h
 |cons v vs ih =>
  intro m _ hm
  have hl:0 < m.length:=List.length_pos_iff.2 hm
  simp only [zN]
  rw [Nk,List.length_map,List.length_cons]
  by_cases hv:vs=[]
  ·subst hv;simp only [zN,List.length_nil,List.length_cons];omega
  ·have:=ih (m.map F.sq) hv (by simpa using hm)
   rw [List.length_map] at this
   simp only [List.length_cons];omega
theorem agl:∀ {p q:List Nat},(∀ c∈p,c < F.q)→(∀ c∈q,c < F.q)→∀ c∈jM p q,c < F.q:=by
 intro p
 induction p with
 |nil=>intro q _ hq;exact hq
 |cons a p ih =>
  intro q hp hq
  cases q with
  |nil=>exact hp
  |cons b q =>
   intro c hc
   rcases List.mem_cons.1 hc with rfl | hc
   ·exact F.xlt _ _ (hp _ (List.mem_cons_self ..)) (hq _ (List.mem_cons_self ..))
   ·exact ih (fun c hc=>hp c (List.mem_cons_of_mem _ hc)) (fun c hc=>hq c (List.mem_cons_of_mem _ hc)) c hc
theorem anv:∀ (V m:List Nat),∀ c∈F.zN V m,c < F.q:=by
 intro V
 induction V with
 |nil=>intro m c hc;cases hc
 |cons v vs ih =>
  intro m
  refine F.agl (fun c hc=>?_) (fun c hc=>?_)
  ·obtain ⟨x,_,rfl⟩:=List.mem_map.1 hc
   exact F.lt _ _
  ·rcases List.mem_cons.1 hc with rfl | hc
   ·exact F.zlt
   ·exact ih _ c hc
theorem asF (v:Nat):∀ (m:List Nat) (x:Nat),F.lp (m.map (F.mul v)) x=F.mul v (F.lp m x):=by
 intro m
 induction m with
 |nil=>intro x;exact (F.mul_zero v).symm
 |cons c m ih =>
  intro x
  simp only [List.map_cons,lp]
  rw [ih,F.add,F.assoc]
theorem auG:∀ (m:List Nat) (x:Nat),F.lp (m.map F.sq) (F.sq x)=F.sq (F.lp m x):=by
 intro m
 induction m with
 |nil=>intro x;exact F.Ie.symm
 |cons c m ih =>
  intro x
  simp only [List.map_cons,lp]
  rw [ih,F.ai6,F.avg]
theorem auD:∀ (V m:List Nat) (x:Nat),F.lp (F.zN V m) x=F.lp V (F.lp m x):=by
 intro V
 induction V with
 |nil=>intro m x;rfl
 |cons v vs ih =>
  intro m x
  simp only [zN]
  rw [F.aq4,F.asF]
  simp only [lp]
  rw [F.zero_mul,Nat.zero_xor,ih,F.auG]
theorem akt:∀ (V:List Nat) (x y:Nat→Nat) (i:Nat),F.fB V (fun j=>x j ^^^ y j) i=F.fB V x i ^^^ F.fB V y i:=by
 intro V
 induction V with
 |nil=>intro x y i;simp [fB]
 |cons v vs ih =>
  intro x y i
  simp only [fB]
  rw [F.add]
  cases i with
  |zero=>simp
  |succ i =>
   simp only
   rw [show (fun j=>F.sq (x j ^^^ y j))=fun j=>F.sq (x j) ^^^ F.sq (y j) from funext fun j=>F.ai6 _ _,ih]
   ac_rfl
theorem aku:∀ (V:List Nat) (d:Nat) (x:Nat→Nat) (j:Nat),V.length≤d+1→(∀ i,j < i→x i=0)→F.fB V x (d+j)=F.mul (cf V d) (F.sqn d (x j)):=by
 intro V
 induction V with
 |nil=>intro d x j _ _;rw [Ai,F.zero_mul];rfl
 |cons v vs ih =>
  intro d x j hl hx
  cases d with
  |zero =>
   have:vs=[]:=by simpa using hl
   subst this
   rw [Nat.zero_add,O5]
   simp only [fB,sqn]
   cases j with
   |zero=>simp
   |succ j=>simp
  |succ d =>
   rw [show d+1+j=d+j+1 by omega]
   simp only [fB]
   rw [hx _ (by omega),F.mul_zero,Nat.zero_xor,ih d (fun i=>F.sq (x i)) j (by simpa using hl) (fun i hi=>by rw [hx i hi,F.Ie]),qJ]
   rfl
theorem ab5 (V:List Nat):∀ (x:Nat→Nat) (j i:Nat),(∀ i,j≤i→x i=0)→V.length+j≤i+1→F.fB V x i=0:=by
 induction V with
 |nil=>intro x j i _ _;rfl
 |cons v vs ih =>
  intro x j i hx hi
  simp only [List.length_cons] at hi
  simp only [fB]
  rw [hx i (by omega),F.mul_zero,Nat.zero_xor]
  cases i with
  |zero=>rfl
  |succ i=>exact ih _ j i (fun i hi=>by rw [hx i hi,F.Ie]) (by omega)
theorem atE {V x:List Nat} (hV:∀ c∈V,c < F.q) (hx:∀ c∈x,c < F.q) (hn:V≠[]) (hl:cf V (V.length - 1)≠0) (h:∀ i,V.length - 1≤i→F.fB V (cf x) i=0):∀ i,cf x i=0:=by
 have hvl:0 < V.length:=List.length_pos_iff.2 hn
 have hlt:∀ {l:List Nat},(∀ c∈l,c < F.q)→∀ i,cf l i < F.q:=by
  intro l hl i
  unfold cf
  rw [List.getD_eq_getElem?_getD]
  cases hi:l[i]? with
  |none=>exact F.zlt
  |some c=>exact hl c (List.mem_of_getElem? hi)
 have key:bY x=[]:=by
  apply Classical.byContradiction
  intro hne
  have ht:=wo x hne
  rw [jL] at ht
  have htop:=F.aku V (V.length - 1) (cf x) ((bY x).length - 1) (by omega) (fun i hi=>by rw [← jL];exact akr (by omega))
  rw [h _ (by omega)] at htop
  rcases F.nz (hlt hV _) (F.Nh _ (hlt hx _)) htop.symm with h0 | h0
  ·exact hl h0
  ·exact ht (F.aw8 _ (hlt hx _) h0)
 intro i
 rw [← jL,key,Ai]
end FO
-- shared
def BL (M k:Nat):List Int:=(List.replicate M 0).set k 1
def okV (f:TF3) (M:Nat) (r:List Int):Prop:=r.length=M∧∀ y∈r,inF f y
theorem OU {f:TF3} (hf:aN f=true) (M k:Nat):okV f M (BL M k):=by
 refine ⟨by simp [BL],fun y hy=>?_⟩
 rcases List.mem_or_eq_of_mem_set hy with h | rfl
 ·rw [(List.mem_replicate.1 h).2];exact gG
 ·exact al2 hf
theorem avA {f:TF3} (M:Nat):okV f M (List.replicate M 0):=⟨by simp,fun y hy=>by rw [(List.mem_replicate.1 hy).2];exact gG⟩
def lJ (f:TF3):List Int→List Int→Int
 |x::u,y::w=>jI .i64 (gu f x y) (lJ f u w)
 |_,_=>0
theorem GY {f:TF3} (hf:aN f=true):∀ {u w:List Int},(∀ x∈u,inF f x)→(∀ x∈w,inF f x)→inF f (lJ f u w):=by
 intro u
 induction u with
 |nil=>intro w _ _;exact gG
 |cons x u ih =>
  intro w hu hw
  cases w with
  |nil=>exact gG
  |cons y w=>exact Lp hf (wR hf (hu x (List.mem_cons_self ..)) (hw y (List.mem_cons_self ..))) (ih (fun z hz=>hu z (List.mem_cons_of_mem _ hz)) fun z hz=>hw z (List.mem_cons_of_mem _ hz))
theorem VF {f:TF3} (hf:aN f=true):∀ {u w:List Int},(∀ x∈u,inF f x)→(∀ x∈w,inF f x)→lJ f u w=lJ f w u:=by
 intro u
 induction u with
 |nil=>intro w _ _;cases w <;> rfl
 |cons x u ih =>
  intro w hu hw
  cases w with
  |nil=>rfl
  |cons y w =>
   simp only [lJ]
   rw [iX hf (hu x (List.mem_cons_self ..)) (hw y (List.mem_cons_self ..)),ih (fun z hz=>hu z (List.mem_cons_of_mem _ hz)) fun z hz=>hw z (List.mem_cons_of_mem _ hz)]
theorem az8 {f:TF3} (hf:aN f=true) {a b c d:Int} (ha:inF f a) (hb:inF f b) (hc:inF f c) (hd:inF f d):jI .i64 (jI .i64 a b) (jI .i64 c d)=jI .i64 (jI .i64 a c) (jI .i64 b d):=by
 rw [zK hf ha hb (Lp hf hc hd),← zK hf hb hc hd,Wd hf hb hc,zK hf hc hb hd,← zK hf ha hc (Lp hf hb hd)]
theorem ase {f:TF3} (hf:aN f=true) {c:Int} (hc:inF f c):∀ {u v w:List Int},u.length=v.length→(∀ x∈u,inF f x)→(∀ x∈v,inF f x)→(∀ x∈w,inF f x)→lJ f (abW f u v c) w=jI .i64 (lJ f u w) (gu f c (lJ f v w)):=by
 intro u
 induction u with
 |nil =>
  intro v w hl _ _ _
  cases v with
  |nil=>simp only [abW,List.zip_nil_left,List.map_nil,lJ];rw [sP hf hc,qD hf gG]
  |cons y v=>simp at hl
 |cons x u ih =>
  intro v w hl hu hv hw
  cases v with
  |nil=>simp at hl
  |cons y v =>
   cases w with
   |nil=>simp only [lJ,abW,List.zip_cons_cons,List.map_cons];rw [sP hf hc,qD hf gG]
   |cons z w =>
    have hx:=hu x (List.mem_cons_self ..)
    have hy:=hv y (List.mem_cons_self ..)
    have hz:=hw z (List.mem_cons_self ..)
    have hu2:∀ x∈u,inF f x:=fun z hz=>hu z (List.mem_cons_of_mem _ hz)
    have hv2:∀ x∈v,inF f x:=fun z hz=>hv z (List.mem_cons_of_mem _ hz)
    have hw2:∀ x∈w,inF f x:=fun z hz=>hw z (List.mem_cons_of_mem _ hz)
    have:=ih (by simpa using hl) hu2 hv2 hw2
    unfold abW at this
    simp only [abW,List.zip_cons_cons,List.map_cons,lJ]
    rw [this]
    have hd1:=GY hf hu2 hw2
    have hd2:=GY hf hv2 hw2
    have hyc:=wR hf hy hc
    rw [ah0 hf hc (wR hf hy hz) hd2]
    rw [iX hf (Lp hf hx hyc) hz,ah0 hf hz hx hyc,iX hf hz hx]
    rw [show gu f z (gu f y c)=gu f c (gu f y z) from by
     rw [iX hf hy hc,← YV hf hz hc hy,iX hf hz hc,YV hf hc hz hy,iX hf hz hy]]
    exact az8 hf (wR hf hx hz) (wR hf hc (wR hf hy hz)) hd1 (wR hf hc hd2)
theorem ab9 {f:TF3} (hf:aN f=true):∀ {w:List Int} (n:Nat),(∀ x∈w,inF f x)→lJ f (List.replicate n 0) w=0:=by
 intro w n
 induction n generalizing w with
 |zero=>intro _;rfl
 |succ n ih =>
  intro hw
  cases w with
  |nil=>rfl
  |cons y w =>
   simp only [List.replicate_succ,lJ]
   rw [ih fun z hz=>hw z (List.mem_cons_of_mem _ hz),iX hf gG (hw y (List.mem_cons_self ..)),sP hf (hw y (List.mem_cons_self ..)),qD hf gG]
theorem akC {f:TF3} (hf:aN f=true):∀ {w:List Int} (n k:Nat),(∀ x∈w,inF f x)→n=w.length→k < n→lJ f (BL n k) w=w.getD k 0:=by
 intro w
 induction w with
 |nil=>intro n k _ h1 h2;simp at h1;omega
 |cons y w ih =>
  intro n k hw h1 h2
  simp only [List.length_cons] at h1
  subst h1
  have hy:=hw y (List.mem_cons_self ..)
  have hw2:∀ x∈w,inF f x:=fun z hz=>hw z (List.mem_cons_of_mem _ hz)
  cases k with
  |zero =>
   simp only [BL,List.replicate_succ,List.set_cons_zero,lJ,List.getD_cons_zero]
   rw [ab9 hf _ hw2,iX hf (al2 hf) hy,aaD hf hy,OW hf hy]
  |succ k =>
   have:=ih w.length k hw2 rfl (by omega)
   unfold BL at this
   simp only [BL,List.replicate_succ,List.set_cons_succ,lJ,List.getD_cons_succ]
   rw [this,iX hf gG hy,sP hf hy]
   refine qD hf ?_
   rw [List.getD_eq_getElem?_getD,List.getElem?_eq_getElem (by omega)]
   exact hw2 _ (List.getElem_mem _)
-- shared
def cell (L:List (List Int)) (j c:Nat):Int:=(L.getD j []).getD c 0
theorem cell_of {L:List (List Int)} {j c:Nat} {r:List Int} {x:Int} (h:L[j]?=some r) (hx:r[c]?=some x):cell L j c=x:=by
 unfold cell;rw [uo h,uo hx]
theorem anr {L:List (List Int)} {j c:Nat} {r:List Int} (h:L[j]?=some r):cell L j c=r.getD c 0:=by
 unfold cell;rw [uo h]
theorem KT {f:TF3} {n:Nat} {L:List (List Int)} (h:GR f n L) (j c:Nat):inF f (cell L j c):=by
 unfold cell
 cases hj:L[j]? with
 |none=>rw [List.getD_eq_getElem?_getD (l:=L),hj];exact gG
 |some r =>
  rw [uo hj,List.getD_eq_getElem?_getD]
  cases hc:r[c]? with
  |none=>exact gG
  |some x=>exact (DV h hj).2 x (List.mem_of_getElem? hc)
theorem ak1 {f:TF3} {n:Nat} {L:List (List Int)} (h:GR f n L) {j c:Nat} (hc:c < n) {r:List Int} (hr:L[j]?=some r):CY c r = !decide (cell L j c=0):=by
 have hx:=List.getElem?_eq_getElem (show c < r.length by rw [(DV h hr).1];exact hc)
 rw [cell_of hr hx]
 unfold CY
 rw [hx]
theorem an8 {α:Type} (p:α→Bool):∀ (l:List α) (i:Nat) {k:Nat},nR p i l=((i+k:Nat):Int)→∀ j,j < k→∀ x,l[j]?=some x→p x=false:=by
 intro l
 induction l with
 |nil=>intro i k h j hj x hx;simp at hx
 |cons y l ih =>
  intro i k h j hj x hx
  rcases Bool.eq_false_or_eq_true (p y) with hp | hp
  ·simp only [nR,hp,cond_true] at h;omega
  ·simp only [nR,hp,cond_false] at h
   cases j with
   |zero=>simp only [List.getElem?_cons_zero,Option.some.injEq] at hx;subst hx;exact hp
   |succ j=>exact ih (i+1) (k:=k - 1) (by rw [h];congr 1;omega) j (by omega) x (by simpa using hx)
theorem Xc {f:TF3} (hf:aN f=true) {n c:Nat} (hc:c < n) {a:Nat} {L:List (List Int)} (h:GR f n L) :
  ((∀ j,a≤j→j < L.length→cell L j c=0)∧jh f c (a,L)=(a,L)) ∨
  ∃ (k:Nat) (G:List (List Int)),a≤k∧k < L.length∧cell L k c≠0∧(∀ j,a≤j→j < k→cell L j c=0)∧jh f c (a,L)=(a+1,G)∧GR f n G∧G.length=L.length ∧
   (∀ e,e < n→cell G a e=gu f (cell L k e) (Ag f (cell L k c))) ∧
   ∀ j,j < L.length→j≠a→∀ e,e < n→cell G j e=jI .i64 (cell L (if j=k then a else j) e) (gu f (cell L (if j=k then a else j) c) (cell G a e)):=by
 have hok:=Ir (c:=c) (s:=(a,L)) hf h
 rcases zw (CY c) (L.drop a) a with ⟨h1,h2⟩ | ⟨k,row,h1,h2,h3⟩
 ·left
  refine ⟨fun j hj hl=>?_,?_⟩
  ·have hr:=List.getElem?_eq_getElem hl
   have hm:L[j]∈L.drop a:=by
    refine List.mem_of_getElem? (i:=j - a) ?_
    rw [List.getElem?_drop,show a+(j - a)=j by omega]
    exact hr
   have:=h2 _ hm
   rw [ak1 h hc hr] at this
   simpa using this
  ·unfold jh
   dsimp only
   rw [h1]
   rfl
 ·right
  have hak:L[a+k]?=some row:=by rw [← h1,List.getElem?_drop]
  have hlt:=(List.getElem?_eq_some_iff.1 hak).1
  obtain ⟨r0,hr0⟩:∃ r0,L[a]?=some r0:=⟨_,List.getElem?_eq_getElem (by omega)⟩
  obtain ⟨x,hx,hx0⟩:=amk h2
  have hxf:=(DV h hak).2 x (List.mem_of_getElem? hx)
  have hrl:=(DV h hak).1
  have hst:jh f c (a,L)=(a+1,Fp f c a (Sj f c (a+k) a L)):=by
   unfold jh
   dsimp only
   rw [h3,decide_eq_false (by omega),cond_false,Int.toNat_natCast]
  have hp:Sj f c (a+k) a L=(L.set (a+k) r0).set a (row.map fun y=>gu f y (Ag f x)):=by
   unfold Sj Zi
   rw [hak,hr0]
   simp only [hx]
  have hpg:=agw (c:=c) (k:=a+k) (a:=a) hf h
  have hpa:(Sj f c (a+k) a L)[a]?=some (row.map fun y=>gu f y (Ag f x)):=by rw [hp];exact List.getElem?_set_self (by simp;omega)
  have hcl:Fp f c a (Sj f c (a+k) a L)=(Sj f c (a+k) a L).mapIdx (ou f c a (row.map fun y=>gu f y (Ag f x))):=by
   unfold Fp;rw [hpa]
  have hcg:=aks (c:=c) (a:=a) hf hpg.1
  have hkc:cell L (a+k) c=x:=cell_of hak hx
  have hone:gu f x (Ag f x)=1:=(vF hf hxf).2 hx0
  have hownc:(row.map fun y=>gu f y (Ag f x))[c]?=some 1:=by rw [List.getElem?_map,hx,Option.map_some,hone]
  have hga:(Fp f c a (Sj f c (a+k) a L))[a]?=some (row.map fun y=>gu f y (Ag f x)):=by
   rw [hcl,List.getElem?_mapIdx,hpa,Option.map_some]
   unfold ou
   rw [hownc]
   simp
  refine ⟨a+k,Fp f c a (Sj f c (a+k) a L),by omega,hlt,by rw [hkc];exact hx0,fun j h4 h5=>?_,hst,hcg.1,by rw [hcg.2,hpg.2],fun e he=>?_,fun j hj hja e he=>?_⟩
  ·-- those before the pivot
   have hr:=List.getElem?_eq_getElem (show j < L.length by omega)
   have hb:=an8 (CY c) (L.drop a) a h3 (j - a) (by omega) L[j] (by rw [List.getElem?_drop,show a+(j - a)=j by omega];exact hr)
   rw [ak1 h hc hr] at hb
   simpa using hb
  ·have hy:=List.getElem?_eq_getElem (show e < row.length by omega)
   rw [cell_of hak hy,hkc]
   exact cell_of hga (by rw [List.getElem?_map,hy];rfl)
  ·have hj0:(Sj f c (a+k) a L)[j]?=L[if j=a+k then a else j]?:=by
    rw [hp,List.getElem?_set_ne (Ne.symm hja),List.getElem?_set]
    by_cases hjk:j=a+k
    ·rw [if_pos hjk.symm,if_pos hlt,if_pos hjk,hr0]
    ·rw [if_neg (Ne.symm hjk),if_neg hjk]
   obtain ⟨r,hr⟩:∃ r,L[if j=a+k then a else j]?=some r:=⟨_,List.getElem?_eq_getElem (by split <;> omega)⟩
   rw [hr] at hj0
   obtain ⟨hrl2,hrf2⟩:=DV h hr
   have hz:=List.getElem?_eq_getElem (show c < r.length by omega)
   have hy:=List.getElem?_eq_getElem (show e < r.length by omega)
   have hye:=List.getElem?_eq_getElem (show e < (row.map fun y=>gu f y (Ag f x)).length by simp;omega)
   have hyf:=hrf2 _ (List.mem_of_getElem? hy)
   have hown:=(DV hpg.1 hpa).2
   rw [cell_of hr hy,cell_of hr hz,cell_of hga hye]
   have hgj:(Fp f c a (Sj f c (a+k) a L))[j]?=some (ou f c a (row.map fun y=>gu f y (Ag f x)) j r):=by
    rw [hcl,List.getElem?_mapIdx,hj0,Option.map_some]
   have hwe:=hown _ (List.mem_of_getElem? hye)
   unfold ou at hgj
   rw [hz] at hgj
   dsimp only at hgj
   rw [decide_eq_false hja,Bool.false_or] at hgj
   by_cases h0:r[c]=0
   ·rw [decide_eq_true h0,cond_true] at hgj
    rw [cell_of hgj hy,h0,iX hf gG hwe,sP hf hwe,OW hf hyf]
   ·rw [decide_eq_false h0,cond_false] at hgj
    refine cell_of hgj ?_
    rw [List.getElem?_map]
    rw [show (r.zip (row.map fun y=>gu f y (Ag f x)))[e]?=some (r[e],(row.map fun y=>gu f y (Ag f x))[e]'(by simp;omega)) from List.getElem?_zip_eq_some.2 ⟨hy,hye⟩]
    rfl
-- shared
structure y8 (f:TF3) (n c a:Nat) (L:List (List Int)) (p:List Nat):Prop where
 gr:GR f n L
 ac:a≤c
 al:a≤L.length
 pl:p.length=a
 plt:∀ q∈p,q < c
 pinc:p.Pairwise (· < ·)
 low:∀ j,a≤j→j < L.length→∀ e,e < c→cell L j e=0
 dia:∀ i q,p[i]?=some q→∀ j,j < L.length→cell L j q=if j=i then 1 else 0
 lead:∀ i q,p[i]?=some q→∀ e,e < q→cell L i e=0
 full:a=c→p=List.range c
theorem y8.start {f:TF3} {n:Nat} {L:List (List Int)} (h:GR f n L):y8 f n 0 0 L [] :=
 ⟨h,Nat.le_refl _,Nat.zero_le _,rfl,fun _ h=>absurd h List.not_mem_nil,List.Pairwise.nil,fun _ _ _ _ h=>absurd h (Nat.not_lt_zero _),fun i q h=>absurd h (by simp),fun i q h=>absurd h (by simp),fun _=>rfl⟩
theorem y8.step {f:TF3} (hf:aN f=true) {n c a:Nat} {L:List (List Int)} {p:List Nat} (h:y8 f n c a L p) (hc:c < n) (hn:c < n):∃ p',y8 f n (c+1) (jh f c (a,L)).1 (jh f c (a,L)).2 p'∧(jh f c (a,L)).2.length=L.length:=by
 rcases Xc hf hc (a:=a) h.gr with ⟨h1,h2⟩ | ⟨k,G,hak,hk,hx,_,h2,hg,hgl,hga,hgj⟩
 ·rw [h2]
  refine ⟨p,⟨h.gr,by have:=h.ac;omega,h.al,h.pl,fun q hq=>by have:=h.plt q hq;omega,h.pinc,fun j hj hl e he=>?_,h.dia,h.lead,fun hh=>by have:=h.ac;dsimp only at hh;omega⟩,rfl⟩
  by_cases hec:e=c
  ·subst hec;exact h1 j hj hl
  ·exact h.low j hj hl e (by omega)
 ·rw [h2]
  have hin:=KT h.gr
  have hgin:=KT hg
  have hxi:=vF hf (hin k c)
  have g1:cell G a c=1:=by rw [hga c hc];exact hxi.2 hx
  have g0:∀ e,e < c→cell G a e=0:=by
   intro e he
   rw [hga e (by omega),h.low k hak hk e he,iX hf gG hxi.1,sP hf hxi.1]
  have gj0:∀ j,j < L.length→j≠a→∀ e,e < c→cell G j e=cell L (if j=k then a else j) e:=by
   intro j hj hja e he
   rw [hgj j hj hja e (by omega),g0 e he,sP hf (hin _ _),OW hf (hin _ _)]
  have gjc:∀ j,j < L.length→j≠a→cell G j c=0:=by
   intro j hj hja
   rw [hgj j hj hja c hc,g1,aaD hf (hin _ _),OV hf (hin _ _)]
  have hpa:∀ i q,(p++[c])[i]?=some q→(p[i]?=some q∧i < a)∨(i=a∧q=c):=by
   intro i q hi
   rw [List.getElem?_append,h.pl] at hi
   by_cases hia:i < a
   ·rw [if_pos hia] at hi;exact .inl ⟨hi,hia⟩
   ·rw [if_neg hia] at hi
    have:=(List.getElem?_eq_some_iff.1 hi).1
    simp only [List.length_cons,List.length_nil] at this
    have hia2:i=a:=by omega
    subst hia2
    rw [Nat.sub_self] at hi
    exact .inr ⟨rfl,(Option.some.inj hi).symm⟩
  refine ⟨p++[c],⟨hg,by have:=h.ac;dsimp only;omega,by dsimp only;rw [hgl];omega,by simp [h.pl],fun q hq=>?_,?_,fun j hj hl e he=>?_,fun i q hi j hj=>?_,fun i q hi e he=>?_,fun hh=>?_⟩,hgl⟩
  ·rcases List.mem_append.1 hq with hq | hq
   ·have:=h.plt q hq;omega
   ·simp only [List.mem_singleton] at hq;omega
  ·refine List.pairwise_append.2 ⟨h.pinc,List.pairwise_singleton _ _,fun z hz y hy=>?_⟩
   rw [List.mem_singleton.1 hy];exact h.plt z hz
  ·rw [hgl] at hl
   dsimp only at hj
   by_cases hec:e=c
   ·subst hec;exact gjc j hl (by omega)
   ·rw [gj0 j hl (by omega) e (by omega)]
    exact h.low _ (by split <;> omega) (by split <;> omega) e (by omega)
  ·rw [hgl] at hj
   rcases hpa i q hi with ⟨hi,hia⟩ | ⟨rfl,rfl⟩
   ·have hqc:=h.plt q (List.mem_of_getElem? hi)
    by_cases hja:j=a
    ·subst hja;rw [g0 q hqc,if_neg (by omega)]
    ·rw [gj0 j hj hja q hqc,h.dia i q hi _ (by split <;> omega)]
     by_cases hjk:j=k
     ·rw [if_pos hjk,if_neg (by omega),if_neg (by omega)]
     ·rw [if_neg hjk]
   ·by_cases hja:j=i
    ·subst hja;rw [g1,if_pos rfl]
    ·rw [gjc j hj hja,if_neg hja]
  ·rcases hpa i q hi with ⟨hi,hia⟩ | ⟨rfl,rfl⟩
   ·have hqc:=h.plt q (List.mem_of_getElem? hi)
    rw [gj0 i (by have:=h.al;omega) (by omega) e (by omega),if_neg (by omega)]
    exact h.lead i q hi e he
   ·exact g0 e he
  ·dsimp only at hh
   rw [h.full (by omega),← List.range_succ]
theorem y8.from {f:TF3} (hf:aN f=true) {n:Nat}:∀ (m c a:Nat) (L:List (List Int)) (p:List Nat),c+m≤n→y8 f n c a L p→∃ p',y8 f n (c+m) (gT f c m (a,L)).1 (gT f c m (a,L)).2 p'∧(gT f c m (a,L)).2.length=L.length:=by
 intro m
 induction m with
 |zero=>intro c a L p _ h;exact ⟨p,h,rfl⟩
 |succ m ih =>
  intro c a L p hc h
  obtain ⟨p1,h1,hl1⟩:=h.step hf (by omega) (by omega)
  obtain ⟨p2,h2,hl2⟩:=ih (c+1) _ _ p1 (by omega) h1
  rw [show c+1+m=c+(m+1) by omega] at h2
  exact ⟨p2,h2,by rw [← hl1];exact hl2⟩
theorem y8.all {f:TF3} (hf:aN f=true) {n m:Nat} {L:List (List Int)} (hm:m≤n) (h:GR f n L):∃ p,y8 f n m (gT f 0 m (0,L)).1 (gT f 0 m (0,L)).2 p∧(gT f 0 m (0,L)).2.length=L.length:=by
 have:=y8.from hf m 0 0 L [] (by omega) (y8.start h)
 rw [Nat.zero_add] at this
 exact this
section
variable {f : TF3} (hf : aN f = true) {n c : Nat} (hc : c < n) {x : List Int} (hx : ∀ y ∈ x, inF f y)
include hc
include hf hx
end
theorem asE {l:List Int} (h:∀ e,e < l.length→l.getD e 0=0):l=List.replicate l.length 0:=by
 apply List.ext_getElem?
 intro e
 rw [List.getElem?_replicate]
 by_cases he:e < l.length
 ·rw [if_pos he]
  have:=h e he
  rw [List.getD_eq_getElem?_getD,List.getElem?_eq_getElem he] at this
  rw [List.getElem?_eq_getElem he]
  exact congrArg some this
 ·rw [if_neg he,List.getElem?_eq_none (by omega)]
-- shared
theorem agu {f:TF3} (hf:aN f=true) {b:Int} (hb:inF f b):gu f 0 b=0:=by rw [iX hf gG hb,sP hf hb]
theorem aqn {f:TF3} (hf:aN f=true) {a b:Int} (ha:inF f a) (hb:inF f b) (h0:a≠0) (h:gu f b (Ag f a)=0):b=0:=by
 obtain ⟨h1,h2⟩:=vF hf ha
 rw [← aaD hf hb,← h2 h0,iX hf ha h1,← YV hf hb h1 ha,h,agu hf ha]
theorem apq {f:TF3} {n:Nat} {u v w:List Int} {c:Int} (hu:okV f n u) (hv:okV f n v) (hw:okV f n w) (hf:aN f=true) (hc:inF f c) (h:∀ e,e < n→w.getD e 0=jI .i64 (u.getD e 0) (gu f c (v.getD e 0))):w=abW f u v c:=by
 apply List.ext_getElem?
 intro e
 unfold abW
 rw [List.getElem?_map]
 by_cases he:e < n
 ·have h1:=List.getElem?_eq_getElem (show e < w.length by rw [hw.1];exact he)
  have h2:=List.getElem?_eq_getElem (show e < u.length by rw [hu.1];exact he)
  have h3:=List.getElem?_eq_getElem (show e < v.length by rw [hv.1];exact he)
  have:=h e he
  rw [uo h1,uo h2,uo h3] at this
  rw [h1,(List.getElem?_zip_eq_some (z:=(u[e]'(by rw [hu.1];exact he),v[e]'(by rw [hv.1];exact he)))).2 ⟨h2,h3⟩,this,iX hf hc (hv.2 _ (List.mem_of_getElem? h3))]
  rfl
 ·rw [List.getElem?_eq_none (by rw [hw.1];omega),List.getElem?_eq_none (l:=u.zip v) (by rw [List.length_zip,hu.1];omega)]
  rfl
theorem agZ {f:TF3} {n:Nat} {u v w x:List Int} {c:Int} (hf:aN f=true) (hu:okV f n u) (hv:okV f n v) (hw:okV f n w) (hc:inF f c) (hx:∀ y∈x,inF f y) (h:∀ e,e < n→w.getD e 0=jI .i64 (u.getD e 0) (gu f c (v.getD e 0))):lJ f w x=jI .i64 (lJ f u x) (gu f c (lJ f v x)):=by
 rw [apq hu hv hw hf hc h,ase hf hc (hu.1.trans hv.1.symm) hu.2 hv.2 hx]
theorem anI {f:TF3} (hf:aN f=true) {n c:Nat} (hc:c < n) {a:Nat} {L:List (List Int)} (h:GR f n L) (ha:a≤L.length) {x:List Int} (hx:∀ y∈x,inF f y) :
  (∀ r∈(jh f c (a,L)).2,lJ f r x=0) ↔ ∀ r∈L,lJ f r x=0:=by
 rcases Xc hf hc (a:=a) h with ⟨_,h2⟩ | ⟨k,G,hak,hk,hnz,_,h2,hg,hgl,hga,hgj⟩
 ·rw [h2]
 rw [h2]
 dsimp only
 have hrow:∀ {M:List (List Int)},GR f n M→∀ {j:Nat},j < M.length→okV f n (M.getD j [])∧M.getD j []∈M:=by
  intro M hM j hj
  have:=List.getElem?_eq_getElem hj
  rw [uo this]
  exact ⟨DV hM this,List.mem_of_getElem? this⟩
 have hal:a < G.length:=by omega
 have hkc:=KT h k c
 obtain ⟨hi1,hi2⟩:=vF hf hkc
 have hGa:lJ f (G.getD a []) x=gu f (lJ f (L.getD k []) x) (Ag f (cell L k c)):=by
  have h0:=agZ (u:=List.replicate n 0) hf (avA n) (hrow h hk).1 (hrow hg hal).1 hi1 hx (fun e he=>by
   have:(G.getD a []).getD e 0=gu f (cell L k e) (Ag f (cell L k c)):=hga e he
   rw [this,iX hf (KT h k e) hi1]
   rw [List.getD_eq_getElem?_getD (l:=List.replicate n (0:Int)),List.getElem?_replicate,if_pos he]
   simp only [Option.getD_some]
   exact (qD hf (wR hf hi1 (KT h k e))).symm)
  rw [h0,ab9 hf n hx,qD hf (wR hf hi1 (GY hf (hrow h hk).1.2 hx)),iX hf hi1 (GY hf (hrow h hk).1.2 hx)]
 have hGj:∀ j,j < L.length→j≠a→lJ f (G.getD j []) x=jI .i64 (lJ f (L.getD (if j=k then a else j) []) x) (gu f (cell L (if j=k then a else j) c) (lJ f (G.getD a []) x)):=by
  intro j hj hja
  have hj':(if j=k then a else j) < L.length:=by split <;> omega
  exact agZ hf (hrow h hj').1 (hrow hg hal).1 (hrow hg (by omega)).1 (KT h _ c) hx fun e he=>hgj j hj hja e he
 constructor
 ·intro hk0 r hr
  have h1:lJ f (G.getD a []) x=0:=hk0 _ (hrow hg hal).2
  have h2:lJ f (L.getD k []) x=0:=aqn hf hkc (GY hf (hrow h hk).1.2 hx) hnz (hGa ▸ h1)
  obtain ⟨i,hi⟩:=List.getElem?_of_mem hr
  have hil:=(List.getElem?_eq_some_iff.1 hi).1
  rw [← uo (d:=[]) hi]
  by_cases hik:i=k
  ·subst hik;exact h2
  ·obtain ⟨j,hj,hja,hji⟩:∃ j,j < L.length∧j≠a∧(if j=k then a else j)=i:=by
    by_cases hia:i=a
    ·exact ⟨k,hk,by omega,by rw [if_pos rfl,hia]⟩
    ·exact ⟨i,hil,hia,by rw [if_neg hik]⟩
   have h3:=hGj j hj hja
   rw [hji,h1,sP hf (KT h _ c),hk0 _ (hrow hg (by omega)).2] at h3
   rw [OW hf (GY hf (hrow h hil).1.2 hx)] at h3
   exact h3.symm
 ·intro hL r hr
  have h1:lJ f (G.getD a []) x=0:=by rw [hGa,hL _ (hrow h hk).2,agu hf hi1]
  obtain ⟨i,hi⟩:=List.getElem?_of_mem hr
  have hil:=(List.getElem?_eq_some_iff.1 hi).1
  rw [← uo (d:=[]) hi]
  by_cases hia:i=a
  ·subst hia;exact h1
  ·have hj':(if i=k then a else i) < L.length:=by split <;> omega
   rw [hGj i (by omega) hia,h1,sP hf (KT h _ c),hL _ (hrow h hj').2,OV hf gG]
theorem anH {f:TF3} (hf:aN f=true) {n:Nat} {x:List Int} (hx:∀ y∈x,inF f y):∀ (m c a:Nat) (L:List (List Int)),c+m≤n→GR f n L→a≤L.length →
  ((∀ r∈(gT f c m (a,L)).2,lJ f r x=0) ↔ ∀ r∈L,lJ f r x=0):=by
 intro m
 induction m with
 |zero=>intro c a L _ _ _;exact Iff.rfl
 |succ m ih =>
  intro c a L hc h ha
  have h1:=Ir (c:=c) (s:=(a,L)) hf h ha
  unfold gT
  rw [show jh f c (a,L)=((jh f c (a,L)).1,(jh f c (a,L)).2) from rfl,ih (c+1) _ _ (by omega) h1.1 (by rw [h1.2.1];exact h1.2.2)]
  exact anI hf (by omega) h ha hx
theorem ag0 {f:TF3} (hf:aN f=true) {n:Nat} {L:List (List Int)} (h:GR f n L) {x:List Int} (hx:∀ y∈x,inF f y):(∀ r∈DY f n L,lJ f r x=0) ↔ ∀ r∈L,lJ f r x=0:=by
 rw [← anH hf hx n 0 0 L (by omega) h (Nat.zero_le _)]
 obtain ⟨p,hI,hl⟩:=y8.all hf (Nat.le_refl n) h
 unfold DY
 generalize hs:gT f 0 n (0,L)=s at hI hl
 obtain ⟨a,G⟩:=s
 dsimp only at hI hl ⊢
 constructor
 ·intro h0 r hr
  obtain ⟨i,hi⟩:=List.getElem?_of_mem hr
  have hil:=(List.getElem?_eq_some_iff.1 hi).1
  by_cases hia:i < a
  ·exact h0 r (List.mem_of_getElem? (i:=i) (by rw [List.getElem?_take_of_lt hia];exact hi))
  ·have hz:r=List.replicate n 0:=by
    have hrl:=(DV hI.gr hi).1
    have:=asE (l:=r) fun e he=>by
     have:=hI.low i (by omega) hil e (by omega)
     rwa [anr hi] at this
    rwa [hrl] at this
   rw [hz,ab9 hf n hx]
 ·intro h0 r hr
  exact h0 r (List.mem_of_mem_take hr)
theorem anG {f:TF3} (hf:aN f=true):∀ {r x:List Int} {q:Nat} {v:Int},(∀ y∈r,inF f y)→(∀ y∈x,inF f y)→inF f v→r.length=x.length→lJ f r (x.set q v)=jI .i64 (lJ f r x) (gu f (r.getD q 0) (jI .i64 (x.getD q 0) v)):=by
 intro r
 induction r with
 |nil =>
  intro x q v _ hx hv hl
  have:x=[]:=List.length_eq_zero_iff.1 hl.symm
  subst this
  simp only [lJ,List.getD_nil]
  rw [qD hf hv,agu hf hv,OV hf gG]
 |cons a r ih =>
  intro x q v hr hx hv hl
  cases x with
  |nil=>simp at hl
  |cons b x =>
   have ha:=hr a (List.mem_cons_self ..)
   have hb:=hx b (List.mem_cons_self ..)
   have hr':∀ y∈r,inF f y:=fun y hy=>hr y (List.mem_cons_of_mem _ hy)
   have hx':∀ y∈x,inF f y:=fun y hy=>hx y (List.mem_cons_of_mem _ hy)
   cases q with
   |zero =>
    simp only [List.set_cons_zero,lJ,List.getD_cons_zero]
    have h1:=wR hf ha hb
    have h2:=wR hf ha hv
    have h3:=GY hf hr' hx'
    rw [ah0 hf ha hb hv,Wd hf h1 h3,zK hf h3 h1 (Lp hf h1 h2),← zK hf h1 h1 h2,OV hf h1,qD hf h2,Wd hf h2 h3]
   |succ q =>
    simp only [List.set_cons_succ,lJ,List.getD_cons_succ]
    have h3:=GY hf hr' hx'
    have hq:∀ {l:List Int},(∀ y∈l,inF f y)→inF f (l.getD q 0):=fun {l} hl=>by
     rw [List.getD_eq_getElem?_getD]
     cases hc:l[q]? with
     |none=>exact gG
     |some y=>exact hl y (List.mem_of_getElem? hc)
    have h4:=wR hf (hq hr') (Lp hf (hq hx') hv)
    rw [ih hr' hx' hv (by simpa using hl),zK hf (wR hf ha hb) h3 h4]
def jr (c:Nat):List Int→List (Nat×List Int)→List Int
 |out,[]=>out
 |out,(q,row)::l=>jr c (out.set q (row.getD c 0)) l
theorem JH {f:TF3} {n c:Nat}:∀ (l:List (Nat×List Int)) {out:List Int},okV f n out→(∀ p∈l,okV f n p.2)→okV f n (jr c out l):=by
 intro l
 induction l with
 |nil=>intro out h _;exact h
 |cons p l ih =>
  intro out h hp
  obtain ⟨q,row⟩:=p
  refine ih ⟨by rw [List.length_set];exact h.1,fun y hy=>?_⟩ fun p hp'=>hp p (List.mem_cons_of_mem _ hp')
  rcases List.mem_or_eq_of_mem_set hy with hy | rfl
  ·exact h.2 y hy
  ·have hrow:=hp _ (List.mem_cons_self ..)
   rw [List.getD_eq_getElem?_getD]
   cases hc:row[c]? with
   |none=>exact gG
   |some z=>exact hrow.2 z (List.mem_of_getElem? hc)
theorem aaI {c:Nat}:∀ (l:List (Nat×List Int)) {out:List Int} {e:Nat},(∀ p∈l,p.1≠e)→(jr c out l).getD e 0=out.getD e 0:=by
 intro l
 induction l with
 |nil=>intro out e _;rfl
 |cons p l ih =>
  intro out e h
  obtain ⟨q,row⟩:=p
  unfold jr
  rw [ih fun p hp=>h p (List.mem_cons_of_mem _ hp),List.getD_eq_getElem?_getD,List.getElem?_set_ne (h _ (List.mem_cons_self ..)),← List.getD_eq_getElem?_getD]
theorem aaH {f:TF3} (hf:aN f=true) {n c:Nat} {r:List Int} (hr:okV f n r):∀ (l:List (Nat×List Int)) {out:List Int},okV f n out→(∀ p∈l,okV f n p.2∧r.getD p.1 0=0)→lJ f r (jr c out l)=lJ f r out:=by
 intro l
 induction l with
 |nil=>intro out _ _;rfl
 |cons p l ih =>
  intro out h hp
  obtain ⟨q,row⟩:=p
  have h1:=hp _ (List.mem_cons_self ..)
  have ho:=JH (c:=c) [(q,row)] h fun p hp=>by rw [List.mem_singleton.1 hp];exact h1.1
  show lJ f r (jr c (out.set q (row.getD c 0)) l)=_
  have ho:okV f n (out.set q (row.getD c 0)):=ho
  rw [ih ho fun p hp'=>hp p (List.mem_cons_of_mem _ hp')]
  have hrow:inF f (row.getD c 0):=by
   rw [List.getD_eq_getElem?_getD]
   cases hc:row[c]? with
   |none=>exact gG
   |some z=>exact h1.1.2 z (List.mem_of_getElem? hc)
  have hoq:inF f (out.getD q 0):=by
   rw [List.getD_eq_getElem?_getD]
   cases hc:out[q]? with
   |none=>exact gG
   |some z=>exact h.2 z (List.mem_of_getElem? hc)
  rw [anG hf hr.2 h.2 hrow (hr.1.trans h.1.symm),h1.2,agu hf (Lp hf hoq hrow),OW hf (GY hf hr.2 h.2)]
-- shared
theorem aew (c:Nat):∀ (l1:List (Nat×List Int)) (l2:List (Nat×List Int)) (out:List Int),jr c out (l1++l2)=jr c (jr c out l1) l2:=by
 intro l1
 induction l1 with
 |nil=>intro l2 out;rfl
 |cons p l1 ih=>intro l2 out;obtain ⟨q,row⟩:=p;exact ih l2 _
theorem getD_in {f:TF3} {l:List Int} (h:∀ y∈l,inF f y) (i:Nat):inF f (l.getD i 0):=by
 rw [List.getD_eq_getElem?_getD]
 cases hc:l[i]? with
 |none=>exact gG
 |some y=>exact h y (List.mem_of_getElem? hc)
theorem aje (n c e:Nat):(BL n c).getD e 0=if c=e∧e < n then 1 else 0:=by
 unfold BL
 rw [List.getD_eq_getElem?_getD,List.getElem?_set,List.length_replicate]
 split
 ·rename_i h;subst h
  split
  ·rename_i h;rw [if_pos ⟨rfl,h⟩];rfl
  ·rename_i h;rw [if_neg fun hh=>h hh.2];rfl
 ·rename_i h
  rw [if_neg fun hh=>h hh.1,List.getElem?_replicate]
  split <;> rfl
def Ri (n c:Nat) (p:List Nat) (E:List (List Int)):List Int:=jr c (BL n c) (p.zip E)
section
variable {f : TF3} {n a : Nat} {G : List (List Int)} {p : List Nat}
theorem y8.row (h:y8 f n n a G p) {i:Nat} (hi:i < a):∃ r,(G.take a)[i]?=some r∧okV f n r∧(∀ e,r.getD e 0=cell G i e):=by
 have:=h.al
 have hr:=List.getElem?_eq_getElem (show i < G.length by omega)
 exact ⟨G[i],by rw [List.getElem?_take_of_lt hi];exact hr,DV h.gr hr,fun e=>(anr hr).symm⟩
theorem y8.piv (h:y8 f n n a G p) {i:Nat} (hi:i < a):∃ q,p[i]?=some q∧q < n:=by
 have hl:=h.pl
 have hq:=List.getElem?_eq_getElem (show i < p.length by omega)
 exact ⟨_,hq,h.plt _ (List.mem_of_getElem? hq)⟩
theorem y8.pne (h:y8 f n n a G p) {i j q q':Nat} (hi:p[i]?=some q) (hj:p[j]?=some q') (hij:i≠j):q≠q':=by
 obtain ⟨h1,rfl⟩:=List.getElem?_eq_some_iff.1 hi
 obtain ⟨h2,rfl⟩:=List.getElem?_eq_some_iff.1 hj
 rcases Nat.lt_or_gt_of_ne hij with hlt | hlt
 ·have:=List.pairwise_iff_getElem.1 h.pinc i j h1 h2 hlt;omega
 ·have:=List.pairwise_iff_getElem.1 h.pinc j i h2 h1 hlt;omega
theorem ah3 (hf:aN f=true) (h:y8 f n n a G p) (c:Nat):okV f n (Ri n c p (G.take a)):=by
 refine JH _ (OU hf n c) fun x hx=>?_
 have:=List.of_mem_zip (a:=x.1) (b:=x.2) hx
 exact h.gr _ (List.mem_of_mem_take this.2)
theorem aoG (h:y8 f n n a G p) {c:Nat} (hc:c < n) (hp:c ∉ p):(Ri n c p (G.take a)).getD c 0=1:=by
 unfold Ri
 rw [aaI _ fun x hx he=>hp (by have:=List.of_mem_zip (a:=x.1) (b:=x.2) hx;rw [← he];exact this.1),aje,if_pos ⟨rfl,hc⟩]
theorem ak0 (hf:aN f=true) (h:y8 f n n a G p) {c:Nat} (hc:c < n) (hp:c ∉ p):∀ r∈G.take a,lJ f r (Ri n c p (G.take a))=0:=by
 intro r hr
 have hal:=h.al
 have hpl:=h.pl
 obtain ⟨i,hi⟩:=List.getElem?_of_mem hr
 have hia:i < a:=by have:=(List.getElem?_eq_some_iff.1 hi).1;rw [List.length_take] at this;omega
 obtain ⟨r',hr',hrok,hcell⟩:=h.row hia
 rw [hi] at hr'
 obtain rfl:=Option.some.inj hr'
 obtain ⟨q,hq,hqn⟩:=h.piv hia
 have hz:(p.zip (G.take a))[i]?=some (q,r):=List.getElem?_zip_eq_some.2 ⟨hq,hi⟩
 obtain ⟨hzl,hzi⟩:=List.getElem?_eq_some_iff.1 hz
 have hsp:p.zip (G.take a)=(p.zip (G.take a)).take i++(q,r)::(p.zip (G.take a)).drop (i+1):=by
  rw [← hzi,← List.drop_eq_getElem_cons hzl,List.take_append_drop]
 have hel:∀ {j:Nat} {x:Nat×List Int},(p.zip (G.take a))[j]?=some x→j≠i→okV f n x.2∧r.getD x.1 0=0∧x.1≠q:=by
  intro j x hx hj
  obtain ⟨x1,x2⟩:=x
  obtain ⟨h1,h2⟩:=List.getElem?_zip_eq_some.1 hx
  have hja:j < a:=by have:=(List.getElem?_eq_some_iff.1 h1).1;omega
  refine ⟨h.gr _ (List.mem_of_mem_take (List.mem_of_getElem? h2)),?_,h.pne h1 hq hj⟩
  rw [hcell,h.dia j x1 h1 i (by omega),if_neg fun hh=>hj hh.symm]
 have h1:∀ x∈(p.zip (G.take a)).take i,okV f n x.2∧r.getD x.1 0=0∧x.1≠q:=by
  intro x hx
  obtain ⟨j,hj⟩:=List.getElem?_of_mem hx
  have hjl:=(List.getElem?_eq_some_iff.1 hj).1
  rw [List.length_take] at hjl
  rw [List.getElem?_take_of_lt (by omega)] at hj
  exact hel hj (by omega)
 have h2:∀ x∈(p.zip (G.take a)).drop (i+1),okV f n x.2∧r.getD x.1 0=0∧x.1≠q:=by
  intro x hx
  obtain ⟨j,hj⟩:=List.getElem?_of_mem hx
  rw [List.getElem?_drop] at hj
  exact hel hj (by omega)
 have hu:=OU hf n c
 have hcq:c≠q:=fun hh=>hp (hh ▸ List.mem_of_getElem? hq)
 unfold Ri
 rw [hsp,aew]
 show lJ f r (jr c ((jr c (BL n c) ((p.zip (G.take a)).take i)).set q (r.getD c 0)) _)=0
 have ho1:=JH (c:=c) _ hu fun x hx=>(h1 x hx).1
 have ho2:okV f n ((jr c (BL n c) ((p.zip (G.take a)).take i)).set q (r.getD c 0)):=by
  refine ⟨by rw [List.length_set];exact ho1.1,fun y hy=>?_⟩
  rcases List.mem_or_eq_of_mem_set hy with hy | rfl
  ·exact ho1.2 y hy
  ·exact getD_in hrok.2 c
 have hrq:r.getD q 0=1:=by rw [hcell,h.dia i q hq i (by omega),if_pos rfl]
 have hoq:(jr c (BL n c) ((p.zip (G.take a)).take i)).getD q 0=0:=by
  rw [aaI _ fun x hx=>(h1 x hx).2.2,aje,if_neg fun hh=>hcq hh.1]
 rw [aaH hf hrok _ ho2 fun x hx=>⟨(h2 x hx).1,(h2 x hx).2.1⟩,anG hf hrok.2 ho1.2 (getD_in hrok.2 c) (hrok.1.trans ho1.1.symm),aaH hf hrok _ hu fun x hx=>⟨(h1 x hx).1,(h1 x hx).2.1⟩,hrq,hoq,
  qD hf (getD_in hrok.2 c),iX hf (al2 hf) (getD_in hrok.2 c),aaD hf (getD_in hrok.2 c),VF hf hrok.2 hu.2,akC hf n c hrok.2 hrok.1.symm hc,OV hf (getD_in hrok.2 c)]
theorem y8.amf (h:y8 f n n a G p) {i:Nat} (hi:i < a) {r:List Int} (hr:(G.take a)[i]?=some r) {q:Nat} (hq:p[i]?=some q):r[q]?=some 1∧∀ e,e < q→r[e]?=some 0:=by
 obtain ⟨r',hr',hrok,hcell⟩:=h.row hi
 rw [hr] at hr'
 obtain rfl:=Option.some.inj hr'
 have hqn:=h.plt q (List.mem_of_getElem? hq)
 have hal:=h.al
 have hget:∀ e,e < n→r[e]?=some (r.getD e 0):=fun e he=>by
  have:=List.getElem?_eq_getElem (show e < r.length by rw [hrok.1];exact he)
  rw [uo this];exact this
 exact ⟨by rw [hget q hqn,hcell,h.dia i q hq i (by omega),if_pos rfl],fun e he=>by rw [hget e (by omega),hcell,h.lead i q hq e he]⟩
end
def alu (f:TF3) (n:Nat) (L:List (List Int)) (x:List Int):Prop:=okV f n x∧(∃ q,x.getD q 0≠0)∧∀ r∈L,lJ f r x=0
theorem alu.auQ {f:TF3} (hf:aN f=true) {n:Nat} {L:List (List Int)} (h:GR f n L) {x:List Int} (hx:alu f n (DY f n L) x):alu f n L x:=⟨hx.1,hx.2.1,(ag0 hf h hx.1.2).1 hx.2.2⟩
theorem awm {f:TF3} (hf:aN f=true) {n:Nat} {E D:List (List Int)} (hE:GR f n E) (hD:GR f n D) (h:∀ r∈E,∀ y∈D,lJ f r y=0) {c:Nat} (hc:c < n) {d:List Int} (hd:d∈D) (hdc:d.getD c 0=1):∃ x,(DY f n D)[0]?=some x∧alu f n E x:=by
 obtain ⟨p,hI,hl⟩:=y8.all hf (Nat.le_refl n) hD
 have hlen:=ag1 hf (m:=n) hD
 have hgr:=avK hf (m:=n) hD
 have hpos:0 < (DY f n D).length:=by
  apply Classical.byContradiction
  intro hn
  have he:DY f n D=[]:=List.length_eq_zero_iff.1 (by omega)
  have:=(ag0 hf hD (OU hf n c).2).1 (by rw [he];intro r hr;cases hr) d hd
  rw [VF hf (hD d hd).2 (OU hf n c).2,akC hf n c (hD d hd).2 (hD d hd).1.symm hc,hdc] at this
  cases this
 have h0:=List.getElem?_eq_getElem hpos
 refine ⟨_,h0,hgr _ (List.mem_of_getElem? h0),?_,fun r hr=>?_⟩
 ·obtain ⟨q,hq,_⟩:=hI.piv (i:=0) (by omega)
  have:=(hI.amf (i:=0) (by omega) (r:=(DY f n D)[0]) h0 hq).1
  exact ⟨q,by rw [uo this];decide⟩
 ·have hrok:=hE r hr
  have h2:=(ag0 hf hD hrok.2).2 (fun y hy=>by rw [VF hf (hD y hy).2 hrok.2];exact h r hr y hy) _ (List.mem_of_getElem? h0)
  rw [VF hf hrok.2 (hgr _ (List.mem_of_getElem? h0)).2];exact h2
theorem anR {n:Nat} {p:List Nat} (hp:p.Pairwise (· < ·)) (hl:p.length < n):∃ c,c < n∧c ∉ p:=by
 apply Classical.byContradiction
 intro hn
 have hall:∀ c,c < n→c∈p:=fun c hc=>Classical.byContradiction fun h=>hn ⟨c,hc,h⟩
 have hsub:List.range n ⊆ p:=fun c hc=>hall c (List.mem_range.1 hc)
 have hd:(List.range n).Nodup:=List.nodup_range
 have:=List.Nodup.length_le_of_subset hd hsub
 rw [List.length_range] at this
 omega
theorem cZ {σ β:Type} {step:σ→Tre (σ ⊕ β)} (st:Nat→σ) (n:Nat) (b:β) (hs:∀ i,i < n→(step (st i)).run some=some (.inl (st (i+1)))) (he:(step (st n)).run some=some (.inr b)):aR step (st 0)=some b:=by
 have key:∀ m i,i+m=n→aR step (st i)=some b:=by
  intro m
  induction m with
  |zero=>intro i hi;have hi:i=n:=hi;subst hi;exact fu he
  |succ m ih=>intro i hi;rw [mJ (hs i (by omega))];exact ih (i+1) (by omega)
 exact key n 0 (by omega)
def aS (l:List Nat):List Int:=l.map fun x:Nat=>(x:Int)
theorem aW (l:List Nat):(aS l).length=l.length:=by unfold aS;exact List.length_map _
theorem dG {l:List Nat} {i x:Nat} (h:l[i]?=some x):(aS l)[i]?=some (x:Int):=by
 unfold aS;rw [List.getElem?_map,h];rfl
theorem ah4 {c:Nat} {E:List (List Int)} {out:List Int} {q:Nat} {row:List Int} {p:List Nat} {i:Nat} (h1:p[i]?=some q) (h2:E[i]?=some row):jr c out ((p.zip E).take (i+1))=(jr c out ((p.zip E).take i)).set q (row.getD c 0):=by
 rw [List.take_add_one,List.getElem?_zip_eq_some.2 (show p[i]?=some (q,row).1∧E[i]?=some (q,row).2 from ⟨h1,h2⟩),aew]
 rfl
-- shared
def aw7 (p:Nat):Nat→Nat→Nat
 |0,a=>a
 |k+1,a=>aw7 p k (mulN p a a)
def azU (d p:Nat):Bool:=(List.range (2 ^ d)).all fun a=>Nat.beq (aw7 p d a) a
theorem asq:(ji.all fun q=>azU q.1 q.2)=true:=by kernel_rfl
theorem al5 {d p a:Nat} (hq:(d,p)∈ji) (ha:a < 2 ^ d) (h0:a≠0):tX d p a < 2 ^ d∧mulN p a (tX d p a)=1:=by
 have h:=List.all_eq_true.1 (List.all_eq_true.1 aah (d,p) hq) a (List.mem_range.2 ha)
 rw [Bool.and_eq_true,Bool.or_eq_true] at h
 exact ⟨by simpa [Nat.blt_eq] using h.1,(h.2.resolve_left fun h=>h0 (Nat.eq_of_beq_eq_true h)) |> Nat.eq_of_beq_eq_true⟩
theorem LA {a d:Nat}:a % 2 ^ d < 2 ^ d:=Nat.mod_lt _ (Nat.two_pow_pos d)
theorem one_mod {d:Nat} (hd:1≤d):1 % 2 ^ d=1:=Nat.mod_eq_of_lt (Nat.lt_of_lt_of_le (by decide:1 < 2 ^ 1) (Nat.pow_le_pow_right (by decide) hd))
theorem Yp {d p:Nat} (hq:(d,p)∈ji):1≤d∧d≤5:=by
 have:∀ q∈ji,1≤q.1∧q.1≤5:=by decide
 exact this _ hq
def foN (d p:Nat) (hq:(d,p)∈ji):FO where
 q:=2 ^ d
 dg:=d
 mul:=fun a b=>mulN p (a % 2 ^ d) (b % 2 ^ d)
 hq:=Nat.lt_of_lt_of_le (by decide:1 < 2 ^ 1) (Nat.pow_le_pow_right (by decide) (Yp hq).1)
 hd:=(Yp hq).1
 lt:=fun a b=>(nV hq LA LA).1
 xlt:=fun a b ha hb=>Nat.xor_lt_two_pow ha hb
 comm:=fun a b=>(nV hq LA LA).2
 assoc:=fun a b c=>by rw [Nat.mod_eq_of_lt (nV hq LA LA).1,Nat.mod_eq_of_lt (nV hq (a:=b % 2 ^ d) (b:=c % 2 ^ d) LA LA).1];exact ah1 hq LA LA LA
 add:=fun a b c=>by rw [Nat.xor_mod_two_pow];exact ER hq LA _ _ LA LA
 one:=fun a ha=>by rw [Nat.mod_eq_of_lt ha,one_mod (Yp hq).1];exact (aaE hq ha).1
 inv:=fun a ha h0=>⟨tX d p a,(al5 hq ha h0).1,by rw [Nat.mod_eq_of_lt ha,Nat.mod_eq_of_lt (al5 hq ha h0).1];exact (al5 hq ha h0).2⟩
theorem ag5 {f:TF3} (hf:aN f=true):(f.1.toNat,f.2.1.toNat)∈ji∧f=((f.1.toNat:Int),(f.2.1.toNat:Int),()):=by
 obtain ⟨d,p,hq,rfl⟩:=Ct hf
 exact ⟨hq,rfl⟩
def FOf (f:TF3) (hf:aN f=true):FO:=foN f.1.toNat f.2.1.toNat (ag5 hf).1
section
variable {f : TF3} (hf : aN f = true)
theorem ana:(FOf f hf).q=2 ^ f.1.toNat:=rfl
theorem Xt {x:Int}:inF f x ↔ ∃ n:Nat,x=(n:Int)∧n < (FOf f hf).q:=by
 unfold inF
 rw [ana]
 constructor
 ·intro h;exact ⟨x.toNat,by omega,by omega⟩
 ·rintro ⟨n,rfl,h⟩;exact ⟨by omega,by exact_mod_cast h⟩
theorem F63 {n:Nat} (h:n < (FOf f hf).q):n < 2 ^ 63:=by
 rw [ana] at h
 have:=Nat.pow_le_pow_right (show 0 < 2 by decide) (show f.1.toNat≤63 by have:=(VJ hf).2;omega)
 omega
theorem amj {a b:Nat} (ha:a < (FOf f hf).q) (hb:b < (FOf f hf).q):gu f (a:Int) (b:Int)=(((FOf f hf).mul a b:Nat):Int):=by
 rw [ana] at ha hb
 unfold gu FOf foN
 simp only [Int.toNat_natCast]
 rw [Nat.mod_eq_of_lt ha,Nat.mod_eq_of_lt hb]
theorem Zl {a b:Nat} (ha:a < (FOf f hf).q) (hb:b < (FOf f hf).q):jI .i64 (a:Int) (b:Int)=((a ^^^ b:Nat):Int):=nS (F63 hf ha) (F63 hf hb)
theorem ayF {a:Nat} (ha:a < (FOf f hf).q):∃ b:Nat,Ag f (a:Int)=(b:Int)∧b < (FOf f hf).q∧(a≠0→(FOf f hf).mul a b=1):=by
 obtain ⟨h1,h2⟩:=vF hf ((Xt hf).2 ⟨a,rfl,ha⟩)
 obtain ⟨b,hb,hbl⟩:=(Xt hf).1 h1
 refine ⟨b,hb,hbl,fun h0=>?_⟩
 have:=h2 (by omega)
 rw [hb,amj hf ha hbl] at this
 omega
theorem avi {d p:Nat} (hq:(d,p)∈ji):∀ (k:Nat) {a:Nat},a < 2 ^ d→(foN d p hq).sqn k a=aw7 p k a:=by
 intro k
 induction k with
 |zero=>intro a _;rfl
 |succ k ih =>
  intro a ha
  have hs:(foN d p hq).sq a=mulN p a a:=by
   show mulN p (a % 2 ^ d) (a % 2 ^ d)=_
   rw [Nat.mod_eq_of_lt ha]
  show (foN d p hq).sqn k ((foN d p hq).sq a)=aw7 p k (mulN p a a)
  rw [hs,ih (nV hq ha ha).1]
theorem auf {a:Nat} (ha:a < (FOf f hf).q):(FOf f hf).sqn f.1.toNat a=a:=by
 have hq:=(ag5 hf).1
 rw [ana] at ha
 unfold FOf
 rw [avi hq _ ha]
 exact Nat.eq_of_beq_eq_true (List.all_eq_true.1 (List.all_eq_true.1 asq _ hq) a (List.mem_range.2 ha))
theorem aug {a:Nat} (ha:a < (FOf f hf).q):∀ j:Nat,(FOf f hf).sqn (f.1.toNat * j) a=a:=by
 intro j
 induction j with
 |zero=>rfl
 |succ j ih=>rw [Nat.mul_succ,FO.agz,ih];exact auf hf ha
theorem abL {a:Nat} (ha:a < (FOf f hf).q) (k:Nat):(FOf f hf).sqn (k % f.1.toNat) a=(FOf f hf).sqn k a:=by
 have h:=Nat.div_add_mod k f.1.toNat
 have h2:(FOf f hf).sqn (f.1.toNat * (k / f.1.toNat)+k % f.1.toNat) a=(FOf f hf).sqn (k % f.1.toNat) a:=by
  rw [FO.agz,aug hf ha]
 rw [h] at h2
 exact h2.symm
end
def inL (F:FO) (l:List Nat):Prop:=∀ x∈l,x < F.q
theorem agt {f:TF3} (hf:aN f=true) {l:List Int} (h:∀ x∈l,inF f x):∃ L,l=aS L∧inL (FOf f hf) L:=by
 induction l with
 |nil=>exact ⟨[],rfl,fun x hx=>absurd hx List.not_mem_nil⟩
 |cons x l ih =>
  obtain ⟨L,rfl,hL⟩:=ih fun y hy=>h y (List.mem_cons_of_mem _ hy)
  obtain ⟨n,rfl,hn⟩:=(Xt hf).1 (h x (List.mem_cons_self ..))
  refine ⟨n::L,rfl,fun y hy=>?_⟩
  rcases List.mem_cons.1 hy with rfl | hy
  ·exact hn
  ·exact hL y hy
theorem awk {f:TF3} (hf:aN f=true) {L:List Nat} (h:inL (FOf f hf) L):∀ x∈aS L,inF f x:=by
 intro x hx
 obtain ⟨n,hn,rfl⟩:=List.mem_map.1 hx
 exact (Xt hf).2 ⟨n,rfl,h n hn⟩
theorem aad {F:FO} {a b:List Nat} (ha:inL F a) (hb:inL F b):inL F (a++b):=fun x hx=>(List.mem_append.1 hx).elim (ha x) (hb x)
theorem vD {F:FO} {l:List Nat} (h:inL F l):inL F (bY l):=by
 intro x hx
 obtain ⟨i,hi⟩:=List.getElem?_of_mem hx
 have hc:=jL l i
 unfold cf at hc
 rw [List.getD_eq_getElem?_getD,hi,List.getD_eq_getElem?_getD] at hc
 cases hl:l[i]? with
 |none=>rw [hl] at hc;simp at hc;rw [hc];exact F.zlt
 |some y=>rw [hl] at hc;simp at hc;rw [hc];exact h y (List.mem_of_getElem? hl)
theorem pq {F:FO} {l:List Nat} (h:inL F l) (i:Nat):cf l i < F.q:=by
 unfold cf
 rw [List.getD_eq_getElem?_getD]
 cases hi:l[i]? with
 |none=>exact F.zlt
 |some c=>exact h c (List.mem_of_getElem? hi)
theorem eT {l:List Nat} {i:Nat} (h:i < l.length):l[i]?=some (cf l i):=by
 unfold cf
 rw [List.getD_eq_getElem?_getD,List.getElem?_eq_getElem h];rfl
theorem atg {l:List Nat} {n:Nat} (hn:n≤l.length) (hz:∀ i,n≤i→cf l i=0) (h:n=0∨cf l (n - 1)≠0):l.take n=bY l:=by
 have hcf:∀ i,cf (l.take n) i=cf l i:=by
  intro i
  by_cases hi:i < n
  ·unfold cf
   rw [List.getD_eq_getElem?_getD,List.getD_eq_getElem?_getD,List.getElem?_take_of_lt hi]
  ·rw [hz i (by omega),akr (by rw [List.length_take];omega)]
 refine adR (fun hne=>?_) (wo l) fun i=>by rw [hcf,jL]
 have hl:(l.take n).length=n:=by rw [List.length_take];omega
 rw [hl,hcf]
 rcases h with h | h
 ·exact absurd (List.length_eq_zero_iff.1 (by rw [hl,h])) hne
 ·exact h
-- shared
theorem ax7 {b:Nat} {xs:List Int} (hb:b≤62) (h:JI b xs=true):uj (xs.map Int.toNat) (ech (xs.map Int.toNat)):=by
 obtain ⟨ns,rfl,hlen,hn,he⟩:=ac5 h
 obtain ⟨E,_,h2⟩:=LY b hb ns b 0 [] ns (by omega) (Inv.start ns) (Nat.zero_le _) hlen hn (fun a ha=>by cases ha)
 rw [he,apT h2];exact h2
theorem atV (xs:List Int):(acd xs).length=(ech (xs.map Int.toNat)).length:=by unfold acd;rw [Gd]
theorem ai5:∀ (l:List (Nat×Nat)) (lo b:Nat),(l.Pairwise fun a b=>a.1 < b.1)→(∀ a∈l,lo≤a.1∧a.1 < b)→l.length≤b - lo:=by
 intro l
 induction l with
 |nil=>intro lo b _ _;exact Nat.zero_le _
 |cons a l ih =>
  intro lo b h hb
  obtain ⟨h1,h2⟩:=List.pairwise_cons.1 h
  have:=ih (a.1+1) b h2 fun x hx=>⟨h1 x hx,(hb x (.tail _ hx)).2⟩
  have h0:=hb a (.head _)
  simp only [List.length_cons]
  omega
-- shared
theorem aut {us:List Nat} {r:Nat} (h:r∈us):FO.EL us r:=by
 induction us with
 |nil=>cases h
 |cons u us ih =>
  rcases List.mem_cons.1 h with rfl | h
  ·exact ⟨true::List.replicate us.length false,by simp,by simp only [FO.om,cond_true];rw [FO.Zj,Nat.xor_zero]⟩
  ·obtain ⟨bs,h1,h2⟩:=ih h
   exact ⟨false::bs,by simp [h1],by simp only [FO.om,cond_false];rw [Nat.zero_xor];exact h2⟩
theorem awi {us:List Nat} {v:Nat} (h:Sp us v):FO.EL us v:=by
 induction h with
 |zero=>exact FO.EL.zero us
 |add hr _ ih=>exact (aut hr).add ih
theorem ayZ:∀ (bs:List Bool) (us:List Nat),Sp us (FO.om bs us):=by
 intro bs
 induction bs with
 |nil=>intro us;cases us <;> exact Sp.zero
 |cons b bs ih =>
  intro us
  cases us with
  |nil=>exact Sp.zero
  |cons u us =>
   have h:=Sp.trans (fun r hr=>Sp.mem (List.mem_cons_of_mem u hr)) (ih us)
   simp only [FO.om]
   cases b
   ·rw [cond_false,Nat.zero_xor];exact h
   ·rw [cond_true];exact (Sp.mem (List.mem_cons_self ..)).xor h
theorem arN {g:Nat} {a b:List Nat} (h:∀ v,Sp a v→Sp b v) {v:Nat} (hv:Sp (g::a) v):Sp (g::b) v:=by
 refine Sp.trans (fun r hr=>?_) hv
 rcases List.mem_cons.1 hr with rfl | hr
 ·exact Sp.mem (List.mem_cons_self ..)
 ·exact Sp.trans (fun r hr=>Sp.mem (List.mem_cons_of_mem _ hr)) (h r (Sp.mem hr))
theorem atI:∀ (pts:List Nat),¬ FO.yu pts→∃ pts':List Nat,pts'.length < pts.length∧∀ v,Sp pts v ↔ Sp pts' v:=by
 intro pts
 induction pts with
 |nil=>intro h;exact absurd (fun bs hl _ b hb=>by rw [List.length_eq_zero_iff.1 hl] at hb;cases hb) h
 |cons g gs ih =>
  intro h
  by_cases hg:Sp gs g
  ·exact ⟨gs,by simp,fun v=>⟨fun hv=>Sp.trans (fun r hr=>(List.mem_cons.1 hr).elim (fun e=>e ▸ hg) Sp.mem) hv,fun hv=>Sp.trans (fun r hr=>Sp.mem (List.mem_cons_of_mem _ hr)) hv⟩⟩
  ·have hgs:¬ FO.yu gs:=by
    intro hi
    apply h
    intro bs hl hs
    cases bs with
    |nil=>simp at hl
    |cons b bs =>
     simp only [List.length_cons,Nat.add_right_cancel_iff] at hl
     cases b with
     |false =>
      simp only [FO.om,cond_false] at hs
      rw [Nat.zero_xor] at hs
      intro b hb
      rcases List.mem_cons.1 hb with rfl | hb
      ·rfl
      ·exact hi bs hl hs b hb
     |true =>
      exfalso
      simp only [FO.om,cond_true] at hs
      apply hg
      have:g=FO.om bs gs:=by
       calc g=(g ^^^ FO.om bs gs) ^^^ FO.om bs gs:=by rw [Nat.xor_assoc,Nat.xor_self,Nat.xor_zero]
        _=FO.om bs gs:=by rw [hs,Nat.zero_xor]
      rw [this];exact ayZ bs gs
   obtain ⟨gs',h1,h2⟩:=ih hgs
   exact ⟨g::gs',by simp only [List.length_cons];omega,fun v=>⟨arN fun v=>(h2 v).1,arN fun v=>(h2 v).2⟩⟩
theorem auu {pts E:List Nat} (h:uj pts E) (hl:E.length=pts.length):FO.yu pts:=by
 apply Classical.byContradiction
 intro hn
 obtain ⟨pts',h1,h2⟩:=atI pts hn
 obtain ⟨P,c,hr,rfl,hs⟩:=h
 have h':uj pts' (P.map (·.2)):=⟨P,c,hr,rfl,fun v=>(h2 v).symm.trans (hs v)⟩
 have:=h'.le
 omega
theorem atW {E B:List Nat} (h:uj E B) {e:Nat} (he:e∈E):FO.EL B e:=by
 obtain ⟨P,c,hr,rfl,hs⟩:=h
 exact awi ((hs e).1 (Sp.mem he))
theorem awl (l:List Nat):aS l=up l:=rfl
theorem aag (l:List Nat):(aS l).map Int.toNat=l:=up_toNat l
theorem al4 {f:TF3} (hf:aN f=true) {L:List Nat} (h:inL (FOf f hf) L) (hl:L.length≤1000) {b:Nat} (hb:f.1.toNat≤b):JI b (aS L)=true:=by
 rw [awl]
 exact asL (by omega) fun n hn=>Nat.lt_of_lt_of_le (h n hn) (Nat.pow_le_pow_right (by decide) hb)
noncomputable def rkN (L:List Nat):Nat:=(ech L).length
theorem au2 (L:List Nat):(acd (aS L)).length=rkN L:=by rw [atV,aag];rfl
theorem aoK {f:TF3} (hf:aN f=true) {L:List Nat} (h:inL (FOf f hf) L) (hl:L.length≤1000):uj L (ech L):=by
 have h5:=(VJ hf).2
 have:=ax7 (b:=62) (by omega) (al4 hf h hl (by omega))
 rwa [aag] at this
-- shared
theorem apl {p q:List Nat} (h:∀ i,cf p i=cf q i):bY p=bY q:=adR (wo p) (wo q) fun i=>by rw [jL,jL,h]
theorem Ip {l:List Nat} {i:Nat} (h:(bY l).length≤i):cf l i=0:=by rw [← jL];exact akr h
theorem OT (l:List Nat):(bY l).length=0∨cf l ((bY l).length - 1)≠0:=by
 by_cases h:bY l=[]
 ·left;rw [h];rfl
 ·right;rw [← jL];exact wo l h
theorem abQ (l:List Nat):l.take (bY l).length=bY l:=atg (lg l) (fun _ hi=>Ip hi) (OT l)
theorem VP (l:List Nat) (n:Nat):aS (l.take n)=(aS l).take n:=by unfold aS;rw [List.map_take]
theorem vE (a b:List Nat):aS (a++b)=aS a++aS b:=by unfold aS;rw [List.map_append]
theorem CQ (n:Nat):aS (List.replicate n 0)=List.replicate n (0:Int):=by unfold aS;rw [List.map_replicate];rfl
theorem TU (l:List Nat) (i x:Nat):aS (l.set i x)=(aS l).set i (x:Int):=by unfold aS;rw [List.map_set]
theorem anf:∀ (B A:List Nat) (y:Nat),B.length < A.length→(jM A B)[B.length]?=some (cf A B.length)∧(jM A B).set B.length (cf A B.length ^^^ y)=jM A (B++[y]):=by
 intro B
 induction B with
 |nil =>
  intro A y h
  cases A with
  |nil=>simp at h
  |cons a A=>exact ⟨rfl,by simp only [List.nil_append,jM,List.length_nil,List.set_cons_zero,O5,agH]⟩
 |cons b B ih =>
  intro A y h
  cases A with
  |nil=>simp at h
  |cons a A =>
   obtain ⟨h1,h2⟩:=ih A y (by simpa using h)
   simp only [jM,List.length_cons,List.cons_append,List.getElem?_cons_succ,List.set_cons_succ,qJ]
   exact ⟨h1,by rw [h2]⟩
theorem aqI {A B:List Nat} (h:B.length≤A.length):(jM A B).length=A.length:=by rw [Nk];omega
theorem atz (i:Nat) (l:List Nat) (s:Nat):cf (List.replicate i 0++l) s=if i≤s then cf l (s - i) else 0:=by
 unfold cf
 rw [List.getD_eq_getElem?_getD,List.getD_eq_getElem?_getD]
 by_cases h:i≤s
 ·rw [if_pos h,List.getElem?_append_right (by rw [List.length_replicate];exact h),List.length_replicate]
 ·rw [if_neg h,List.getElem?_append_left (by rw [List.length_replicate];omega),List.getElem?_replicate,if_pos (by omega)];rfl
theorem ant (n i:Nat):cf (List.replicate n 0) i=0:=by
 unfold cf
 rw [List.getD_eq_getElem?_getD,List.getElem?_replicate]
 split <;> rfl
theorem ane (M:Nat) (P Q:List Nat):bY (jM (tY M P) Q)=bY (jM P Q):=apl fun i=>by rw [Du,Du,aqK]
namespace FO
variable (F : FO)
theorem apE:∀ (V:List Nat) (c:Nat) (x:Nat→Nat) (s:Nat),F.fB (V++[c]) x s=F.fB V x s ^^^ (if V.length≤s then F.mul c (F.sqn V.length (x (s - V.length))) else 0):=by
 intro V
 induction V with
 |nil =>
  intro c x s
  simp only [List.nil_append,fB,List.length_nil,Nat.zero_le,if_true,Nat.sub_zero,sqn]
  cases s <;> simp
 |cons v vs ih =>
  intro c x s
  simp only [List.cons_append,fB,List.length_cons]
  cases s with
  |zero=>simp
  |succ s =>
   simp only
   rw [ih]
   by_cases h:vs.length≤s
   ·rw [if_pos h,if_pos (by omega),show s+1 - (vs.length+1)=s - vs.length by omega]
    simp only [sqn]
    ac_rfl
   ·rw [if_neg h,if_neg (by omega),Nat.xor_zero,Nat.xor_zero]
def aaT (i c:Nat) (q:List Nat):List Nat:=q.map fun d=>F.mul c (F.sqn i d)
def Hz (p q:List Nat):Nat→List Nat
 |0=>List.replicate (p.length+q.length - 1) 0
 |i+1=>jM (Hz p q i) (List.replicate i 0++F.aaT i (cf p i) q)
theorem aoH (p q:List Nat) (hq:q≠[]):∀ i,i≤p.length→(F.Hz p q i).length=p.length+q.length - 1:=by
 have hl:0 < q.length:=List.length_pos_iff.2 hq
 intro i
 induction i with
 |zero=>intro _;exact List.length_replicate
 |succ i ih =>
  intro h
  unfold Hz
  rw [aqI (by rw [ih (by omega),List.length_append,List.length_replicate];unfold aaT;rw [List.length_map];omega),ih (by omega)]
theorem aww (p q:List Nat):∀ i,i≤p.length→∀ s,cf (F.Hz p q i) s=F.fB (p.take i) (cf q) s:=by
 intro i
 induction i with
 |zero=>intro _ s;unfold Hz;rw [ant];simp [fB]
 |succ i ih =>
  intro h s
  unfold Hz
  rw [Du,ih (by omega),List.take_add_one,eT (show i < p.length by omega),Option.toList_some,F.apE,List.length_take,Nat.min_eq_left (by omega),atz]
  unfold aaT
  rw [alH (by rw [F.apc,F.mul_zero])]
theorem ak3 (p q:List Nat):bY (F.Hz p q p.length)=bY (F.zN p q):=apl fun s=>by rw [F.aww p q _ (Nat.le_refl _),List.take_length,F.SF]
theorem arC (p q:List Nat):∀ i,inL F (F.Hz p q i):=by
 intro i
 induction i with
 |zero=>intro x hx;rw [(List.mem_replicate.1 hx).2];exact F.zlt
 |succ i ih =>
  unfold Hz
  refine F.agl ih fun x hx=>?_
  rcases List.mem_append.1 hx with hx | hx
  ·rw [(List.mem_replicate.1 hx).2];exact F.zlt
  ·obtain ⟨d,_,rfl⟩:=List.mem_map.1 hx
   exact F.lt _ _
end FO
-- shared
def XE (d k:Nat):Nat:=(d - k % d) % d
theorem avh {f:TF3} (hf:aN f=true) {x:Nat} (hx:x < (FOf f hf).q) (k:Nat):(FOf f hf).sqn k ((FOf f hf).sqn (XE f.1.toNat k) x)=x:=by
 have h3:1≤f.1.toNat:=by have:=nL hf;omega
 unfold XE
 rw [abL hf hx,← abL hf ((FOf f hf).Nh _ hx) k,← FO.agz]
 have hk:k % f.1.toNat < f.1.toNat:=Nat.mod_lt _ (by omega)
 rw [show f.1.toNat - k % f.1.toNat+k % f.1.toNat=f.1.toNat by omega]
 exact auf hf hx
def Im (l:List Nat):Prop:=l≠[]→cf l (l.length - 1)≠0
theorem wu (l:List Nat):Im (bY l):=wo l
theorem axd {l:List Nat} {n:Nat} (h:∀ i,n≤i→cf l i=0):(bY l).length≤n:=by
 apply Classical.byContradiction
 intro hn
 rcases OT l with h0 | h0
 ·omega
 ·exact h0 (h _ (by omega))
structure RI (F:FO) (N V A R:List Nat):Prop where
 ia:inL F A
 ir:inL F R
 ta:Im A
 tr:Im R
 eq:∀ i,cf N i=F.fB V (cf A) i ^^^ cf R i
def uK (k c:Nat):List Nat:=(List.replicate (k+1) 0).set k c
theorem V9 (k c:Nat):(uK k c).length=k+1:=by unfold uK;rw [List.length_set,List.length_replicate]
theorem aja (k c i:Nat):cf (uK k c) i=if k=i then c else 0:=by
 unfold uK cf
 rw [List.getD_eq_getElem?_getD,List.getElem?_set,List.length_replicate]
 by_cases h:k=i
 ·rw [if_pos h,if_pos h,if_pos (by omega)];rfl
 ·rw [if_neg h,if_neg h,List.getElem?_replicate];split <;> rfl
theorem VD {F:FO} {k c:Nat} (hc:c < F.q):inL F (uK k c):=by
 intro x hx
 rcases List.mem_or_eq_of_mem_set hx with hx | rfl
 ·rw [(List.mem_replicate.1 hx).2];exact F.zlt
 ·exact hc
theorem ahG {F:FO} (V m:List Nat):inL F (F.zN V m):=F.anv V m
theorem al3 {F:FO} {p q:List Nat} (hp:inL F p) (hq:inL F q):inL F (jM p q):=F.agl hp hq
theorem anC {f:TF3} (hf:aN f=true) {N V A R:List Nat} (hV:inL (FOf f hf) V) (h:RI (FOf f hf) N V A R) (hn:V≠[]) (hl:V.length≤R.length) {iv:Nat} (hiv:iv < (FOf f hf).q) (hinv:(FOf f hf).mul (cf V (V.length - 1)) iv=1) :
  let c:=(FOf f hf).sqn (XE f.1.toNat (V.length - 1)) ((FOf f hf).mul (cf R (R.length - 1)) iv)
  c < (FOf f hf).q∧RI (FOf f hf) N V (bY (jM A (uK (R.length - V.length) c))) (bY (jM R (bY ((FOf f hf).zN V (uK (R.length - V.length) c))))) ∧
  (bY (jM R (bY ((FOf f hf).zN V (uK (R.length - V.length) c))))).length < R.length:=by
 intro c
 have hvl:0 < V.length:=List.length_pos_iff.2 hn
 have hrl:=pq h.ir (R.length - 1)
 have hml:=(FOf f hf).lt (cf R (R.length - 1)) iv
 have hc:c < (FOf f hf).q:=(FOf f hf).Nh _ hml
 have hcf:∀ i,cf (jM R (bY ((FOf f hf).zN V (uK (R.length - V.length) c)))) i=cf R i ^^^ (FOf f hf).fB V (cf (uK (R.length - V.length) c)) i:=fun i=>by
  rw [Du,jL,FO.SF]
 refine ⟨hc,⟨vD (al3 h.ia (VD hc)),vD (al3 h.ir (vD (ahG _ _))),wu _,wu _,fun i=>?_⟩,?_⟩
 ·rw [jL,hcf,h.eq i,show cf (bY (jM A (uK (R.length - V.length) c)))=fun j=>cf A j ^^^ cf (uK (R.length - V.length) c) j from funext fun j=>by rw [jL,Du],FO.akt]
  generalize (FOf f hf).fB V (cf A) i=a
  generalize (FOf f hf).fB V (cf (uK (R.length - V.length) c)) i=t
  calc a ^^^ cf R i=(a ^^^ cf R i) ^^^ (t ^^^ t):=by rw [Nat.xor_self,Nat.xor_zero]
   _=(a ^^^ t) ^^^ (cf R i ^^^ t):=by ac_rfl
 ·have hlt:(bY (jM R (bY ((FOf f hf).zN V (uK (R.length - V.length) c))))).length≤R.length - 1:=by
   refine axd fun i hi=>?_
   rw [hcf]
   by_cases he:i=R.length - 1
   ·have htop:=(FOf f hf).aku V (V.length - 1) (cf (uK (R.length - V.length) c)) (R.length - V.length) (by omega) (fun i hi=>by rw [aja,if_neg (by omega)])
    rw [show V.length - 1+(R.length - V.length)=i by omega,aja,if_pos rfl] at htop
    rw [htop]
    show cf R i ^^^ (FOf f hf).mul (cf V (V.length - 1)) ((FOf f hf).sqn (V.length - 1) ((FOf f hf).sqn (XE f.1.toNat (V.length - 1)) ((FOf f hf).mul (cf R (R.length - 1)) iv)))=0
    rw [avh hf hml,FO.comm _ (cf R (R.length - 1)) iv,← FO.assoc,hinv,FO.comm,FO.one _ _ hrl,he,Nat.xor_self]
   ·rw [akr (by omega),FO.ab5 _ _ _ (R.length - V.length+1) _ (fun j hj=>by rw [aja,if_neg (by omega)]) (by omega)];rfl
  omega
theorem anu {F:FO}:∀ {V:List Nat} {x:Nat→Nat} {i:Nat},(∀ j,x j=0)→F.fB V x i=0:=by
 intro V
 induction V with
 |nil=>intro x i _;simp [FO.fB]
 |cons v vs ih =>
  intro x i h
  simp only [FO.fB]
  rw [h,F.mul_zero,Nat.zero_xor]
  cases i with
  |zero=>rfl
  |succ i=>exact ih fun j=>by rw [h,F.Ie]
theorem RI.uniq {F:FO} {N V A R m:List Nat} (h:RI F N V A R) (hV:inL F V) (hn:V≠[]) (ht:Im V) (hR:R.length < V.length) (hm:inL F m) (he:∀ i,cf N i=F.fB V (cf m) i):A=bY m∧R=[]:=by
 have h1:∀ i,F.fB V (cf (jM A m)) i=cf R i:=by
  intro i
  rw [show cf (jM A m)=fun j=>cf A j ^^^ cf m j from funext fun j=>Du A m j,F.akt,← he i,h.eq i]
  generalize F.fB V (cf A) i=a
  rw [← Nat.xor_assoc,Nat.xor_self,Nat.zero_xor]
 have h2:=F.atE hV (al3 h.ia hm) hn (ht hn) fun i hi=>by rw [h1];exact akr (by omega)
 have h3:∀ i,cf R i=0:=fun i=>by rw [← h1,anu];exact h2
 have h4:R=[]:=by
  apply Classical.byContradiction
  intro hne
  exact h.tr hne (h3 _)
 refine ⟨adR h.ta (wo m) fun i=>?_,h4⟩
 have:=h2 i
 rw [Du] at this
 rw [jL]
 calc cf A i=(cf A i ^^^ cf m i) ^^^ cf m i:=by rw [Nat.xor_assoc,Nat.xor_self,Nat.xor_zero]
  _=cf m i:=by rw [this,Nat.zero_xor]
-- shared
namespace FO
variable (F : FO)
theorem adZ:∀ (V V':List Nat) (x:Nat→Nat) (i:Nat),(∀ i,cf V i=cf V' i)→F.fB V x i=F.fB V' x i:=by
 have hz:∀ (V:List Nat) (x:Nat→Nat) (i:Nat),(∀ i,cf V i=0)→F.fB V x i=0:=by
  intro V
  induction V with
  |nil=>intro x i _;simp [fB]
  |cons v vs ih =>
   intro x i h
   have h0:=h 0
   rw [O5] at h0
   simp only [fB]
   rw [h0,F.zero_mul,Nat.zero_xor]
   cases i with
   |zero=>rfl
   |succ i=>exact ih _ i fun j=>by have:=h (j+1);rwa [qJ] at this
 intro V
 induction V with
 |nil=>intro V' x i h;rw [hz V' x i fun j=>(h j).symm.trans (Ai j)];simp [fB]
 |cons v vs ih =>
  intro V' x i h
  cases V' with
  |nil=>rw [hz (v::vs) x i fun j=>(h j).trans (Ai j)];simp [fB]
  |cons v' vs' =>
   have h0:=h 0
   rw [O5,O5] at h0
   simp only [fB]
   rw [h0]
   cases i with
   |zero=>rfl
   |succ i =>
    simp only
    rw [ih vs' (fun j=>F.sq (x j)) i fun j=>by have:=h (j+1);rwa [qJ,qJ] at this]
def Yo:List Nat→List Nat→Nat
 |a::u,b::v=>F.mul a b ^^^ Yo u v
 |_,_=>0
theorem atT:∀ (a c b d:List Nat),a.length=c.length→F.Yo (a++b) (c++d)=F.Yo a c ^^^ F.Yo b d:=by
 intro a
 induction a with
 |nil=>intro c b d h;have:c=[]:=List.length_eq_zero_iff.1 h.symm;subst this;simp [Yo]
 |cons x a ih =>
  intro c b d h
  cases c with
  |nil=>simp at h
  |cons y c=>simp only [List.cons_append,Yo];rw [ih c b d (by simpa using h),Nat.xor_assoc]
def Ah (n x:Nat):List Nat:=(List.range n).map fun j=>F.sqn j x
theorem BK (n x:Nat):(F.Ah n x).length=n:=by simp [Ah]
theorem as9 (n x:Nat):F.Ah (n+1) x=x::F.Ah n (F.sq x):=by
 unfold Ah
 rw [List.range_succ_eq_map,List.map_cons,List.map_map]
 rfl
theorem atU:∀ (p:List Nat) (x:Nat),F.Yo (F.Ah p.length x) p=F.lp p x:=by
 intro p
 induction p with
 |nil=>intro x;rfl
 |cons c p ih =>
  intro x
  rw [List.length_cons,as9]
  simp only [Yo,lp]
  rw [ih,F.comm]
def Am (pts w m:List Nat):List Nat:=(pts.zip w).map fun p=>p.2 ^^^ F.lp m p.1
theorem agn {pts w m:List Nat} (hw:inL F w):inL F (F.Am pts w m):=by
 intro e he
 obtain ⟨p,hp,rfl⟩:=List.mem_map.1 he
 have:=List.of_mem_zip (a:=p.1) (b:=p.2) hp
 exact F.xlt _ _ (hw _ this.2) (F.aom _ _)
theorem Nn {pts w m:List Nat} (h:w.length=pts.length):(F.Am pts w m).length=pts.length:=by
 unfold Am
 rw [List.length_map,List.length_zip,h,Nat.min_self]
theorem atH {pts w V N m us:List Nat} {k t:Nat} (hi:yu pts) (hp:inL F pts) (hl:w.length=pts.length) (hk:1≤k) (hm:m.length=k) (hmi:inL F m)
  (hV:V.length=t+1) (hN:N.length=t+k) (hNi:inL F N) (h2:2 * t+k≤pts.length) (hus:us.length≤t) (hsp:∀ e∈F.Am pts w m,EL us e) (ho:∀ p∈pts.zip w,F.lp V p.2=F.lp N p.1) :
  ∀ i,cf N i=F.fB V (cf m) i:=by
 have hmn:m≠[]:=by intro h;rw [h] at hm;simp at hm;omega
 have hVn:V≠[]:=by intro h;rw [h] at hV;simp at hV
 have hcl:=F.akv V m hVn hmn
 have hz:=F.auF (us:=us.map (F.lp V)) (gs:=pts) (p:=jM N (F.zN V m)) (by rw [Nk,List.length_map];omega) hp (F.agl hNi (F.anv V m)) hi (by
  intro g hg
  obtain ⟨j,hj⟩:=List.getElem?_of_mem hg
  have hjl:=(List.getElem?_eq_some_iff.1 hj).1
  have hwj:=List.getElem?_eq_getElem (show j < w.length by omega)
  have hz:(pts.zip w)[j]?=some (g,w[j]):=List.getElem?_zip_eq_some.2 ⟨hj,hwj⟩
  have hmem:=List.mem_of_getElem? hz
  have h1:=ho _ hmem
  have h3:=(hsp _ (List.mem_map.2 ⟨_,hmem,rfl⟩)).map (F.aq6 V) (F.aql V)
  rw [F.aq4,F.auD]
  dsimp only at h1 h3
  rw [F.aql,h1] at h3
  exact h3)
 intro i
 have:=arY hz i
 rw [Du,F.SF] at this
 calc cf N i=(cf N i ^^^ F.fB V (cf m) i) ^^^ F.fB V (cf m) i:=by rw [Nat.xor_assoc,Nat.xor_self,Nat.xor_zero]
  _=F.fB V (cf m) i:=by rw [this,Nat.zero_xor]
theorem avH {V N m:List Nat} (hVi:inL F V) (hmi:inL F m) (he:∀ i,cf N i=F.fB V (cf m) i) (hx:∃ c∈V++N,c≠0) :
  bY V≠[]∧∀ A R,RI F (bY N) (bY V) A R→R.length < (bY V).length→A=bY m∧R=[]:=by
 have he':∀ i,cf (bY N) i=F.fB (bY V) (cf m) i:=fun i=>by rw [jL,he,F.adZ V (bY V) _ _ fun j=>(jL V j).symm]
 have hn:bY V≠[]:=by
  intro h0
  obtain ⟨c,hc,hc0⟩:=hx
  have hV0:∀ i,cf V i=0:=fun i=>by rw [← jL,h0,Ai]
  have hN0:∀ i,cf N i=0:=fun i=>by rw [he,F.adZ V [] _ _ fun j=>by rw [hV0,Ai]];simp [fB]
  rcases List.mem_append.1 hc with hc | hc
  ·exact hc0 (aty hV0 c hc)
  ·exact hc0 (aty hN0 c hc)
 exact ⟨hn,fun A R h hR=>h.uniq (vD hVi) hn (wu V) hR hmi he'⟩
end FO
section
variable {f : TF3} (hf : aN f = true)
def Zp (pts w:List Nat) (k t:Nat) (m:List Nat):Prop:=m.length=k∧inL (FOf f hf) m∧rkN ((FOf f hf).Am pts w m)≤t
def aoM (t k g x:Nat):List Nat:=(FOf f hf).Ah (t+1) x++(FOf f hf).Ah (t+k) g
def Ol (t k:Nat) (pts w:List Nat):List (List Int):=(pts.zip w).map fun p=>aS (aoM hf t k p.1 p.2)
theorem agA (n:Nat) {x:Nat} (hx:x < (FOf f hf).q):inL (FOf f hf) ((FOf f hf).Ah n x):=by
 intro y hy
 obtain ⟨j,_,rfl⟩:=List.mem_map.1 hy
 exact (FOf f hf).Nh j hx
theorem aoN {t k:Nat} {pts w:List Nat} (hp:inL (FOf f hf) pts) (hw:inL (FOf f hf) w):GR f (2 * t+1+k) (Ol hf t k pts w):=by
 intro r hr
 obtain ⟨p,hp',rfl⟩:=List.mem_map.1 hr
 have:=List.of_mem_zip (a:=p.1) (b:=p.2) hp'
 refine ⟨?_,awk hf (aad (agA hf _ (hw _ this.2)) (agA hf _ (hp _ this.1)))⟩
 rw [aW]
 unfold aoM
 rw [List.length_append,FO.BK,FO.BK]
 omega
theorem ax6:∀ {a b:List Nat},inL (FOf f hf) a→inL (FOf f hf) b→lJ f (aS a) (aS b)=(((FOf f hf).Yo a b:Nat):Int)∧(FOf f hf).Yo a b < (FOf f hf).q:=by
 intro a
 induction a with
 |nil=>intro b _ _;exact ⟨by simp [aS,lJ,FO.Yo],by simp only [FO.Yo];exact FO.zlt _⟩
 |cons x a ih =>
  intro b ha hb
  cases b with
  |nil=>exact ⟨by simp [aS,lJ,FO.Yo],by simp only [FO.Yo];exact FO.zlt _⟩
  |cons y b =>
   obtain ⟨h1,h2⟩:=ih (b:=b) (fun z hz=>ha z (List.mem_cons_of_mem _ hz)) (fun z hz=>hb z (List.mem_cons_of_mem _ hz))
   have hx:=ha x (List.mem_cons_self ..)
   have hy:=hb y (List.mem_cons_self ..)
   refine ⟨?_,(FOf f hf).xlt _ _ ((FOf f hf).lt _ _) h2⟩
   show jI .i64 (gu f (x:Int) (y:Int)) (lJ f (aS a) (aS b))=_
   rw [h1,amj hf hx hy,Zl hf ((FOf f hf).lt _ _) h2]
   rfl
theorem akT {t k:Nat} {pts w:List Nat} (hp:inL (FOf f hf) pts) (hw:inL (FOf f hf) w) {x:List Int} (h:alu f (2 * t+1+k) (Ol hf t k pts w) x) :
  ∃ V N,x=aS (V++N)∧V.length=t+1∧N.length=t+k∧inL (FOf f hf) V∧inL (FOf f hf) N∧(∃ c∈V++N,c≠0)∧∀ p∈pts.zip w,(FOf f hf).lp V p.2=(FOf f hf).lp N p.1:=by
 obtain ⟨⟨hl,hin⟩,⟨q,hq⟩,ho⟩:=h
 obtain ⟨X,rfl,hX⟩:=agt hf hin
 rw [aW] at hl
 have hsp:X.take (t+1)++X.drop (t+1)=X:=List.take_append_drop _ _
 have h1:(X.take (t+1)).length=t+1:=by rw [List.length_take];omega
 have h2:(X.drop (t+1)).length=t+k:=by rw [List.length_drop];omega
 have hVi:inL (FOf f hf) (X.take (t+1)):=fun y hy=>hX y (List.mem_of_mem_take hy)
 have hNi:inL (FOf f hf) (X.drop (t+1)):=fun y hy=>hX y (List.mem_of_mem_drop hy)
 refine ⟨X.take (t+1),X.drop (t+1),by rw [hsp],h1,h2,hVi,hNi,?_,fun p hp'=>?_⟩
 ·rw [hsp]
  rw [List.getD_eq_getElem?_getD] at hq
  cases hx:(aS X)[q]? with
  |none=>rw [hx] at hq;exact absurd rfl hq
  |some y =>
   rw [hx] at hq
   obtain ⟨c,hc,rfl⟩:=List.mem_map.1 (List.mem_of_getElem? hx)
   exact ⟨c,hc,fun h0=>hq (by rw [h0];rfl)⟩
 ·have hz:=List.of_mem_zip (a:=p.1) (b:=p.2) hp'
  have hd:=ho _ (List.mem_map.2 ⟨p,hp',rfl⟩)
  have hri:inL (FOf f hf) (aoM hf t k p.1 p.2):=aad (agA hf _ (hw _ hz.2)) (agA hf _ (hp _ hz.1))
  rw [(ax6 hf hri hX).1] at hd
  have hd:(FOf f hf).Yo (aoM hf t k p.1 p.2) X=0:=by omega
  rw [← hsp] at hd
  unfold aoM at hd
  rw [FO.atT _ _ _ _ _ (by rw [FO.BK,h1])] at hd
  have e1:=(FOf f hf).atU (X.take (t+1)) p.2
  have e2:=(FOf f hf).atU (X.drop (t+1)) p.1
  rw [h1] at e1
  rw [h2] at e2
  rw [e1,e2] at hd
  calc (FOf f hf).lp (X.take (t+1)) p.2=((FOf f hf).lp (X.take (t+1)) p.2 ^^^ (FOf f hf).lp (X.drop (t+1)) p.1) ^^^ (FOf f hf).lp (X.drop (t+1)) p.1:=by rw [Nat.xor_assoc,Nat.xor_self,Nat.xor_zero]
   _=(FOf f hf).lp (X.drop (t+1)) p.1:=by rw [hd,Nat.zero_xor]
theorem aqN {t k:Nat} {pts w V N m:List Nat} (hi:FO.yu pts) (hp:inL (FOf f hf) pts) (hw:inL (FOf f hf) w) (hl:w.length=pts.length) (hpl:pts.length≤1000) (hk:1≤k) (h2:2 * t+k≤pts.length) (hm:Zp hf pts w k t m)
  (hV:V.length=t+1) (hN:N.length=t+k) (hVi:inL (FOf f hf) V) (hNi:inL (FOf f hf) N) (hx:∃ c∈V++N,c≠0) (ho:∀ p∈pts.zip w,(FOf f hf).lp V p.2=(FOf f hf).lp N p.1) :
  bY V≠[]∧∀ A R,RI (FOf f hf) (bY N) (bY V) A R→R.length < (bY V).length→A=bY m∧R=[]:=by
 obtain ⟨hm1,hm2,hm3⟩:=hm
 have hE:=aoK hf ((FOf f hf).agn (pts:=pts) (m:=m) hw) (by rw [FO.Nn _ hl];exact hpl)
 exact (FOf f hf).avH hVi hm2 ((FOf f hf).atH hi hp hl hk hm1 hm2 hV hN hNi h2 hm3 (fun e he=>atW hE he) ho) hx
end
-- shared
noncomputable def afw (g:TF3×List Int×Int×Unit):Bool:=aN g.1&&(inR (g.2.1.length:Int) 1 5&&(oN g.1 g.2.1&&(decide (((acd g.2.1).length:Int)=(g.2.1.length:Int))&&inR g.2.2.1 1 (g.2.1.length:Int))))
theorem ace {f:TF3} {c:List Int} (h:oN f c=true):∀ x∈c,inF f x:=by
 intro x hx
 have:=kP.1 (List.all_eq_true.1 h x hx)
 unfold Xa at this
 have h2:((2 ^ f.1.toNat:Nat):Int)=(2:Int) ^ f.1.toNat:=by rw [Int.natCast_pow];rfl
 exact ⟨this.1,by omega⟩
theorem ap0 {g:TF3×List Int×Int×Unit} (h:afw g=true):∃ (hf:aN g.1=true) (P:List Nat) (k:Nat),g=(g.1,aS P,(k:Int),())∧inL (FOf g.1 hf) P∧FO.yu P∧P.length≤5∧1≤k∧k≤P.length:=by
 unfold afw at h
 simp only [Bool.and_eq_true,kP,decide_eq_true_eq] at h
 obtain ⟨hf,hl,he,hr,hk⟩:=h
 obtain ⟨P,hP,hPi⟩:=agt hf (ace he)
 have hlen:g.2.1.length=P.length:=by rw [hP,aW]
 refine ⟨hf,P,g.2.2.1.toNat,?_,hPi,?_,by omega,by omega,by omega⟩
 ·rw [← hP,show ((g.2.2.1.toNat:Nat):Int)=g.2.2.1 by omega]
 ·rw [hP,au2,aW] at hr
  exact auu (aoK hf hPi (by omega)) (by unfold rkN at hr;omega)
noncomputable def Gg (g:TF3×List Int×Int×Unit) (w:List Int):Int:=if afw g=true then (if w.length=g.2.1.length∧oN g.1 w=true then 0 else 2) else 1
theorem aul {g:TF3×List Int×Int×Unit} {w:List Int} (h:Gg g w=0):afw g=true∧w.length=g.2.1.length∧oN g.1 w=true:=by
 unfold Gg at h
 split at h
 ·rename_i h1
  split at h
  ·rename_i h2;exact ⟨h1,h2.1,h2.2⟩
  ·cases h
 ·cases h
noncomputable def Kl (p0:(List Int)) (p1:aK):Tre Int :=
 .mat (BG p1) fun r1 =>
 .cond (!r1)
  (.ret 1)
  (.cond (!decide ((p0.length:Int)=(p1.2.1.length:Int)))
   (.ret 2)
   (.mat (sD p1.1 p0) fun r2 =>
   .cond (!r2)
    (.ret 2)
    (.ret 0)))
noncomputable def wW (p0:(List Int)) (p1:aK):Option Int:=(Kl p0 p1).run some
-- more
theorem anJ {f:TF3} (hf:aN f=true) {c:List Int} (h:oN f c=true) (hl:c.length≤1000) {b:Nat} (hb:f.1.toNat≤b):JI b c=true:=by
 obtain ⟨L,rfl,hL⟩:=agt hf (ace h)
 rw [aW] at hl
 exact al4 hf hL hl hb
theorem awG (g:TF3×List Int×Int×Unit):BG g=some (afw g):=by
 unfold BG Qn afw
 rw [ah (aiA g.1),Tre.aG]
 cases hf:aN g.1
 ·rfl
 have hd:=nL hf
 have hw:Mr g.1 g.2.1=some (inR (g.2.1.length:Int) 1 5&&oN g.1 g.2.1):=by
  unfold Mr adG
  dsimp only
  rw [Tre.aG]
  cases hi:inR (g.2.1.length:Int) 1 5
  ·rfl
  ·have:=kP.1 hi
   rw [cond_true,ah (OB hf g.2.1 (by omega)),Tre.aL,Bool.true_and]
 rw [cond_true,ah hw,Tre.aG,Bool.true_and]
 cases hi:inR (g.2.1.length:Int) 1 5
 ·rfl
 have hl:=kP.1 hi
 rw [Bool.true_and,Bool.true_and]
 cases he:oN g.1 g.2.1
 ·rfl
 rw [cond_true,Bool.true_and,ah (show ak7 g.1.1 g.2.1=some _ from o9 (by rw [Bool.and_eq_true];exact ⟨kP.2 (by omega),anJ hf he (by omega) (Nat.le_refl _)⟩)),Tre.aG]
 cases decide (((acd g.2.1).length:Int)=(g.2.1.length:Int))
 ·rfl
 ·rfl
theorem ava (g:TF3×List Int×Int×Unit) (w:List Int) (hw:w.length≤1048576):wW w g=some (Gg g w):=by
 unfold wW Kl Gg
 rw [ah (awG g),Tre.aG]
 cases hg:afw g
 ·rfl
 ·have hf:aN g.1=true:=by unfold afw at hg;simp only [Bool.and_eq_true] at hg;exact hg.1
  rw [Bool.not_true,cond_false,if_pos rfl,Tre.aG]
  by_cases h1:w.length=g.2.1.length
  ·rw [decide_eq_true (by omega),Bool.not_true,cond_false,ah (OB hf w (by omega)),Tre.aG]
   cases he:oN g.1 w
   ·rw [if_neg (by simp)];rfl
   ·rw [if_pos ⟨h1,rfl⟩];rfl
  ·rw [decide_eq_false (by omega),Bool.not_false,cond_true,if_neg fun h=>h1 h.1];rfl
noncomputable def Dl:Env:=⟨tau,[(53,Vw),(54,F5)],[]⟩
noncomputable def OH:Code:=(Tryz.f28.body).getD .skip
noncomputable def OG:FnI:=⟨OH,Tryz.f28.results.toList,Tryz.f28.resultTypes.toList,[]⟩
noncomputable def Km (_zp0:Bool) (zp1:Bool) (_p0:(List Int)) (p1:aK):Int→aB:=fun r=>⟨(.imm true (.int .i64) r),[⟨true,aV,(.imm zp1),p1⟩],[]⟩
theorem aby:∀ (zp0:Bool) (zp1:Bool) (p0:(List Int)) (p1:aK),bQ Dl OG ⟨[(.ptr (0,0) []),(.imm zp0 (.sl (.int .i64)) p0)],[⟨true,aV,(.imm zp1),p1⟩]⟩=(Kl p0 p1).run fun r=>some (Km zp0 zp1 p0 p1 r):=fun _ _ _ _=>by kernel_rfl
noncomputable def OE (av:List AV) (rs:List Root):Tre aB :=
 aJ av fun a0_ av0 =>
 aJ av0 fun a1_ av1 =>
 aU av1 <|
 aJ rs fun r0_ rs0 =>
 aU rs0 <|
 dW (0,0) [] a0_ <|
 bH (.sl (.int .i64)) a1_ fun z2 d1 =>
 Io true aV r0_ fun m3 d4 =>
 uQ m3 fun z5 =>
 .mat (wW d1 d4) fun r=>.ret (Km z2 z5 d1 d4 r)
noncomputable def OI:Ctr:=⟨[],fun ci=>OE ci.args ci.roots,false⟩
theorem Zc:bP Tryz.prog .none Dl:=(aA agh azx (aA OC axq aP))
theorem abz:Contract Tryz.prog .none 28 OI:=by
 have hl:aZ Dl [] OH:=bB (by kernel_rfl)
 refine (aI (F:=OG) bn Zc Tryz.func28 (by kernel_rfl) (by kernel_rfl) (by kernel_rfl) hl []).weaken ?_
 rintro ⟨av,rs⟩ co h
 have h:(OE av rs).run some=some co:=h
 obtain ⟨a0_,av0,rfl,h_0⟩:=au h
 obtain ⟨a1_,av1,rfl,h_1⟩:=au h_0
 obtain ⟨rfl,h_2⟩:=ay h_1
 obtain ⟨r0_,rs0,rfl,h_3⟩:=au h_2
 obtain ⟨rfl,h_4⟩:=ay h_3
 obtain ⟨rfl,h_5⟩:=bI h_4
 obtain ⟨z2,d1,rfl,h_6⟩:=aF h_5
 obtain ⟨m3,d4,rfl,h_7⟩:=eX h_6
 obtain ⟨z5,rfl,h_8⟩:=fG h_7
 exact bK (aby z2 z5 d1 d4) h_8
noncomputable def afi (p0:Int) (p1:Int):Tre Int :=
 let v1:=aO .i64 (Int.tdiv (aO .i64 (p0 - p1)) 2)
 .ret v1
noncomputable def aj9 (p0:Int) (p1:Int):Option Int:=(afi p0 p1).run some
def yK (p0:Int) (p1:Int):Int :=
 let v1:=aO .i64 (Int.tdiv (aO .i64 (p0 - p1)) 2)
 v1
theorem adM (p0:Int) (p1:Int):aj9 p0 p1=some (yK p0 p1):=rfl
noncomputable def Nf:Env:=⟨tau,[],[]⟩
noncomputable def X8:Code:=(Tryz.f55.body).getD .skip
noncomputable def X7:FnI:=⟨X8,Tryz.f55.results.toList,Tryz.f55.resultTypes.toList,[]⟩
noncomputable def RG (_p0:Int) (_p1:Int):Int→aB:=fun r=>⟨(.imm true (.int .i64) r),[],[]⟩
theorem aiY:∀ (p0:Int) (p1:Int),bQ Nf X7 ⟨[(.imm true (.int .i64) p0),(.imm true (.int .i64) p1)],[]⟩=(afi p0 p1).run fun r=>some (RG p0 p1 r):=fun _ _=>by kernel_rfl
noncomputable def X6 (av:List AV) (rs:List Root):Tre aB :=
 aJ av fun a0_ av0 =>
 aJ av0 fun a1_ av1 =>
 aU av1 <|
 aU rs <|
 aC true (.int .i64) a0_ fun d1 =>
 aC true (.int .i64) a1_ fun d2 =>
 .ret (RG d1 d2 (yK d1 d2))
noncomputable def X9:Ctr:=⟨[],fun ci=>X6 ci.args ci.roots,false⟩
theorem agi:bP Tryz.prog .none Nf:=aP
theorem aiZ:Contract Tryz.prog .none 55 X9:=by
 have hl:aZ Nf [] X8:=bB (by kernel_rfl)
 refine (aI (F:=X7) bn agi Tryz.func55 (by kernel_rfl) (by kernel_rfl) (by kernel_rfl) hl []).weaken ?_
 rintro ⟨av,rs⟩ co h
 have h:(X6 av rs).run some=some co:=h
 obtain ⟨a0_,av0,rfl,h_0⟩:=au h
 obtain ⟨a1_,av1,rfl,h_1⟩:=au h_0
 obtain ⟨rfl,h_2⟩:=ay h_1
 obtain ⟨rfl,h_3⟩:=ay h_2
 obtain ⟨d1,rfl,h_4⟩:=ak h_3
 obtain ⟨d2,rfl,h_5⟩:=ak h_4
 exact wE (aiY d1 d2) (adM d1 d2) h_5
noncomputable def LM (h3_0_0:Int) (h3_0_1:Int) (h3_0_4:(Int×(Int×Unit))):(Int×Int)→Tre ((Int×Int) ⊕ Int):=fun s3 =>
 .cond (decide (s3.2 < h3_0_4.1))
  (.ite (0≤aO .u64 s3.2) <|
  let v1:=YM .i64 h3_0_1 (aO .u64 s3.2)
  .cond (decide (afK .i64 v1 1=1))
   (.ite (0≤aO .u64 s3.2) <|
   let v2:=acG .i64 h3_0_0 (aO .u64 s3.2)
   .ret (.inl (jI .i64 s3.1 v2,aO .i64 (s3.2+1))))
   (.ret (.inl (s3.1,aO .i64 (s3.2+1)))))
  (.ret (.inr s3.1))
noncomputable def aoV (p0:(Int×(Int×Unit))) (p1:Int) (p2:Int):Tre Int :=
 .mat (aR (LM p1 p2 p0) (0,0)) fun l3 =>
 .mat (UO l3 p0.2.1) fun r4 =>
 .ret r4
noncomputable def dH (p0:(Int×(Int×Unit))) (p1:Int) (p2:Int):Option Int:=(aoV p0 p1 p2).run some
-- more
set_option maxRecDepth 100000
theorem ay3:Ak dH mulN 1 2=true:=by kernel_rfl
theorem ay4:Ak dH mulN 1 3=true:=by kernel_rfl
theorem ay5:Ak dH mulN 2 7=true:=by kernel_rfl
theorem awV:Ak dH mulN 3 11=true:=by kernel_rfl
theorem awW:Ak dH mulN 3 13=true:=by kernel_rfl
theorem awX:Ak dH mulN 4 19=true:=by kernel_rfl
theorem awY:Ak dH mulN 4 25=true:=by kernel_rfl
theorem awZ:Ak dH mulN 4 31=true:=by kernel_rfl
theorem aw0:Ak dH mulN 5 37=true:=by kernel_rfl
theorem aw1:Ak dH mulN 5 41=true:=by kernel_rfl
theorem aw2:Ak dH mulN 5 47=true:=by kernel_rfl
theorem aw3:Ak dH mulN 5 55=true:=by kernel_rfl
theorem aw4:Ak dH mulN 5 59=true:=by kernel_rfl
theorem aw5:Ak dH mulN 5 61=true:=by kernel_rfl
theorem arM {f:TF3} (hf:aN f=true) {a b:Int} (ha:inF f a) (hb:inF f b):dH f a b=some (gu f a b):=by
 refine avt (fun q hq=>?_) hf ha hb
 simp only [ji,List.mem_cons,List.not_mem_nil,or_false] at hq
 rcases hq with rfl | rfl | rfl | rfl | rfl | rfl | rfl | rfl | rfl | rfl | rfl | rfl | rfl | rfl
 ·exact ay3
 ·exact ay4
 ·exact ay5
 ·exact awV
 ·exact awW
 ·exact awX
 ·exact awY
 ·exact awZ
 ·exact aw0
 ·exact aw1
 ·exact aw2
 ·exact aw3
 ·exact aw4
 ·exact aw5
noncomputable def JZ:Env:=⟨tau,[(103,UQ)],[]⟩
noncomputable def Qc:Code:=(Tryz.f68.body).getD .skip
noncomputable def J2 (h3_0_0:Int) (h3_0_1:Int) (h3_0_4:(Int×(Int×Unit))):(Int×Int)→St:=fun x=>bR [(1,(.imm true (.int .i64) h3_0_0)),(2,(.imm true (.int .i64) h3_0_1)),(3,(.ptr (5,0) [])),(7,(.imm true (.int .i64) x.1)),(8,(.imm true (.int .i64) x.2))] [((5,0),some ⟨true,aM,.own,h3_0_4⟩)]
noncomputable def FQ (_h3_0_0:Int) (_h3_0_1:Int) (h3_0_4:(Int×(Int×Unit))):Int→Ex×St:=fun x=>(.exit 0,bR [(3,(.ptr (5,0) [])),(7,(.imm true (.int .i64) x))] [((5,0),some ⟨true,aM,.own,h3_0_4⟩)])
noncomputable def XK (s:St):Tre (Ex×St) :=
 aC true (.int .i64) (s.tmps 1) fun d2 =>
 aC true (.int .i64) (s.tmps 2) fun d4 =>
 dW (5,0) [] (s.tmps 3) <|
 aC true (.int .i64) (s.tmps 7) fun d7 =>
 aC true (.int .i64) (s.tmps 8) fun d9 =>
 bD true aM (s.roots (5,0)) fun m11 d12 =>
 asM .own m11 <|
 .mat (aR (LM d2 d4 d12) (d7,d9)) fun x=>.ret (FQ d2 d4 d12 x)
noncomputable def sU:bJ:=⟨([1,2,3,7,8],[(5,0)]),([3,7],[(5,0)]),XK⟩
noncomputable def Qb:List (Nat×bJ):=[(3,sU)]
theorem adj:∀ (h3_0_0:Int) (h3_0_1:Int) (h3_0_4:(Int×(Int×Unit))) (x:(Int×Int)) (c:St→Option (Ex×St)),den JZ Qb (aY Qc 0) (J2 h3_0_0 h3_0_1 h3_0_4 x) (bV sU.kp sU.kx c)=(LM h3_0_0 h3_0_1 h3_0_4 x).run (bW (J2 h3_0_0 h3_0_1 h3_0_4) (FQ h3_0_0 h3_0_1 h3_0_4) c):=fun _ _ _ _ _=>by
 kernel_rfl
theorem aiz:bS JZ Qb (aY Qc 0) sU:=bA fun s e s' h=>by
 generalize hs:restrict sU.kp s=s1 at h
 have h:(XK s1).run some=some (e,s'):=h
 obtain ⟨d2,e1,h_0⟩:=ak h
 obtain ⟨d4,e3,h_1⟩:=ak h_0
 obtain ⟨e5,h_2⟩:=bI h_1
 obtain ⟨d7,e6,h_3⟩:=ak h_2
 obtain ⟨d9,e8,h_4⟩:=ak h_3
 obtain ⟨m11,d12,e10,h_5⟩:=aH h_4
 obtain ⟨rfl,h_6⟩:=aQ h_5
 obtain ⟨y,hy,hz⟩:=bT h_6
 refine ⟨_,_,J2 d2 d4 d12,FQ d2 d4 d12,LM d2 d4 d12,(d7,d9),y,?_,hy,?_,adj d2 d4 d12⟩
 ·subst hs;exact aT (T:=[(1,(.imm true (.int .i64) d2)),(2,(.imm true (.int .i64) d4)),(3,(.ptr (5,0) [])),(7,(.imm true (.int .i64) d7)),(8,(.imm true (.int .i64) d9))]) (U:=[((5,0),some ⟨true,aM,.own,d12⟩)]) rfl rfl ⟨e1,e3,e5,e6,e8,trivial⟩ ⟨e10,trivial⟩
 ·exact Option.some.inj hz
noncomputable def aiy:FnI:=⟨Qc,Tryz.f68.results.toList,Tryz.f68.resultTypes.toList,Qb⟩
noncomputable def aa3 (_p0:(Int×(Int×Unit))) (_p1:Int) (_p2:Int):Int→aB:=fun r=>⟨(.imm true (.int .i64) r),[],[]⟩
theorem aoW:∀ (p0:(Int×(Int×Unit))) (p1:Int) (p2:Int),bQ JZ aiy ⟨[(.imm true aM p0),(.imm true (.int .i64) p1),(.imm true (.int .i64) p2)],[]⟩=(aoV p0 p1 p2).run fun r=>some (aa3 p0 p1 p2 r):=fun _ _ _=>by kernel_rfl
noncomputable def aix (av:List AV) (rs:List Root):Tre aB :=
 aJ av fun a0_ av0 =>
 aJ av0 fun a1_ av1 =>
 aJ av1 fun a2_ av2 =>
 aU av2 <|
 aU rs <|
 aC true aM a0_ fun d1 =>
 aC true (.int .i64) a1_ fun d2 =>
 aC true (.int .i64) a2_ fun d3 =>
 .mat (dH d1 d2 d3) fun r=>.ret (aa3 d1 d2 d3 r)
noncomputable def vQ:Ctr:=⟨[],fun ci=>aix ci.args ci.roots,false⟩
theorem amy:bP Tryz.prog .none JZ:=(aA aa9 atX aP)
theorem vR:Contract Tryz.prog .none 68 vQ:=by
 have hl:aZ JZ Qb Qc:=(bC (n:=1) (by kernel_rfl) fun k hk=>by
   match k,hk with
   |0,_=>exact bq (id:=3) (L:=sU) (by kernel_rfl) (by kernel_rfl) aiz)
 refine (aI (F:=aiy) bn amy Tryz.func68 (by kernel_rfl) (by kernel_rfl) (by kernel_rfl) hl []).weaken ?_
 rintro ⟨av,rs⟩ co h
 have h:(aix av rs).run some=some co:=h
 obtain ⟨a0_,av0,rfl,h_0⟩:=au h
 obtain ⟨a1_,av1,rfl,h_1⟩:=au h_0
 obtain ⟨a2_,av2,rfl,h_2⟩:=au h_1
 obtain ⟨rfl,h_3⟩:=ay h_2
 obtain ⟨rfl,h_4⟩:=ay h_3
 obtain ⟨d1,rfl,h_5⟩:=ak h_4
 obtain ⟨d2,rfl,h_6⟩:=ak h_5
 obtain ⟨d3,rfl,h_7⟩:=ak h_6
 exact bK (aoW d1 d2 d3) h_7
noncomputable def Hl:(Int×Int×Int)→Tre ((Int×Int×Int) ⊕ Int):=fun s2 =>
 .cond (decide (s2.2.1 > 0))
  (.cond (decide (afK .i64 s2.2.1 1=1))
   (.ret (.inl (acG .i64 s2.1 1,YM .i64 s2.2.1 1,jI .i64 s2.2.2 s2.1)))
   (.ret (.inl (acG .i64 s2.1 1,YM .i64 s2.2.1 1,s2.2.2))))
  (.ret (.inr s2.2.2))
noncomputable def akK (p0:Int) (p1:Int):Tre Int :=
 .mat (aR Hl (p0,p1,0)) fun l1 =>
 .ret l1
noncomputable def aeb (p0:Int) (p1:Int):Option Int:=(akK p0 p1).run some
noncomputable def EJ:Env:=⟨tau,[],[]⟩
noncomputable def Li:Code:=(Tryz.f112.body).getD .skip
noncomputable def Fz:(Int×Int×Int)→St:=fun x=>bR [(0,(.imm true (.int .i64) x.1)),(1,(.imm true (.int .i64) x.2.1)),(5,(.imm true (.int .i64) x.2.2))] []
noncomputable def CO:Int→Ex×St:=fun x=>(.exit 0,bR [(5,(.imm true (.int .i64) x))] [])
noncomputable def TL (s:St):Tre (Ex×St) :=
 aC true (.int .i64) (s.tmps 0) fun d2 =>
 aC true (.int .i64) (s.tmps 1) fun d4 =>
 aC true (.int .i64) (s.tmps 5) fun d6 =>
 .mat (aR Hl (d2,d4,d6)) fun x=>.ret (CO x)
noncomputable def pV:bJ:=⟨([0,1,5],[]),([5],[]),TL⟩
noncomputable def Lh:List (Nat×bJ):=[(2,pV)]
theorem ZX:∀ (x:(Int×Int×Int)) (c:St→Option (Ex×St)),den EJ Lh (aY Li 0) (Fz x) (bV pV.kp pV.kx c)=(Hl x).run (bW (Fz) (CO) c):=fun _ _=>by
 kernel_rfl
theorem afG:bS EJ Lh (aY Li 0) pV:=bA fun s e s' h=>by
 generalize hs:restrict pV.kp s=s1 at h
 have h:(TL s1).run some=some (e,s'):=h
 obtain ⟨d2,e1,h_0⟩:=ak h
 obtain ⟨d4,e3,h_1⟩:=ak h_0
 obtain ⟨d6,e5,h_2⟩:=ak h_1
 obtain ⟨y,hy,hz⟩:=bT h_2
 refine ⟨_,_,Fz,CO,Hl,(d2,d4,d6),y,?_,hy,?_,ZX⟩
 ·subst hs;exact aT (T:=[(0,(.imm true (.int .i64) d2)),(1,(.imm true (.int .i64) d4)),(5,(.imm true (.int .i64) d6))]) (U:=[]) rfl rfl ⟨e1,e3,e5,trivial⟩ trivial
 ·exact Option.some.inj hz
noncomputable def aed:FnI:=⟨Li,Tryz.f112.results.toList,Tryz.f112.resultTypes.toList,Lh⟩
noncomputable def Xn (_p0:Int) (_p1:Int):Int→aB:=fun r=>⟨(.imm true (.int .i64) r),[],[]⟩
theorem alT:∀ (p0:Int) (p1:Int),bQ EJ aed ⟨[(.imm true (.int .i64) p0),(.imm true (.int .i64) p1)],[]⟩=(akK p0 p1).run fun r=>some (Xn p0 p1 r):=fun _ _=>by kernel_rfl
noncomputable def aec (av:List AV) (rs:List Root):Tre aB :=
 aJ av fun a0_ av0 =>
 aJ av0 fun a1_ av1 =>
 aU av1 <|
 aU rs <|
 aC true (.int .i64) a0_ fun d1 =>
 aC true (.int .i64) a1_ fun d2 =>
 .mat (aeb d1 d2) fun r=>.ret (Xn d1 d2 r)
noncomputable def aee:Ctr:=⟨[],fun ci=>aec ci.args ci.roots,false⟩
theorem ajA:bP Tryz.prog .none EJ:=aP
theorem alU:Contract Tryz.prog .none 112 aee:=by
 have hl:aZ EJ Lh Li:=(bC (n:=1) (by kernel_rfl) fun k hk=>by
   match k,hk with
   |0,_=>exact bq (id:=2) (L:=pV) (by kernel_rfl) (by kernel_rfl) afG)
 refine (aI (F:=aed) bn ajA Tryz.func112 (by kernel_rfl) (by kernel_rfl) (by kernel_rfl) hl []).weaken ?_
 rintro ⟨av,rs⟩ co h
 have h:(aec av rs).run some=some co:=h
 obtain ⟨a0_,av0,rfl,h_0⟩:=au h
 obtain ⟨a1_,av1,rfl,h_1⟩:=au h_0
 obtain ⟨rfl,h_2⟩:=ay h_1
 obtain ⟨rfl,h_3⟩:=ay h_2
 obtain ⟨d1,rfl,h_4⟩:=ak h_3
 obtain ⟨d2,rfl,h_5⟩:=ak h_4
 exact bK (alT d1 d2) h_5
noncomputable def Dw:(Int×Int)→Tre ((Int×Int) ⊕ Int):=fun s2 =>
 .cond (decide (s2.1 > 0))
  (.ret (.inl (YM .i64 s2.1 1,aO .i64 (s2.2+1))))
  (.ret (.inr s2.2))
noncomputable def ahh (p0:Int):Tre Int :=
 .mat (aR Dw (p0,-1)) fun l1 =>
 .ret l1
noncomputable def q8 (p0:Int):Option Int:=(ahh p0).run some
noncomputable def AJ:Env:=⟨tau,[],[]⟩
noncomputable def Hf:Code:=(Tryz.f133.body).getD .skip
noncomputable def CB:(Int×Int)→St:=fun x=>bR [(0,(.imm true (.int .i64) x.1)),(3,(.imm true (.int .i64) x.2))] []
noncomputable def AL:Int→Ex×St:=fun x=>(.exit 0,bR [(3,(.imm true (.int .i64) x))] [])
noncomputable def QN (s:St):Tre (Ex×St) :=
 aC true (.int .i64) (s.tmps 0) fun d2 =>
 aC true (.int .i64) (s.tmps 3) fun d4 =>
 .mat (aR Dw (d2,d4)) fun x=>.ret (AL x)
noncomputable def ny:bJ:=⟨([0,3],[]),([3],[]),QN⟩
noncomputable def He:List (Nat×bJ):=[(2,ny)]
theorem YE:∀ (x:(Int×Int)) (c:St→Option (Ex×St)),den AJ He (aY Hf 0) (CB x) (bV ny.kp ny.kx c)=(Dw x).run (bW (CB) (AL) c):=fun _ _=>by
 kernel_rfl
theorem acz:bS AJ He (aY Hf 0) ny:=bA fun s e s' h=>by
 generalize hs:restrict ny.kp s=s1 at h
 have h:(QN s1).run some=some (e,s'):=h
 obtain ⟨d2,e1,h_0⟩:=ak h
 obtain ⟨d4,e3,h_1⟩:=ak h_0
 obtain ⟨y,hy,hz⟩:=bT h_1
 refine ⟨_,_,CB,AL,Dw,(d2,d4),y,?_,hy,?_,YE⟩
 ·subst hs;exact aT (T:=[(0,(.imm true (.int .i64) d2)),(3,(.imm true (.int .i64) d4))]) (U:=[]) rfl rfl ⟨e1,e3,trivial⟩ trivial
 ·exact Option.some.inj hz
noncomputable def ZR:FnI:=⟨Hf,Tryz.f133.results.toList,Tryz.f133.resultTypes.toList,He⟩
noncomputable def TD (_p0:Int):Int→aB:=fun r=>⟨(.imm true (.int .i64) r),[],[]⟩
theorem ajy:∀ (p0:Int),bQ AJ ZR ⟨[(.imm true (.int .i64) p0)],[]⟩=(ahh p0).run fun r=>some (TD p0 r):=fun _=>by kernel_rfl
noncomputable def ZQ (av:List AV) (rs:List Root):Tre aB :=
 aJ av fun a0_ av0 =>
 aU av0 <|
 aU rs <|
 aC true (.int .i64) a0_ fun d1 =>
 .mat (q8 d1) fun r=>.ret (TD d1 r)
noncomputable def Hg:Ctr:=⟨[],fun ci=>ZQ ci.args ci.roots,false⟩
theorem ahi:bP Tryz.prog .none AJ:=aP
theorem MQ:Contract Tryz.prog .none 133 Hg:=by
 have hl:aZ AJ He Hf:=(bC (n:=1) (by kernel_rfl) fun k hk=>by
   match k,hk with
   |0,_=>exact bq (id:=2) (L:=ny) (by kernel_rfl) (by kernel_rfl) acz)
 refine (aI (F:=ZR) bn ahi Tryz.func133 (by kernel_rfl) (by kernel_rfl) (by kernel_rfl) hl []).weaken ?_
 rintro ⟨av,rs⟩ co h
 have h:(ZQ av rs).run some=some co:=h
 obtain ⟨a0_,av0,rfl,h_0⟩:=au h
 obtain ⟨rfl,h_1⟩:=ay h_0
 obtain ⟨rfl,h_2⟩:=ay h_1
 obtain ⟨d1,rfl,h_3⟩:=ak h_2
 exact bK (ajy d1) h_3
noncomputable def Lj (h2_0_1:Int) (h2_0_2:Int):Int→Tre (Int ⊕ Int):=fun s2 =>
 .mat (q8 s2) fun r2 =>
 .cond (decide (r2 ≥ h2_0_2))
  (.mat (q8 s2) fun r3 =>
  .ite (0≤aO .i64 (r3 - h2_0_2)) <|
  let v4:=acG .i64 h2_0_1 (aO .i64 (r3 - h2_0_2))
  .ret (.inl (jI .i64 s2 v4)))
  (.ret (.inr s2))
noncomputable def an0 (p0:Int) (p1:Int):Tre Int :=
 .mat (q8 p1) fun r1 =>
 .mat (aR (Lj p1 r1) p0) fun l5 =>
 .ret l5
noncomputable def YI (p0:Int) (p1:Int):Option Int:=(an0 p0 p1).run some
noncomputable def JA:Env:=⟨tau,[(133,Hg)],[]⟩
noncomputable def Py:Code:=(Tryz.f111.body).getD .skip
noncomputable def JB (h2_0_1:Int) (h2_0_2:Int):Int→St:=fun x=>bR [(0,(.imm true (.int .i64) x)),(1,(.imm true (.int .i64) h2_0_1)),(5,(.imm true (.int .i64) h2_0_2))] []
noncomputable def FB (_h2_0_1:Int) (_h2_0_2:Int):Int→Ex×St:=fun x=>(.exit 0,bR [(0,(.imm true (.int .i64) x))] [])
noncomputable def Xo (s:St):Tre (Ex×St) :=
 aC true (.int .i64) (s.tmps 0) fun d2 =>
 aC true (.int .i64) (s.tmps 1) fun d4 =>
 aC true (.int .i64) (s.tmps 5) fun d6 =>
 .mat (aR (Lj d4 d6) d2) fun x=>.ret (FB d4 d6 x)
noncomputable def sN:bJ:=⟨([0,1,5],[]),([0],[]),Xo⟩
noncomputable def Px:List (Nat×bJ):=[(2,sN)]
theorem acC:∀ (h2_0_1:Int) (h2_0_2:Int) (x:Int) (c:St→Option (Ex×St)),den JA Px (aY Py 0) (JB h2_0_1 h2_0_2 x) (bV sN.kp sN.kx c)=(Lj h2_0_1 h2_0_2 x).run (bW (JB h2_0_1 h2_0_2) (FB h2_0_1 h2_0_2) c):=fun _ _ _ _=>by
 kernel_rfl
theorem ahu:bS JA Px (aY Py 0) sN:=bA fun s e s' h=>by
 generalize hs:restrict sN.kp s=s1 at h
 have h:(Xo s1).run some=some (e,s'):=h
 obtain ⟨d2,e1,h_0⟩:=ak h
 obtain ⟨d4,e3,h_1⟩:=ak h_0
 obtain ⟨d6,e5,h_2⟩:=ak h_1
 obtain ⟨y,hy,hz⟩:=bT h_2
 refine ⟨_,_,JB d4 d6,FB d4 d6,Lj d4 d6,d2,y,?_,hy,?_,acC d4 d6⟩
 ·subst hs;exact aT (T:=[(0,(.imm true (.int .i64) d2)),(1,(.imm true (.int .i64) d4)),(5,(.imm true (.int .i64) d6))]) (U:=[]) rfl rfl ⟨e1,e3,e5,trivial⟩ trivial
 ·exact Option.some.inj hz
noncomputable def aht:FnI:=⟨Py,Tryz.f111.results.toList,Tryz.f111.resultTypes.toList,Px⟩
noncomputable def Z0 (_p0:Int) (_p1:Int):Int→aB:=fun r=>⟨(.imm true (.int .i64) r),[],[]⟩
theorem an1:∀ (p0:Int) (p1:Int),bQ JA aht ⟨[(.imm true (.int .i64) p0),(.imm true (.int .i64) p1)],[]⟩=(an0 p0 p1).run fun r=>some (Z0 p0 p1 r):=fun _ _=>by kernel_rfl
noncomputable def ahs (av:List AV) (rs:List Root):Tre aB :=
 aJ av fun a0_ av0 =>
 aJ av0 fun a1_ av1 =>
 aU av1 <|
 aU rs <|
 aC true (.int .i64) a0_ fun d1 =>
 aC true (.int .i64) a1_ fun d2 =>
 .mat (YI d1 d2) fun r=>.ret (Z0 d1 d2 r)
noncomputable def YJ:Ctr:=⟨[],fun ci=>ahs ci.args ci.roots,false⟩
theorem alW:bP Tryz.prog .none JA:=(aA MQ apW aP)
theorem aeg:Contract Tryz.prog .none 111 YJ:=by
 have hl:aZ JA Px Py:=(bC (n:=1) (by kernel_rfl) fun k hk=>by
   match k,hk with
   |0,_=>exact bq (id:=2) (L:=sN) (by kernel_rfl) (by kernel_rfl) ahu)
 refine (aI (F:=aht) bn alW Tryz.func111 (by kernel_rfl) (by kernel_rfl) (by kernel_rfl) hl []).weaken ?_
 rintro ⟨av,rs⟩ co h
 have h:(ahs av rs).run some=some co:=h
 obtain ⟨a0_,av0,rfl,h_0⟩:=au h
 obtain ⟨a1_,av1,rfl,h_1⟩:=au h_0
 obtain ⟨rfl,h_2⟩:=ay h_1
 obtain ⟨rfl,h_3⟩:=ay h_2
 obtain ⟨d1,rfl,h_4⟩:=ak h_3
 obtain ⟨d2,rfl,h_5⟩:=ak h_4
 exact bK (an1 d1 d2) h_5
noncomputable def ad5 (p0:(Int×(Int×Unit))) (p1:Int) (p2:Int):Tre Int :=
 .mat (aeb p1 p2) fun r1 =>
 .mat (YI r1 p0.2.1) fun r2 =>
 .ret r2
noncomputable def bX (p0:(Int×(Int×Unit))) (p1:Int) (p2:Int):Option Int:=(ad5 p0 p1 p2).run some
-- more
set_option maxRecDepth 100000
theorem ayC:Ak bX mulN 1 2=true:=by kernel_rfl
theorem ayD:Ak bX mulN 1 3=true:=by kernel_rfl
theorem ayE:Ak bX mulN 2 7=true:=by kernel_rfl
theorem av5:Ak bX mulN 3 11=true:=by kernel_rfl
theorem av6:Ak bX mulN 3 13=true:=by kernel_rfl
theorem av7:Ak bX mulN 4 19=true:=by kernel_rfl
theorem av8:Ak bX mulN 4 25=true:=by kernel_rfl
theorem av9:Ak bX mulN 4 31=true:=by kernel_rfl
theorem awc:Ak bX mulN 5 37=true:=by kernel_rfl
theorem awd:Ak bX mulN 5 41=true:=by kernel_rfl
theorem awe:Ak bX mulN 5 47=true:=by kernel_rfl
theorem awf:Ak bX mulN 5 55=true:=by kernel_rfl
theorem awg:Ak bX mulN 5 59=true:=by kernel_rfl
theorem awh:Ak bX mulN 5 61=true:=by kernel_rfl
theorem al0 {f:TF3} (hf:aN f=true) {a b:Int} (ha:inF f a) (hb:inF f b):bX f a b=some (gu f a b):=by
 refine avt (fun q hq=>?_) hf ha hb
 simp only [ji,List.mem_cons,List.not_mem_nil,or_false] at hq
 rcases hq with rfl | rfl | rfl | rfl | rfl | rfl | rfl | rfl | rfl | rfl | rfl | rfl | rfl | rfl
 ·exact ayC
 ·exact ayD
 ·exact ayE
 ·exact av5
 ·exact av6
 ·exact av7
 ·exact av8
 ·exact av9
 ·exact awc
 ·exact awd
 ·exact awe
 ·exact awf
 ·exact awg
 ·exact awh
noncomputable def MF:Env:=⟨tau,[(112,aee),(111,YJ)],[]⟩
noncomputable def Xk:Code:=(Tryz.f75.body).getD .skip
noncomputable def Xj:FnI:=⟨Xk,Tryz.f75.results.toList,Tryz.f75.resultTypes.toList,[]⟩
noncomputable def QE (_p0:(Int×(Int×Unit))) (_p1:Int) (_p2:Int):Int→aB:=fun r=>⟨(.imm true (.int .i64) r),[],[]⟩
theorem ahf:∀ (p0:(Int×(Int×Unit))) (p1:Int) (p2:Int),bQ MF Xj ⟨[(.imm true aM p0),(.imm true (.int .i64) p1),(.imm true (.int .i64) p2)],[]⟩=(ad5 p0 p1 p2).run fun r=>some (QE p0 p1 p2 r):=fun _ _ _=>by kernel_rfl
noncomputable def Xi (av:List AV) (rs:List Root):Tre aB :=
 aJ av fun a0_ av0 =>
 aJ av0 fun a1_ av1 =>
 aJ av1 fun a2_ av2 =>
 aU av2 <|
 aU rs <|
 aC true aM a0_ fun d1 =>
 aC true (.int .i64) a1_ fun d2 =>
 aC true (.int .i64) a2_ fun d3 =>
 .mat (bX d1 d2 d3) fun r=>.ret (QE d1 d2 d3 r)
noncomputable def ow:Ctr:=⟨[],fun ci=>Xi ci.args ci.roots,false⟩
theorem afz:bP Tryz.prog .none MF:=(aA alU ayc (aA aeg atY aP))
theorem pE:Contract Tryz.prog .none 75 ow:=by
 have hl:aZ MF [] Xk:=bB (by kernel_rfl)
 refine (aI (F:=Xj) bn afz Tryz.func75 (by kernel_rfl) (by kernel_rfl) (by kernel_rfl) hl []).weaken ?_
 rintro ⟨av,rs⟩ co h
 have h:(Xi av rs).run some=some co:=h
 obtain ⟨a0_,av0,rfl,h_0⟩:=au h
 obtain ⟨a1_,av1,rfl,h_1⟩:=au h_0
 obtain ⟨a2_,av2,rfl,h_2⟩:=au h_1
 obtain ⟨rfl,h_3⟩:=ay h_2
 obtain ⟨rfl,h_4⟩:=ay h_3
 obtain ⟨d1,rfl,h_5⟩:=ak h_4
 obtain ⟨d2,rfl,h_6⟩:=ak h_5
 obtain ⟨d3,rfl,h_7⟩:=ak h_6
 exact bK (ahf d1 d2 d3) h_7
noncomputable def jm (h2_0_1:Int) (h2_0_3:(Int×(Int×Unit))):(Int×Int)→Tre ((Int×Int) ⊕ Int):=fun s2 =>
 .cond (decide (s2.2 < h2_0_1))
  (.mat (bX h2_0_3 s2.1 s2.1) fun r1 =>
  .ret (.inl (r1,aO .i64 (s2.2+1))))
  (.ret (.inr s2.1))
noncomputable def IK (p0:(Int×(Int×Unit))) (p1:Int) (p2:Int):Tre Int :=
 .ifn (p0.1=0) <|
 .mat (aR (jm (Int.tmod p2 p0.1) p0) (p1,0)) fun l2 =>
 .ret l2
noncomputable def fV (p0:(Int×(Int×Unit))) (p1:Int) (p2:Int):Option Int:=(IK p0 p1 p2).run some
-- more
theorem alZ {f:TF3} (hf:aN f=true) {a b:Nat} (ha:a < (FOf f hf).q) (hb:b < (FOf f hf).q):bX f (a:Int) (b:Int)=some (((FOf f hf).mul a b:Nat):Int):=by
 rw [al0 hf ((Xt hf).2 ⟨a,rfl,ha⟩) ((Xt hf).2 ⟨b,rfl,hb⟩),amj hf ha hb]
theorem avM {f:TF3} (hf:aN f=true):f.1=(f.1.toNat:Int)∧f.1≠0∧1≤f.1.toNat∧f.1.toNat≤5:=by
 have:=nL hf
 refine ⟨by omega,by omega,by omega,by omega⟩
theorem ahI {f:TF3} (hf:aN f=true) {x:Nat} (hx:x < (FOf f hf).q) (k:Nat):fV f (x:Int) (k:Int)=some (((FOf f hf).sqn k x:Nat):Int):=by
 obtain ⟨h1,h2,h3,h4⟩:=avM hf
 have hm:Int.tmod (k:Int) f.1=((k % f.1.toNat:Nat):Int):=by
  conv=>lhs;rw [h1]
  exact (Int.ofNat_tmod k f.1.toNat).symm
 have hml:k % f.1.toNat < f.1.toNat:=Nat.mod_lt _ (by omega)
 unfold fV IK
 rw [Tre.P6,if_neg h2,hm,ah (show aR (jm ((k % f.1.toNat:Nat):Int) f) ((x:Int),0)=some (((FOf f hf).sqn k x:Nat):Int) from ?_),Tre.aL]
 refine cZ (fun i=>(((((FOf f hf).sqn i x:Nat):Int)),(i:Int))) (k % f.1.toNat) _ (fun i hi=>?_) ?_
 ·have hl:=(FOf f hf).Nh i hx
  unfold jm
  dsimp only
  rw [Tre.aG,decide_eq_true (by omega),cond_true,ah (alZ hf hl hl),Tre.aL,aX (by omega),FO.apb]
  rfl
 ·unfold jm
  dsimp only
  rw [dF,Tre.aL,abL hf hx]
noncomputable def pI:Env:=⟨tau,[(75,ow)],[]⟩
noncomputable def wL:Code:=(Tryz.f62.body).getD .skip
noncomputable def uX (h2_0_1:Int) (h2_0_3:(Int×(Int×Unit))):(Int×Int)→St:=fun x=>bR [(1,(.imm true (.int .i64) x.1)),(3,(.ptr (5,0) [])),(10,(.imm true (.int .i64) h2_0_1)),(11,(.imm true (.int .i64) x.2))] [((5,0),some ⟨true,aM,.own,h2_0_3⟩)]
noncomputable def tQ (_h2_0_1:Int) (_h2_0_3:(Int×(Int×Unit))):Int→Ex×St:=fun x=>(.exit 0,bR [(1,(.imm true (.int .i64) x))] [])
noncomputable def Gs (s:St):Tre (Ex×St) :=
 aC true (.int .i64) (s.tmps 1) fun d2 =>
 dW (5,0) [] (s.tmps 3) <|
 aC true (.int .i64) (s.tmps 10) fun d5 =>
 aC true (.int .i64) (s.tmps 11) fun d7 =>
 bD true aM (s.roots (5,0)) fun m9 d10 =>
 asM .own m9 <|
 .mat (aR (jm d5 d10) (d2,d7)) fun x=>.ret (tQ d5 d10 x)
noncomputable def jB:bJ:=⟨([1,3,10,11],[(5,0)]),([1],[]),Gs⟩
noncomputable def wK:List (Nat×bJ):=[(2,jB)]
theorem Pg:∀ (h2_0_1:Int) (h2_0_3:(Int×(Int×Unit))) (x:(Int×Int)) (c:St→Option (Ex×St)),den pI wK (aY wL 0) (uX h2_0_1 h2_0_3 x) (bV jB.kp jB.kx c)=(jm h2_0_1 h2_0_3 x).run (bW (uX h2_0_1 h2_0_3) (tQ h2_0_1 h2_0_3) c):=fun _ _ _ _=>by
 kernel_rfl
theorem Tj:bS pI wK (aY wL 0) jB:=bA fun s e s' h=>by
 generalize hs:restrict jB.kp s=s1 at h
 have h:(Gs s1).run some=some (e,s'):=h
 obtain ⟨d2,e1,h_0⟩:=ak h
 obtain ⟨e3,h_1⟩:=bI h_0
 obtain ⟨d5,e4,h_2⟩:=ak h_1
 obtain ⟨d7,e6,h_3⟩:=ak h_2
 obtain ⟨m9,d10,e8,h_4⟩:=aH h_3
 obtain ⟨rfl,h_5⟩:=aQ h_4
 obtain ⟨y,hy,hz⟩:=bT h_5
 refine ⟨_,_,uX d5 d10,tQ d5 d10,jm d5 d10,(d2,d7),y,?_,hy,?_,Pg d5 d10⟩
 ·subst hs;exact aT (T:=[(1,(.imm true (.int .i64) d2)),(3,(.ptr (5,0) [])),(10,(.imm true (.int .i64) d5)),(11,(.imm true (.int .i64) d7))]) (U:=[((5,0),some ⟨true,aM,.own,d10⟩)]) rfl rfl ⟨e1,e3,e4,e6,trivial⟩ ⟨e8,trivial⟩
 ·exact Option.some.inj hz
noncomputable def NM:FnI:=⟨wL,Tryz.f62.results.toList,Tryz.f62.resultTypes.toList,wK⟩
noncomputable def IL (_p0:(Int×(Int×Unit))) (_p1:Int) (_p2:Int):Int→aB:=fun r=>⟨(.imm true (.int .i64) r),[],[]⟩
theorem ZL:∀ (p0:(Int×(Int×Unit))) (p1:Int) (p2:Int),bQ pI NM ⟨[(.imm true aM p0),(.imm true (.int .i64) p1),(.imm true (.int .i64) p2)],[]⟩=(IK p0 p1 p2).run fun r=>some (IL p0 p1 p2 r):=fun _ _ _=>by kernel_rfl
noncomputable def NK (av:List AV) (rs:List Root):Tre aB :=
 aJ av fun a0_ av0 =>
 aJ av0 fun a1_ av1 =>
 aJ av1 fun a2_ av2 =>
 aU av2 <|
 aU rs <|
 aC true aM a0_ fun d1 =>
 aC true (.int .i64) a1_ fun d2 =>
 aC true (.int .i64) a2_ fun d3 =>
 .mat (fV d1 d2 d3) fun r=>.ret (IL d1 d2 d3 r)
noncomputable def lZ:Ctr:=⟨[],fun ci=>NK ci.args ci.roots,false⟩
theorem YA:bP Tryz.prog .none pI:=(aA pE akE aP)
theorem nO:Contract Tryz.prog .none 62 lZ:=by
 have hl:aZ pI wK wL:=(bC (n:=1) (by kernel_rfl) fun k hk=>by
   match k,hk with
   |0,_=>exact bq (id:=2) (L:=jB) (by kernel_rfl) (by kernel_rfl) Tj)
 refine (aI (F:=NM) bn YA Tryz.func62 (by kernel_rfl) (by kernel_rfl) (by kernel_rfl) hl []).weaken ?_
 rintro ⟨av,rs⟩ co h
 have h:(NK av rs).run some=some co:=h
 obtain ⟨a0_,av0,rfl,h_0⟩:=au h
 obtain ⟨a1_,av1,rfl,h_1⟩:=au h_0
 obtain ⟨a2_,av2,rfl,h_2⟩:=au h_1
 obtain ⟨rfl,h_3⟩:=ay h_2
 obtain ⟨rfl,h_4⟩:=ay h_3
 obtain ⟨d1,rfl,h_5⟩:=ak h_4
 obtain ⟨d2,rfl,h_6⟩:=ak h_5
 obtain ⟨d3,rfl,h_7⟩:=ak h_6
 exact bK (ZL d1 d2 d3) h_7
noncomputable def mO (h2_0_2:(Int×(Int×Unit))):(Int×Int)→Tre ((Int×Int) ⊕ Int):=fun s2 =>
 .cond (decide (s2.2 > 0))
  (.mat (dH h2_0_2 s2.1 s2.1) fun r1 =>
  .ret (.inl (r1,aO .i64 (s2.2 - 1))))
  (.ret (.inr s2.1))
noncomputable def UW (p0:(Int×(Int×Unit))) (p1:Int) (p2:Int):Tre Int :=
 .ifn (p0.1=0) <|
 .mat (aR (mO p0) (p1,Int.tmod p2 p0.1)) fun l2 =>
 .ret l2
noncomputable def lU (p0:(Int×(Int×Unit))) (p1:Int) (p2:Int):Option Int:=(UW p0 p1 p2).run some
-- more
theorem ai4 {f:TF3} (hf:aN f=true) {a b:Nat} (ha:a < (FOf f hf).q) (hb:b < (FOf f hf).q):dH f (a:Int) (b:Int)=some (((FOf f hf).mul a b:Nat):Int):=by
 rw [arM hf ((Xt hf).2 ⟨a,rfl,ha⟩) ((Xt hf).2 ⟨b,rfl,hb⟩),amj hf ha hb]
theorem ai7 {f:TF3} (hf:aN f=true) {x:Nat} (hx:x < (FOf f hf).q) (k:Nat):lU f (x:Int) (k:Int)=some (((FOf f hf).sqn k x:Nat):Int):=by
 obtain ⟨h1,h2,h3,h4⟩:=avM hf
 have hm:Int.tmod (k:Int) f.1=((k % f.1.toNat:Nat):Int):=by
  conv=>lhs;rw [h1]
  exact (Int.ofNat_tmod k f.1.toNat).symm
 have hml:k % f.1.toNat < f.1.toNat:=Nat.mod_lt _ (by omega)
 unfold lU UW
 rw [Tre.P6,if_neg h2,hm,ah (show aR (mO f) ((x:Int),((k % f.1.toNat:Nat):Int))=some (((FOf f hf).sqn k x:Nat):Int) from ?_),Tre.aL]
 refine cZ (fun i=>(((((FOf f hf).sqn i x:Nat):Int)),((k % f.1.toNat - i:Nat):Int))) (k % f.1.toNat) _ (fun i hi=>?_) ?_
 ·have hl:=(FOf f hf).Nh i hx
  unfold mO
  dsimp only
  rw [Tre.aG,decide_eq_true (by omega),cond_true,ah (ai4 hf hl hl),Tre.aL,gM (by omega) (by omega),FO.apb,Nat.sub_sub]
  rfl
 ·unfold mO
  dsimp only
  rw [Nat.sub_self,Tre.aG,decide_eq_false (by omega),cond_false,Tre.aL,abL hf hx]
noncomputable def yI:Env:=⟨tau,[(68,vQ)],[]⟩
noncomputable def DR:Code:=(Tryz.f56.body).getD .skip
noncomputable def Bv (h2_0_2:(Int×(Int×Unit))):(Int×Int)→St:=fun x=>bR [(1,(.imm true (.int .i64) x.1)),(2,(.imm true (.int .i64) x.2)),(3,(.ptr (5,0) []))] [((5,0),some ⟨true,aM,.own,h2_0_2⟩)]
noncomputable def zB (_h2_0_2:(Int×(Int×Unit))):Int→Ex×St:=fun x=>(.exit 0,bR [(1,(.imm true (.int .i64) x))] [])
noncomputable def Ox (s:St):Tre (Ex×St) :=
 aC true (.int .i64) (s.tmps 1) fun d2 =>
 aC true (.int .i64) (s.tmps 2) fun d4 =>
 dW (5,0) [] (s.tmps 3) <|
 bD true aM (s.roots (5,0)) fun m7 d8 =>
 asM .own m7 <|
 .mat (aR (mO d8) (d2,d4)) fun x=>.ret (zB d8 x)
noncomputable def mq:bJ:=⟨([1,2,3],[(5,0)]),([1],[]),Ox⟩
noncomputable def DN:List (Nat×bJ):=[(2,mq)]
theorem WL:∀ (h2_0_2:(Int×(Int×Unit))) (x:(Int×Int)) (c:St→Option (Ex×St)),den yI DN (aY DR 0) (Bv h2_0_2 x) (bV mq.kp mq.kx c)=(mO h2_0_2 x).run (bW (Bv h2_0_2) (zB h2_0_2) c):=fun _ _ _=>by
 kernel_rfl
theorem abd:bS yI DN (aY DR 0) mq:=bA fun s e s' h=>by
 generalize hs:restrict mq.kp s=s1 at h
 have h:(Ox s1).run some=some (e,s'):=h
 obtain ⟨d2,e1,h_0⟩:=ak h
 obtain ⟨d4,e3,h_1⟩:=ak h_0
 obtain ⟨e5,h_2⟩:=bI h_1
 obtain ⟨m7,d8,e6,h_3⟩:=aH h_2
 obtain ⟨rfl,h_4⟩:=aQ h_3
 obtain ⟨y,hy,hz⟩:=bT h_4
 refine ⟨_,_,Bv d8,zB d8,mO d8,(d2,d4),y,?_,hy,?_,WL d8⟩
 ·subst hs;exact aT (T:=[(1,(.imm true (.int .i64) d2)),(2,(.imm true (.int .i64) d4)),(3,(.ptr (5,0) []))]) (U:=[((5,0),some ⟨true,aM,.own,d8⟩)]) rfl rfl ⟨e1,e3,e5,trivial⟩ ⟨e6,trivial⟩
 ·exact Option.some.inj hz
noncomputable def XP:FnI:=⟨DR,Tryz.f56.results.toList,Tryz.f56.resultTypes.toList,DN⟩
noncomputable def Rs (_p0:(Int×(Int×Unit))) (_p1:Int) (_p2:Int):Int→aB:=fun r=>⟨(.imm true (.int .i64) r),[],[]⟩
theorem aiE:∀ (p0:(Int×(Int×Unit))) (p1:Int) (p2:Int),bQ yI XP ⟨[(.imm true aM p0),(.imm true (.int .i64) p1),(.imm true (.int .i64) p2)],[]⟩=(UW p0 p1 p2).run fun r=>some (Rs p0 p1 p2 r):=fun _ _ _=>by kernel_rfl
noncomputable def XO (av:List AV) (rs:List Root):Tre aB :=
 aJ av fun a0_ av0 =>
 aJ av0 fun a1_ av1 =>
 aJ av1 fun a2_ av2 =>
 aU av2 <|
 aU rs <|
 aC true aM a0_ fun d1 =>
 aC true (.int .i64) a1_ fun d2 =>
 aC true (.int .i64) a2_ fun d3 =>
 .mat (lU d1 d2 d3) fun r=>.ret (Rs d1 d2 d3 r)
noncomputable def yJ:Ctr:=⟨[],fun ci=>XO ci.args ci.roots,false⟩
theorem af2:bP Tryz.prog .none yI:=(aA vR ag2 aP)
theorem Bw:Contract Tryz.prog .none 56 yJ:=by
 have hl:aZ yI DN DR:=(bC (n:=1) (by kernel_rfl) fun k hk=>by
   match k,hk with
   |0,_=>exact bq (id:=2) (L:=mq) (by kernel_rfl) (by kernel_rfl) abd)
 refine (aI (F:=XP) bn af2 Tryz.func56 (by kernel_rfl) (by kernel_rfl) (by kernel_rfl) hl []).weaken ?_
 rintro ⟨av,rs⟩ co h
 have h:(XO av rs).run some=some co:=h
 obtain ⟨a0_,av0,rfl,h_0⟩:=au h
 obtain ⟨a1_,av1,rfl,h_1⟩:=au h_0
 obtain ⟨a2_,av2,rfl,h_2⟩:=au h_1
 obtain ⟨rfl,h_3⟩:=ay h_2
 obtain ⟨rfl,h_4⟩:=ay h_3
 obtain ⟨d1,rfl,h_5⟩:=ak h_4
 obtain ⟨d2,rfl,h_6⟩:=ak h_5
 obtain ⟨d3,rfl,h_7⟩:=ak h_6
 exact bK (aiE d1 d2 d3) h_7
noncomputable def adh (p0:(List Int)):Tre (List Int) :=
 .ite ((0+p0.length) * 8≤bM∧1≤8) <|
 .ret ([]++p0)
noncomputable def LK (p0:(List Int)):Option (List Int):=(adh p0).run some
-- more
theorem awx {p0:List Int} (h:p0.length≤1048576):LK p0=some p0:=by
 unfold LK adh
 rw [Tre.run_ite,if_pos (by unfold bM;omega)]
 rfl
noncomputable def UH:Env:=⟨tau,[],[(1000000,[((4,0),[],false)])]⟩
noncomputable def aeD:Code:=(Tryz.f108.body).getD .skip
noncomputable def aeC:FnI:=⟨aeD,Tryz.f108.results.toList,Tryz.f108.resultTypes.toList,[]⟩
noncomputable def XH (_zp0:Bool) (_p0:(List Int)):(List Int)→aB:=fun r=>⟨(.imm true (.sl (.int .i64)) r),[],[]⟩
theorem amv:∀ (zp0:Bool) (p0:(List Int)),bQ UH aeC ⟨[(.imm zp0 (.sl (.int .i64)) p0)],[]⟩=(adh p0).run fun r=>some (XH zp0 p0 r):=fun _ _=>by kernel_rfl
noncomputable def aeB (av:List AV) (rs:List Root):Tre aB :=
 aJ av fun a0_ av0 =>
 aU av0 <|
 aU rs <|
 bH (.sl (.int .i64)) a0_ fun z2 d1 =>
 .mat (LK d1) fun r=>.ret (XH z2 d1 r)
noncomputable def aeE:Ctr:=⟨[],fun ci=>aeB ci.args ci.roots,false⟩
theorem ajR:bP Tryz.prog .none UH:=aP
theorem amw:Contract Tryz.prog .none 108 aeE:=by
 have hl:aZ UH [] aeD:=bB (by kernel_rfl)
 refine (aI (F:=aeC) bn ajR Tryz.func108 (by kernel_rfl) (by kernel_rfl) (by kernel_rfl) hl []).weaken ?_
 rintro ⟨av,rs⟩ co h
 have h:(aeB av rs).run some=some co:=h
 obtain ⟨a0_,av0,rfl,h_0⟩:=au h
 obtain ⟨rfl,h_1⟩:=ay h_0
 obtain ⟨rfl,h_2⟩:=ay h_1
 obtain ⟨z2,d1,rfl,h_3⟩:=aF h_2
 exact bK (amv z2 d1) h_3
noncomputable def DL (h2_0_0:Int) (h2_0_3:(Int×(Int×Unit))):(Int×Int)→Tre ((Int×Int) ⊕ Int):=fun s2 =>
 .cond (decide (s2.1 > 0))
  (.mat (dH h2_0_3 s2.2 h2_0_0) fun r1 =>
  .ret (.inl (aO .i64 (s2.1 - 1),r1)))
  (.ret (.inr s2.2))
noncomputable def aiC (p0:(Int×(Int×Unit))) (p1:Int) (p2:Int):Tre Int :=
 .mat (aR (DL p1 p0) (p2,1)) fun l2 =>
 .ret l2
noncomputable def aa4 (p0:(Int×(Int×Unit))) (p1:Int) (p2:Int):Option Int:=(aiC p0 p1 p2).run some
noncomputable def Bt:Env:=⟨tau,[(68,vQ)],[]⟩
noncomputable def HZ:Code:=(Tryz.f135.body).getD .skip
noncomputable def Da (h2_0_0:Int) (h2_0_3:(Int×(Int×Unit))):(Int×Int)→St:=fun x=>bR [(1,(.imm true (.int .i64) h2_0_0)),(2,(.imm true (.int .i64) x.1)),(3,(.ptr (5,0) [])),(7,(.imm true (.int .i64) x.2))] [((5,0),some ⟨true,aM,.own,h2_0_3⟩)]
noncomputable def Bu (_h2_0_0:Int) (_h2_0_3:(Int×(Int×Unit))):Int→Ex×St:=fun x=>(.exit 0,bR [(7,(.imm true (.int .i64) x))] [])
noncomputable def Rq (s:St):Tre (Ex×St) :=
 aC true (.int .i64) (s.tmps 1) fun d2 =>
 aC true (.int .i64) (s.tmps 2) fun d4 =>
 dW (5,0) [] (s.tmps 3) <|
 aC true (.int .i64) (s.tmps 7) fun d7 =>
 bD true aM (s.roots (5,0)) fun m9 d10 =>
 asM .own m9 <|
 .mat (aR (DL d2 d10) (d4,d7)) fun x=>.ret (Bu d2 d10 x)
noncomputable def nE:bJ:=⟨([1,2,3,7],[(5,0)]),([7],[]),Rq⟩
noncomputable def HY:List (Nat×bJ):=[(2,nE)]
theorem Y3:∀ (h2_0_0:Int) (h2_0_3:(Int×(Int×Unit))) (x:(Int×Int)) (c:St→Option (Ex×St)),den Bt HY (aY HZ 0) (Da h2_0_0 h2_0_3 x) (bV nE.kp nE.kx c)=(DL h2_0_0 h2_0_3 x).run (bW (Da h2_0_0 h2_0_3) (Bu h2_0_0 h2_0_3) c):=fun _ _ _ _=>by
 kernel_rfl
theorem adn:bS Bt HY (aY HZ 0) nE:=bA fun s e s' h=>by
 generalize hs:restrict nE.kp s=s1 at h
 have h:(Rq s1).run some=some (e,s'):=h
 obtain ⟨d2,e1,h_0⟩:=ak h
 obtain ⟨d4,e3,h_1⟩:=ak h_0
 obtain ⟨e5,h_2⟩:=bI h_1
 obtain ⟨d7,e6,h_3⟩:=ak h_2
 obtain ⟨m9,d10,e8,h_4⟩:=aH h_3
 obtain ⟨rfl,h_5⟩:=aQ h_4
 obtain ⟨y,hy,hz⟩:=bT h_5
 refine ⟨_,_,Da d2 d10,Bu d2 d10,DL d2 d10,(d4,d7),y,?_,hy,?_,Y3 d2 d10⟩
 ·subst hs;exact aT (T:=[(1,(.imm true (.int .i64) d2)),(2,(.imm true (.int .i64) d4)),(3,(.ptr (5,0) [])),(7,(.imm true (.int .i64) d7))]) (U:=[((5,0),some ⟨true,aM,.own,d10⟩)]) rfl rfl ⟨e1,e3,e5,e6,trivial⟩ ⟨e8,trivial⟩
 ·exact Option.some.inj hz
noncomputable def aa6:FnI:=⟨HZ,Tryz.f135.results.toList,Tryz.f135.resultTypes.toList,HY⟩
noncomputable def UN (_p0:(Int×(Int×Unit))) (_p1:Int) (_p2:Int):Int→aB:=fun r=>⟨(.imm true (.int .i64) r),[],[]⟩
theorem ajT:∀ (p0:(Int×(Int×Unit))) (p1:Int) (p2:Int),bQ Bt aa6 ⟨[(.imm true aM p0),(.imm true (.int .i64) p1),(.imm true (.int .i64) p2)],[]⟩=(aiC p0 p1 p2).run fun r=>some (UN p0 p1 p2 r):=fun _ _ _=>by kernel_rfl
noncomputable def aa5 (av:List AV) (rs:List Root):Tre aB :=
 aJ av fun a0_ av0 =>
 aJ av0 fun a1_ av1 =>
 aJ av1 fun a2_ av2 =>
 aU av2 <|
 aU rs <|
 aC true aM a0_ fun d1 =>
 aC true (.int .i64) a1_ fun d2 =>
 aC true (.int .i64) a2_ fun d3 =>
 .mat (aa4 d1 d2 d3) fun r=>.ret (UN d1 d2 d3 r)
noncomputable def aa7:Ctr:=⟨[],fun ci=>aa5 ci.args ci.roots,false⟩
theorem aiD:bP Tryz.prog .none Bt:=(aA vR ag2 aP)
theorem ajU:Contract Tryz.prog .none 135 aa7:=by
 have hl:aZ Bt HY HZ:=(bC (n:=1) (by kernel_rfl) fun k hk=>by
   match k,hk with
   |0,_=>exact bq (id:=2) (L:=nE) (by kernel_rfl) (by kernel_rfl) adn)
 refine (aI (F:=aa6) bn aiD Tryz.func135 (by kernel_rfl) (by kernel_rfl) (by kernel_rfl) hl []).weaken ?_
 rintro ⟨av,rs⟩ co h
 have h:(aa5 av rs).run some=some co:=h
 obtain ⟨a0_,av0,rfl,h_0⟩:=au h
 obtain ⟨a1_,av1,rfl,h_1⟩:=au h_0
 obtain ⟨a2_,av2,rfl,h_2⟩:=au h_1
 obtain ⟨rfl,h_3⟩:=ay h_2
 obtain ⟨rfl,h_4⟩:=ay h_3
 obtain ⟨d1,rfl,h_5⟩:=ak h_4
 obtain ⟨d2,rfl,h_6⟩:=ak h_5
 obtain ⟨d3,rfl,h_7⟩:=ak h_6
 exact bK (ajT d1 d2 d3) h_7
noncomputable def aa2 (p0:(Int×(Int×Unit))) (p1:Int):Tre Int :=
 .mat (Ac p0) fun r1 =>
 .mat (aa4 p0 p1 (aO .i64 (r1 - 2))) fun r2 =>
 .ret r2
noncomputable def dD (p0:(Int×(Int×Unit))) (p1:Int):Option Int:=(aa2 p0 p1).run some
-- more
set_option maxRecDepth 100000
theorem ay0:Aj dD tX 1 2=true:=by kernel_rfl
theorem ay1:Aj dD tX 1 3=true:=by kernel_rfl
theorem ay2:Aj dD tX 2 7=true:=by kernel_rfl
theorem awK:Aj dD tX 3 11=true:=by kernel_rfl
theorem awL:Aj dD tX 3 13=true:=by kernel_rfl
theorem awM:Aj dD tX 4 19=true:=by kernel_rfl
theorem awN:Aj dD tX 4 25=true:=by kernel_rfl
theorem awO:Aj dD tX 4 31=true:=by kernel_rfl
theorem awP:Aj dD tX 5 37=true:=by kernel_rfl
theorem awQ:Aj dD tX 5 41=true:=by kernel_rfl
theorem awR:Aj dD tX 5 47=true:=by kernel_rfl
theorem awS:Aj dD tX 5 55=true:=by kernel_rfl
theorem awT:Aj dD tX 5 59=true:=by kernel_rfl
theorem awU:Aj dD tX 5 61=true:=by kernel_rfl
theorem arK {f:TF3} (hf:aN f=true) {a:Int} (ha:inF f a):dD f a=some (Ag f a):=by
 refine auS (fun q hq=>?_) hf ha
 simp only [ji,List.mem_cons,List.not_mem_nil,or_false] at hq
 rcases hq with rfl | rfl | rfl | rfl | rfl | rfl | rfl | rfl | rfl | rfl | rfl | rfl | rfl | rfl
 ·exact ay0
 ·exact ay1
 ·exact ay2
 ·exact awK
 ·exact awL
 ·exact awM
 ·exact awN
 ·exact awO
 ·exact awP
 ·exact awQ
 ·exact awR
 ·exact awS
 ·exact awT
 ·exact awU
noncomputable def JR:Env:=⟨tau,[(87,LU),(135,aa7)],[]⟩
noncomputable def UL:Code:=(Tryz.f117.body).getD .skip
noncomputable def UK:FnI:=⟨UL,Tryz.f117.results.toList,Tryz.f117.resultTypes.toList,[]⟩
noncomputable def Ov (_p0:(Int×(Int×Unit))) (_p1:Int):Int→aB:=fun r=>⟨(.imm true (.int .i64) r),[],[]⟩
theorem afZ:∀ (p0:(Int×(Int×Unit))) (p1:Int),bQ JR UK ⟨[(.imm true aM p0),(.imm true (.int .i64) p1)],[]⟩=(aa2 p0 p1).run fun r=>some (Ov p0 p1 r):=fun _ _=>by kernel_rfl
noncomputable def UJ (av:List AV) (rs:List Root):Tre aB :=
 aJ av fun a0_ av0 =>
 aJ av0 fun a1_ av1 =>
 aU av1 <|
 aU rs <|
 aC true aM a0_ fun d1 =>
 aC true (.int .i64) a1_ fun d2 =>
 .mat (dD d1 d2) fun r=>.ret (Ov d1 d2 r)
noncomputable def JU:Ctr:=⟨[],fun ci=>UJ ci.args ci.roots,false⟩
theorem adi:bP Tryz.prog .none JR:=(aA Qd at6 (aA ajU ays aP))
theorem Rp:Contract Tryz.prog .none 117 JU:=by
 have hl:aZ JR [] UL:=bB (by kernel_rfl)
 refine (aI (F:=UK) bn adi Tryz.func117 (by kernel_rfl) (by kernel_rfl) (by kernel_rfl) hl []).weaken ?_
 rintro ⟨av,rs⟩ co h
 have h:(UJ av rs).run some=some co:=h
 obtain ⟨a0_,av0,rfl,h_0⟩:=au h
 obtain ⟨a1_,av1,rfl,h_1⟩:=au h_0
 obtain ⟨rfl,h_2⟩:=ay h_1
 obtain ⟨rfl,h_3⟩:=ay h_2
 obtain ⟨d1,rfl,h_4⟩:=ak h_3
 obtain ⟨d2,rfl,h_5⟩:=ak h_4
 exact bK (afZ d1 d2) h_5
noncomputable def og (h3_0_0:(List Int)) (h3_0_1:(List Int)) (h3_0_2:Int) (h3_0_4:(Int×(Int×Unit))):(Int×(List Int))→Tre ((Int×(List Int)) ⊕ (List Int)):=fun s3 =>
 .cond (decide (s3.1 < (h3_0_0.length:Int)))
  (.ite (0≤s3.1∧s3.1 < (h3_0_0.length:Int)) <|
  .mat (h3_0_0[s3.1.toNat]?) fun x1 =>
  .ite (0≤s3.1∧s3.1 < (h3_0_1.length:Int)) <|
  .mat (h3_0_1[s3.1.toNat]?) fun x2 =>
  .mat (dH h3_0_4 x2 h3_0_2) fun r3 =>
  .ite ((s3.2.length+1) * 8≤bM∧1≤8) <|
  let v4:=s3.2++([jI .i64 x1 r3])
  .ret (.inl (aO .i64 (s3.1+1),v4)))
  (.ret (.inr s3.2))
noncomputable def adC (p0:(Int×(Int×Unit))) (p1:(List Int)) (p2:(List Int)) (p3:Int):Tre (List Int) :=
 .mat (aR (og p1 p2 p3 p0) (0,[])) fun l5 =>
 .ret l5
noncomputable def E5 (p0:(Int×(Int×Unit))) (p1:(List Int)) (p2:(List Int)) (p3:Int):Option (List Int):=(adC p0 p1 p2 p3).run some
-- more
theorem abo {f:TF3} (hf:aN f=true) {u w:List Int} (hl:u.length=w.length) (hs:u.length≤1000000) (hw:∀ y∈w,inF f y) {x:Int} (hx:inF f x):E5 f u w x=some (abW f u w x):=by
 have key:=lY (xs:=u.zip w) (step:=og u w x f) (fun (i:Nat) (acc:List Int)=>((i:Int),acc)) (fun _ acc p=>.inl (acc++[jI .i64 p.1 (gu f p.2 x)])) id (fun i acc=>acc.length=i) (by
  intro i acc p hp hi
  have hlt:=(List.getElem?_eq_some_iff.1 hp).1
  rw [List.length_zip] at hlt
  obtain ⟨p1,p2⟩:=p
  rw [List.getElem?_zip_eq_some] at hp
  obtain ⟨h1,h2⟩:=hp
  refine ⟨?_,fun a ha=>?_⟩
  ·unfold og
   dsimp only
   rw [Tre.aG,decide_eq_true (by omega),cond_true,Tre.run_ite,if_pos (by omega),Int.toNat_natCast,ah h1,Tre.run_ite,if_pos (by omega),ah h2,ah (arM hf (hw _ (List.mem_of_getElem? h2)) hx),Tre.run_ite,if_pos (by unfold bM;omega),Tre.aL,aX (by omega)]
  ·cases ha;simp [hi]) (by
  intro acc _
  unfold og
  dsimp only
  rw [Tre.aG,decide_eq_false (by rw [List.length_zip];omega),cond_false]
  rfl) (u.zip w) 0 [] rfl (Nat.zero_le _) rfl
 rw [ach] at key
 have key:aR (og u w x f) (0,[])=some (abW f u w x):=key
 unfold E5 adC
 rw [ah key]
 rfl
noncomputable def E8:Env:=⟨tau,[(68,vQ)],[(1000000,[((10,0),[],false)])]⟩
noncomputable def Mj:Code:=(Tryz.f38.body).getD .skip
noncomputable def FY (z3_0:Bool) (z3_1:Bool) (h3_0_0:(List Int)) (h3_0_1:(List Int)) (h3_0_2:Int) (h3_0_4:(Int×(Int×Unit))):(Int×(List Int))→St:=fun x=>bR [(1,(.imm z3_0 (.sl (.int .i64)) h3_0_0)),(2,(.imm z3_1 (.sl (.int .i64)) h3_0_1)),(3,(.imm true (.int .i64) h3_0_2)),(4,(.ptr (6,0) [])),(9,(.ref (11,0) [])),(10,(.imm true (.int .i64) x.1))] [((6,0),some ⟨true,aM,.own,h3_0_4⟩),((11,0),some ⟨false,(.sl (.int .i64)),.own,x.2⟩)]
noncomputable def Dj (_z3_0:Bool) (_z3_1:Bool) (_h3_0_0:(List Int)) (_h3_0_1:(List Int)) (_h3_0_2:Int) (_h3_0_4:(Int×(Int×Unit))):(List Int)→Ex×St:=fun x=>(.exit 0,bR [(9,(.ref (11,0) []))] [((11,0),some ⟨false,(.sl (.int .i64)),.own,x⟩)])
noncomputable def Vi (s:St):Tre (Ex×St) :=
 bH (.sl (.int .i64)) (s.tmps 1) fun z3 d2 =>
 bH (.sl (.int .i64)) (s.tmps 2) fun z6 d5 =>
 aC true (.int .i64) (s.tmps 3) fun d8 =>
 dW (6,0) [] (s.tmps 4) <|
 dz (11,0) [] (s.tmps 9) <|
 aC true (.int .i64) (s.tmps 10) fun d12 =>
 bD true aM (s.roots (6,0)) fun m14 d15 =>
 asM .own m14 <|
 bD false (.sl (.int .i64)) (s.roots (11,0)) fun m17 d18 =>
 asM .own m17 <|
 .mat (aR (og d2 d5 d8 d15) (d12,d18)) fun x=>.ret (Dj z3 z6 d2 d5 d8 d15 x)
noncomputable def qo:bJ:=⟨([1,2,3,4,9,10],[(6,0),(11,0)]),([9],[(11,0)]),Vi⟩
noncomputable def Mi:List (Nat×bJ):=[(3,qo)]
theorem abp:∀ (z3_0:Bool) (z3_1:Bool) (h3_0_0:(List Int)) (h3_0_1:(List Int)) (h3_0_2:Int) (h3_0_4:(Int×(Int×Unit))) (x:(Int×(List Int))) (c:St→Option (Ex×St)),den E8 Mi (aY Mj 0) (FY z3_0 z3_1 h3_0_0 h3_0_1 h3_0_2 h3_0_4 x) (bV qo.kp qo.kx c)=(og h3_0_0 h3_0_1 h3_0_2 h3_0_4 x).run (bW (FY z3_0 z3_1 h3_0_0 h3_0_1 h3_0_2 h3_0_4) (Dj z3_0 z3_1 h3_0_0 h3_0_1 h3_0_2 h3_0_4) c):=fun _ _ _ _ _ _ _ _=>by
 kernel_rfl
theorem af9:bS E8 Mi (aY Mj 0) qo:=bA fun s e s' h=>by
 generalize hs:restrict qo.kp s=s1 at h
 have h:(Vi s1).run some=some (e,s'):=h
 obtain ⟨z3,d2,e1,h_0⟩:=aF h
 obtain ⟨z6,d5,e4,h_1⟩:=aF h_0
 obtain ⟨d8,e7,h_2⟩:=ak h_1
 obtain ⟨e9,h_3⟩:=bI h_2
 obtain ⟨e10,h_4⟩:=bf h_3
 obtain ⟨d12,e11,h_5⟩:=ak h_4
 obtain ⟨m14,d15,e13,h_6⟩:=aH h_5
 obtain ⟨rfl,h_7⟩:=aQ h_6
 obtain ⟨m17,d18,e16,h_8⟩:=aH h_7
 obtain ⟨rfl,h_9⟩:=aQ h_8
 obtain ⟨y,hy,hz⟩:=bT h_9
 refine ⟨_,_,FY z3 z6 d2 d5 d8 d15,Dj z3 z6 d2 d5 d8 d15,og d2 d5 d8 d15,(d12,d18),y,?_,hy,?_,abp z3 z6 d2 d5 d8 d15⟩
 ·subst hs;exact aT (T:=[(1,(.imm z3 (.sl (.int .i64)) d2)),(2,(.imm z6 (.sl (.int .i64)) d5)),(3,(.imm true (.int .i64) d8)),(4,(.ptr (6,0) [])),(9,(.ref (11,0) [])),(10,(.imm true (.int .i64) d12))]) (U:=[((6,0),some ⟨true,aM,.own,d15⟩),((11,0),some ⟨false,(.sl (.int .i64)),.own,d18⟩)]) rfl rfl ⟨e1,e4,e7,e9,e10,e11,trivial⟩ ⟨e13,e16,trivial⟩
 ·exact Option.some.inj hz
noncomputable def ae9:FnI:=⟨Mj,Tryz.f38.results.toList,Tryz.f38.resultTypes.toList,Mi⟩
noncomputable def X0 (_zp0:Bool) (_zp1:Bool) (_p0:(Int×(Int×Unit))) (_p1:(List Int)) (_p2:(List Int)) (_p3:Int):(List Int)→aB:=fun r=>⟨(.imm true (.sl (.int .i64)) r),[],[]⟩
theorem amP:∀ (zp0:Bool) (zp1:Bool) (p0:(Int×(Int×Unit))) (p1:(List Int)) (p2:(List Int)) (p3:Int),bQ E8 ae9 ⟨[(.imm true aM p0),(.imm zp0 (.sl (.int .i64)) p1),(.imm zp1 (.sl (.int .i64)) p2),(.imm true (.int .i64) p3)],[]⟩=(adC p0 p1 p2 p3).run fun r=>some (X0 zp0 zp1 p0 p1 p2 p3 r):=fun _ _ _ _ _ _=>by kernel_rfl
noncomputable def ae8 (av:List AV) (rs:List Root):Tre aB :=
 aJ av fun a0_ av0 =>
 aJ av0 fun a1_ av1 =>
 aJ av1 fun a2_ av2 =>
 aJ av2 fun a3_ av3 =>
 aU av3 <|
 aU rs <|
 aC true aM a0_ fun d1 =>
 bH (.sl (.int .i64)) a1_ fun z3 d2 =>
 bH (.sl (.int .i64)) a2_ fun z5 d4 =>
 aC true (.int .i64) a3_ fun d6 =>
 .mat (E5 d1 d2 d4 d6) fun r=>.ret (X0 z3 z5 d1 d2 d4 d6 r)
noncomputable def afa:Ctr:=⟨[],fun ci=>ae8 ci.args ci.roots,false⟩
theorem aj4:bP Tryz.prog .none E8:=(aA vR ag2 aP)
theorem amQ:Contract Tryz.prog .none 38 afa:=by
 have hl:aZ E8 Mi Mj:=(bC (n:=1) (by kernel_rfl) fun k hk=>by
   match k,hk with
   |0,_=>exact bq (id:=3) (L:=qo) (by kernel_rfl) (by kernel_rfl) af9)
 refine (aI (F:=ae9) bn aj4 Tryz.func38 (by kernel_rfl) (by kernel_rfl) (by kernel_rfl) hl []).weaken ?_
 rintro ⟨av,rs⟩ co h
 have h:(ae8 av rs).run some=some co:=h
 obtain ⟨a0_,av0,rfl,h_0⟩:=au h
 obtain ⟨a1_,av1,rfl,h_1⟩:=au h_0
 obtain ⟨a2_,av2,rfl,h_2⟩:=au h_1
 obtain ⟨a3_,av3,rfl,h_3⟩:=au h_2
 obtain ⟨rfl,h_4⟩:=ay h_3
 obtain ⟨rfl,h_5⟩:=ay h_4
 obtain ⟨d1,rfl,h_6⟩:=ak h_5
 obtain ⟨z3,d2,rfl,h_7⟩:=aF h_6
 obtain ⟨z5,d4,rfl,h_8⟩:=aF h_7
 obtain ⟨d6,rfl,h_9⟩:=ak h_8
 exact bK (amP z3 z5 d1 d2 d4 d6) h_9
noncomputable def jH (h3_0_1:(List (List Int))):(Int×(List (List Int)))→Tre ((Int×(List (List Int))) ⊕ (List (List Int))):=fun s3 =>
 .cond (decide (s3.1 < (h3_0_1.length:Int)))
  (.ite (0≤s3.1∧s3.1 < (h3_0_1.length:Int)) <|
  .mat (h3_0_1[s3.1.toNat]?) fun x1 =>
  .mat (LK x1) fun r2 =>
  .ite ((s3.2.length+1) * 24≤bM∧1≤24) <|
  .ret (.inl (aO .i64 (s3.1+1),s3.2++([r2]))))
  (.ret (.inr s3.2))
noncomputable def iZ (h11_0_2:Int) (h11_0_5:(List (List Int))):Int→Tre (Int ⊕ Int):=fun s11 =>
 .cond (decide (s11 < (h11_0_5.length:Int)))
  (.ite (0≤s11∧s11 < (h11_0_5.length:Int)) <|
  .mat (h11_0_5[s11.toNat]?) fun x4 =>
  .ite (0≤h11_0_2∧h11_0_2 < (x4.length:Int)) <|
  .mat (x4[h11_0_2.toNat]?) fun x5 =>
  .cond (decide (x5=0))
   (.ret (.inl (aO .i64 (s11+1))))
   (.ret (.inr s11)))
  (.ret (.inr s11))
noncomputable def jc (h18_0_1:Int) (h18_0_2:Int) (h18_0_4:(Int×(Int×Unit))):(Int×(List (List Int)))→Tre ((Int×(List (List Int))) ⊕ (List (List Int))):=fun s18 =>
 .cond (decide (s18.1 < (s18.2.length:Int)))
  (.cond (!decide (s18.1=h18_0_1))
   (.ite (0≤s18.1∧s18.1 < (s18.2.length:Int)) <|
   .mat (s18.2[s18.1.toNat]?) fun x15 =>
   .ite (0≤h18_0_2∧h18_0_2 < (x15.length:Int)) <|
   .mat (x15[h18_0_2.toNat]?) fun x16 =>
   .cond (!decide (x16=0))
    (.ite (0≤s18.1∧s18.1 < (s18.2.length:Int)) <|
    .mat (s18.2[s18.1.toNat]?) fun x17 =>
    .ite (0≤h18_0_1∧h18_0_1 < (s18.2.length:Int)) <|
    .mat (s18.2[h18_0_1.toNat]?) fun x18 =>
    .ite (0≤s18.1∧s18.1 < (s18.2.length:Int)) <|
    .mat (s18.2[s18.1.toNat]?) fun x19 =>
    .ite (0≤h18_0_2∧h18_0_2 < (x19.length:Int)) <|
    .mat (x19[h18_0_2.toNat]?) fun x20 =>
    .mat (E5 h18_0_4 x17 x18 x20) fun r21 =>
    .ite (0≤s18.1∧s18.1 < (s18.2.length:Int)) <|
    .mat (s18.2[s18.1.toNat]?) fun _ =>
    let v23:=s18.2.set s18.1.toNat r21
    .ret (.inl (aO .i64 (s18.1+1),v23)))
    (.ret (.inl (aO .i64 (s18.1+1),s18.2))))
   (.ret (.inl (aO .i64 (s18.1+1),s18.2))))
  (.ret (.inr s18.2))
noncomputable def iI (h8_0_0:Int) (h8_0_3:(Int×(Int×Unit))):(Int×Int×(List (List Int)))→Tre ((Int×Int×(List (List Int))) ⊕ (Int×(List (List Int)))):=fun s8 =>
 .cond (decide (s8.2.1 < h8_0_0))
  (.mat (aR (iZ s8.2.1 s8.2.2) s8.1) fun l6 =>
  .cond (decide (l6=(s8.2.2.length:Int)))
   (.ret (.inl (s8.1,aO .i64 (s8.2.1+1),s8.2.2)))
   (.ite (0≤l6∧l6 < (s8.2.2.length:Int)) <|
   .mat (s8.2.2[l6.toNat]?) fun x7 =>
   .ite (0≤s8.1∧s8.1 < (s8.2.2.length:Int)) <|
   .mat (s8.2.2[s8.1.toNat]?) fun x8 =>
   .ite (0≤l6∧l6 < (s8.2.2.length:Int)) <|
   .mat (s8.2.2[l6.toNat]?) fun _ =>
   .ite (((.int .i64):K)=(.int .i64)∧0≤h8_0_0∧h8_0_0=h8_0_0∧h8_0_0 * (8:Nat)≤140737488355328∧1≤8) <|
   .ite (0≤s8.2.1∧s8.2.1 < (x7.length:Int)) <|
   .mat (x7[s8.2.1.toNat]?) fun x10 =>
   .mat (dD h8_0_3 x10) fun r11 =>
   .mat (E5 h8_0_3 (List.replicate h8_0_0.toNat (0:Int)) x7 r11) fun r12 =>
   .ite (0≤s8.1∧s8.1 < ((s8.2.2.set l6.toNat x8).length:Int)) <|
   .mat ((s8.2.2.set l6.toNat x8)[s8.1.toNat]?) fun _ =>
   let v14:=(s8.2.2.set l6.toNat x8).set s8.1.toNat r12
   .mat (aR (jc s8.1 s8.2.1 h8_0_3) (0,v14)) fun l24 =>
   .ret (.inl (aO .i64 (s8.1+1),aO .i64 (s8.2.1+1),l24))))
  (.ret (.inr (s8.1,s8.2.2)))
noncomputable def Qk (p0:(Int×(Int×Unit))) (p1:Int) (p2:(List (List Int))):Tre (List (List Int)) :=
 .mat (aR (jH p2) (0,[])) fun l3 =>
 .mat (aR (iI p1 p0) (0,0,l3)) fun l25 =>
 .ite (0≤(0:Int)∧(0:Int)≤l25.1∧l25.1≤(l25.2.length:Int)) <|
 .ret ((l25.2.drop 0).take ((l25.1 - 0).toNat))
noncomputable def BA (p0:(Int×(Int×Unit))) (p1:Int) (p2:(List (List Int))):Option (List (List Int)):=(Qk p0 p1 p2).run some
-- more
theorem as3 {rows:List (List Int)} (hl:rows.length≤1000000) (hr:∀ r∈rows,r.length≤1000000):aR (jH rows) (0,[])=some rows:=by
 have key:=lY (xs:=rows) (step:=jH rows) (fun (i:Nat) (acc:List (List Int))=>((i:Int),acc)) (fun _ acc r=>.inl (acc++[id r])) id (fun i acc=>acc.length=i) (by
  intro i acc r h hi
  have hlt:=(List.getElem?_eq_some_iff.1 h).1
  refine ⟨?_,fun a ha=>?_⟩
  ·unfold jH
   dsimp only
   rw [Tre.aG,decide_eq_true (by omega),cond_true,Tre.run_ite,if_pos (by omega),Int.toNat_natCast,ah h,ah (awx (by have:=hr r (List.mem_of_getElem? h);omega)),Tre.run_ite,if_pos (by unfold bM;omega),Tre.aL,aX (by omega)]
   rfl
  ·cases ha;simp [hi]) (by
  intro acc _
  unfold jH
  dsimp only
  rw [Tre.aG,decide_eq_false (by omega),cond_false]
  rfl) rows 0 [] rfl (Nat.zero_le _) rfl
 rw [ach,List.map_id] at key
 exact key
theorem as4 {c:Nat} {L:List (List Int)} (hc:∀ r∈L,c < r.length) (hL:L.length≤1000000):∀ (l:List (List Int)) (i:Nat),L.drop i=l→i≤L.length →
  aR (iZ (c:Int) L) (i:Int)=some (if nR (CY c) i l < 0 then (L.length:Int) else nR (CY c) i l):=by
 intro l
 induction l with
 |nil =>
  intro i hl hi
  have:i=L.length:=by have:=List.drop_eq_nil_iff.1 hl;omega
  subst this
  refine fu ?_
  unfold iZ
  exact dF
 |cons x l ih =>
  intro i hl hi
  have hx:L[i]?=some x:=by
   have:=congrArg (·[0]?) hl
   simpa using this
  have hlt:=(List.getElem?_eq_some_iff.1 hx).1
  have hcx:=hc x (List.mem_of_getElem? hx)
  obtain ⟨y,hy⟩:∃ y,x[c]?=some y:=⟨_,List.getElem?_eq_getElem hcx⟩
  have hn:CY c x = !decide (y=0):=by unfold CY;rw [hy]
  by_cases h0:y=0
  ·have e:nR (CY c) i (x::l)=nR (CY c) (i+1) l:=by simp [nR,hn,h0]
   rw [e,← ih (i+1) (by rw [← List.drop_drop,hl];rfl) (by omega)]
   refine mJ ?_
   unfold iZ
   rw [eu hx,Tre.run_ite,if_pos (by omega),Int.toNat_natCast,ah hy,Tre.aG,decide_eq_true h0,cond_true,Tre.aL,aX (by omega)]
  ·have e:nR (CY c) i (x::l)=(i:Int):=by simp [nR,hn,h0]
   rw [e,if_neg (by omega)]
   refine fu ?_
   unfold iZ
   rw [eu hx,Tre.run_ite,if_pos (by omega),Int.toNat_natCast,ah hy,Tre.aG,decide_eq_false h0,cond_false,Tre.aL]
theorem aqy {f:TF3} (hf:aN f=true) {n c a:Nat} {own:List Int} {L:List (List Int)} (hc:c < n) (hn:n≤1000000) (h:GR f n L) (hk:L[a]?=some own) (hL:L.length≤1000000) :
  aR (jc (a:Int) (c:Int) f) (0,L)=some (L.mapIdx (ou f c a own)):=by
 obtain ⟨hol,hof⟩:=DV h hk
 have hak:=(List.getElem?_eq_some_iff.1 hk).1
 have key:=lY (xs:=L) (step:=jc (a:Int) (c:Int) f) (fun (i:Nat) (acc:List (List Int))=>((i:Int),acc)) (fun i acc r=>.inl (acc.set i (ou f c a own i r))) id (fun i acc=>acc.length=L.length∧acc.drop i=L.drop i∧acc[a]?=some own) (by
  intro i acc r hr hi
  have hlt:=(List.getElem?_eq_some_iff.1 hr).1
  obtain ⟨hr1,hr2⟩:=DV h hr
  have hai:acc[i]?=some r:=by
   have:=congrArg (·[0]?) hi.2.1
   simpa [hr] using this
  obtain ⟨x,hx⟩:∃ x,r[c]?=some x:=⟨_,List.getElem?_eq_getElem (by omega)⟩
  have hxf:=hr2 x (List.mem_of_getElem? hx)
  have hset:acc.set i r=acc:=by
   apply List.ext_getElem?
   intro j
   rw [List.getElem?_set]
   split
   ·rename_i h;subst h;simp [show i < acc.length by omega,← hai]
   ·rfl
  refine ⟨?_,fun b hb=>?_⟩
  ·unfold jc
   dsimp only
   rw [Tre.aG,decide_eq_true (by omega),cond_true,Tre.aG]
   by_cases h1:i=a
   ·rw [decide_eq_true (show (i:Int)=(a:Int) by omega),Bool.not_true,cond_false,Tre.aL,aX (by omega)]
    simp only [ou,hx,h1,decide_true,Bool.true_or,cond_true]
    rw [← h1,hset]
   ·rw [decide_eq_false (show ¬ (i:Int)=(a:Int) by omega),Bool.not_false,cond_true,Tre.run_ite,if_pos (by omega),Int.toNat_natCast,ah hai,Tre.run_ite,if_pos (by omega),Int.toNat_natCast,ah hx,Tre.aG]
    by_cases h2:x=0
    ·rw [decide_eq_true h2,Bool.not_true,cond_false,Tre.aL,aX (by omega)]
     simp only [ou,hx,h2,decide_true,Bool.or_true,cond_true]
     rw [hset]
    ·rw [decide_eq_false h2,Bool.not_false,cond_true,Tre.run_ite,if_pos (by omega),ah hai,Tre.run_ite,if_pos (by omega),Int.toNat_natCast,ah hi.2.2,Tre.run_ite,if_pos (by omega),ah hai,Tre.run_ite,if_pos (by omega),ah hx,ah (abo hf (by omega) (by omega) hof hxf),Tre.run_ite,if_pos (by omega),ah hai,Tre.aL,aX (by omega)]
     simp only [ou,hx,h1,h2,decide_false,Bool.or_self,cond_false]
     have:abW f r own x=(r.zip own).map fun p=>jI .i64 p.1 (gu f x p.2):=by
      unfold abW
      refine List.map_congr_left fun p hp=>?_
      have h1:=List.of_mem_zip (a:=p.1) (b:=p.2) hp
      rw [(CX hf (hof _ h1.2) hxf).2]
     rw [this]
  ·cases hb
   refine ⟨by simp [hi.1],?_,?_⟩
   ·rw [List.drop_set_of_lt (by omega),← List.drop_drop,← List.drop_drop,hi.2.1]
   ·by_cases h1:i=a
    ·subst h1
     rw [List.getElem?_set_self (by omega)]
     rw [hr] at hk;cases hk
     simp only [ou,hx,decide_true,Bool.true_or,cond_true]
    ·rw [List.getElem?_set_ne h1];exact hi.2.2) (by
  rintro acc ⟨hl,_⟩
  unfold jc
  dsimp only
  rw [Tre.aG,decide_eq_false (by omega),cond_false]
  rfl) L 0 L rfl (Nat.zero_le _) ⟨rfl,rfl,hk⟩
 rw [ag7 _ _ _ _ _ (by simp)] at key
 simpa using key
theorem arS {f:TF3} (hf:aN f=true) {x:Int} (hx:inF f x):∀ {w:List Int},(∀ y∈w,inF f y)→abW f (List.replicate w.length 0) w x=w.map fun y=>gu f y x:=by
 intro w
 induction w with
 |nil=>intro _;rfl
 |cons y w ih =>
  intro h
  have:=ih (fun z hz=>h z (List.mem_cons_of_mem _ hz))
  unfold abW at this ⊢
  simp only [List.length_cons,List.replicate_succ,List.zip_cons_cons,List.map_cons]
  rw [this,qD hf (CX hf (h y (List.mem_cons_self ..)) hx).1]
theorem as6 {f:TF3} (hf:aN f=true) {n c:Nat} (hc:c < n) (hn:n≤1000000) (s:Nat×List (List Int)) (h:GR f n s.2) (hL:s.2.length≤1000000) (ha:s.1≤s.2.length) :
  (iI (n:Int) f ((s.1:Int),(c:Int),s.2)).run some=some (.inl (((jh f c s).1:Int),((c+1:Nat):Int),(jh f c s).2)):=by
 obtain ⟨a,L⟩:=s
 dsimp only at h hL ha
 have hfd:=as4 (c:=c) (fun r hr=>by rw [(h r hr).1];exact hc) hL (L.drop a) a rfl ha
 unfold iI
 dsimp only
 rw [Tre.aG,decide_eq_true (by omega),cond_true,ah hfd,Tre.aG]
 unfold jh
 dsimp only
 rcases zw (CY c) (L.drop a) a with ⟨h1,_⟩ | ⟨k,row,h1,h2,h3⟩
 ·rw [h1,if_pos (by decide),decide_eq_true rfl,show decide ((-1:Int) < 0)=true from rfl,cond_true,cond_true,Tre.aL,aX (by omega)]
 ·have hak:L[a+k]?=some row:=by rw [← h1,List.getElem?_drop]
  have hlt:=(List.getElem?_eq_some_iff.1 hak).1
  obtain ⟨r0,hr0⟩:∃ r0,L[a]?=some r0:=⟨_,List.getElem?_eq_getElem (by omega)⟩
  obtain ⟨hrl,hrf⟩:=DV h hak
  obtain ⟨x,hx,hx0⟩:=amk h2
  have hxf:=hrf x (List.mem_of_getElem? hx)
  have hxi:=(vF hf hxf).1
  rw [h3,if_neg (by omega),decide_eq_false (by omega),decide_eq_false (by omega),cond_false,cond_false]
  rw [Tre.run_ite,if_pos (by omega),Int.toNat_natCast,ah hak,Tre.run_ite,if_pos (by omega),Int.toNat_natCast,ah hr0,Tre.run_ite,if_pos (by omega),ah hak,Tre.run_ite,if_pos ⟨rfl,by omega,rfl,by omega,by decide⟩,Tre.run_ite,if_pos (by omega),Int.toNat_natCast,ah hx,ah (arK hf hxf),Int.toNat_natCast]
  rw [ah (abo hf (by simp [hrl]) (by simp;omega) hrf hxi),← hrl,arS hf hxi hrf]
  have hg:(L.set (a+k) r0)[a]?=some r0:=by
   rw [List.getElem?_set]
   split
   ·first | rfl | rw [if_pos (by omega)]
   ·exact hr0
  simp only [List.length_set]
  rw [Tre.run_ite,if_pos (by omega),ah hg]
  have hp:Sj f c (a+k) a L=(L.set (a+k) r0).set a (row.map fun y=>gu f y (Ag f x)):=by
   unfold Sj Zi
   rw [hak,hr0]
   simp only [hx]
  have hpg:=agw (c:=c) (k:=a+k) (a:=a) hf h
  rw [hp] at hpg ⊢
  have hpa:((L.set (a+k) r0).set a (row.map fun y=>gu f y (Ag f x)))[a]?=some (row.map fun y=>gu f y (Ag f x)):=List.getElem?_set_self (by simp;omega)
  generalize hG:(L.set (a+k) r0).set a (row.map fun y=>gu f y (Ag f x))=G at hpg hpa
  rw [ah (aqy hf hc hn hpg.1 hpa (by omega)),Tre.aL,aX (by omega),aX (by omega)]
  unfold Fp
  rw [hpa]
theorem as5 {f:TF3} (hf:aN f=true) {n:Nat} (hn:n≤1000000):∀ (m c:Nat) (s:Nat×List (List Int)),c+m=n→GR f n s.2→s.2.length≤1000000→s.1≤s.2.length→aR (iI (n:Int) f) ((s.1:Int),(c:Int),s.2)=some (((gT f c m s).1:Int),(gT f c m s).2):=by
 intro m
 induction m with
 |zero =>
  intro c s hc h hL ha
  have hc:c=n:=hc
  subst hc
  refine fu ?_
  unfold iI
  exact dF
 |succ m ih =>
  intro c s hc h hL ha
  rw [mJ (as6 hf (by omega) hn s h hL ha)]
  have h1:=Ir (c:=c) hf h ha
  exact ih (c+1) _ (by omega) h1.1 (by omega) (by omega)
theorem awH {f:TF3} (hf:aN f=true) {n:Nat} (hn:n≤1000000) {L:List (List Int)} (h:GR f n L) (hL:L.length≤1000000):BA f (n:Int) L=some (DY f n L):=by
 have hl:=as5 hf hn n 0 (0,L) (by omega) h hL (Nat.zero_le _)
 have hk:=O8 hf n 0 (0,L) h (Nat.zero_le _)
 have hl:aR (iI (n:Int) f) (0,0,L)=_:=hl
 unfold BA Qk
 rw [ah (as3 hL (fun r hr=>by rw [(h r hr).1];exact hn)),ah hl,Tre.run_ite,if_pos (by have:=hk.2.1;have:=hk.2.2;dsimp only at *;omega),Tre.aL]
 unfold DY
 simp
noncomputable def fO:Env:=⟨tau,[(108,aeE),(117,JU),(38,afa)],[(2,[((9,0),[],true)])]⟩
noncomputable def iF:Code:=(Tryz.f88.body).getD .skip
noncomputable def zI (z3_0:Bool) (h3_0_0:Int) (h3_0_1:(List (List Int))) (h3_0_3:(Int×(Int×Unit))):(Int×(List (List Int)))→St:=fun x=>bR [(1,(.imm true (.int .i64) h3_0_0)),(2,(.imm z3_0 (.sl (.sl (.int .i64))) h3_0_1)),(3,(.ptr (5,0) [])),(7,(.ref (9,0) [])),(8,(.imm true (.int .i64) x.1))] [((5,0),some ⟨true,aM,.own,h3_0_3⟩),((9,0),some ⟨false,(.sl (.sl (.int .i64))),(.sl (.imm true)),x.2⟩)]
noncomputable def yc (_z3_0:Bool) (h3_0_0:Int) (_h3_0_1:(List (List Int))) (h3_0_3:(Int×(Int×Unit))):(List (List Int))→Ex×St:=fun x=>(.exit 0,bR [(1,(.imm true (.int .i64) h3_0_0)),(3,(.ptr (5,0) [])),(7,(.ref (9,0) []))] [((5,0),some ⟨true,aM,.own,h3_0_3⟩),((9,0),some ⟨false,(.sl (.sl (.int .i64))),(.sl (.imm true)),x⟩)])
noncomputable def Mk (s:St):Tre (Ex×St) :=
 aC true (.int .i64) (s.tmps 1) fun d2 =>
 bH (.sl (.sl (.int .i64))) (s.tmps 2) fun z5 d4 =>
 dW (5,0) [] (s.tmps 3) <|
 dz (9,0) [] (s.tmps 7) <|
 aC true (.int .i64) (s.tmps 8) fun d9 =>
 bD true aM (s.roots (5,0)) fun m11 d12 =>
 asM .own m11 <|
 bD false (.sl (.sl (.int .i64))) (s.roots (9,0)) fun m14 d15 =>
 asM (.sl (.imm true)) m14 <|
 .mat (aR (jH d4) (d9,d15)) fun x=>.ret (yc z5 d2 d4 d12 x)
noncomputable def kX:bJ:=⟨([1,2,3,7,8],[(5,0),(9,0)]),([1,3,7],[(5,0),(9,0)]),Mk⟩
noncomputable def xY (h11_0_0:Int) (h11_0_1:Int) (h11_0_2:Int) (h11_0_4:(Int×(Int×Unit))) (h11_0_5:(List (List Int))):Int→St:=fun x=>bR [(1,(.imm true (.int .i64) h11_0_0)),(3,(.ptr (5,0) [])),(7,(.ref (9,0) [])),(9,(.imm true (.int .i64) h11_0_1)),(10,(.imm true (.int .i64) h11_0_2)),(11,(.imm true (.int .i64) x))] [((5,0),some ⟨true,aM,.own,h11_0_4⟩),((9,0),some ⟨false,(.sl (.sl (.int .i64))),(.sl (.imm true)),h11_0_5⟩)]
noncomputable def vX (h11_0_0:Int) (h11_0_1:Int) (h11_0_2:Int) (h11_0_4:(Int×(Int×Unit))) (h11_0_5:(List (List Int))):Int→Ex×St:=fun x=>(.exit 4,bR [(1,(.imm true (.int .i64) h11_0_0)),(3,(.ptr (5,0) [])),(7,(.ref (9,0) [])),(9,(.imm true (.int .i64) h11_0_1)),(10,(.imm true (.int .i64) h11_0_2)),(11,(.imm true (.int .i64) x))] [((5,0),some ⟨true,aM,.own,h11_0_4⟩),((9,0),some ⟨false,(.sl (.sl (.int .i64))),(.sl (.imm true)),h11_0_5⟩)])
noncomputable def Kc (s:St):Tre (Ex×St) :=
 aC true (.int .i64) (s.tmps 1) fun d2 =>
 dW (5,0) [] (s.tmps 3) <|
 dz (9,0) [] (s.tmps 7) <|
 aC true (.int .i64) (s.tmps 9) fun d6 =>
 aC true (.int .i64) (s.tmps 10) fun d8 =>
 aC true (.int .i64) (s.tmps 11) fun d10 =>
 bD true aM (s.roots (5,0)) fun m12 d13 =>
 asM .own m12 <|
 bD false (.sl (.sl (.int .i64))) (s.roots (9,0)) fun m15 d16 =>
 asM (.sl (.imm true)) m15 <|
 .mat (aR (iZ d8 d16) d10) fun x=>.ret (vX d2 d6 d8 d13 d16 x)
noncomputable def jY:bJ:=⟨([1,3,7,9,10,11],[(5,0),(9,0)]),([1,3,7,9,10,11],[(5,0),(9,0)]),Kc⟩
noncomputable def xZ (h18_0_0:Int) (h18_0_1:Int) (h18_0_2:Int) (h18_0_4:(Int×(Int×Unit))):(Int×(List (List Int)))→St:=fun x=>bR [(1,(.imm true (.int .i64) h18_0_0)),(3,(.ptr (5,0) [])),(7,(.ref (9,0) [])),(9,(.imm true (.int .i64) h18_0_1)),(10,(.imm true (.int .i64) h18_0_2)),(13,(.imm true (.int .i64) x.1))] [((5,0),some ⟨true,aM,.own,h18_0_4⟩),((9,0),some ⟨false,(.sl (.sl (.int .i64))),(.sl (.imm true)),x.2⟩)]
noncomputable def vY (h18_0_0:Int) (h18_0_1:Int) (h18_0_2:Int) (h18_0_4:(Int×(Int×Unit))):(List (List Int))→Ex×St:=fun x=>(.exit 6,bR [(1,(.imm true (.int .i64) h18_0_0)),(3,(.ptr (5,0) [])),(7,(.ref (9,0) [])),(9,(.imm true (.int .i64) h18_0_1)),(10,(.imm true (.int .i64) h18_0_2))] [((5,0),some ⟨true,aM,.own,h18_0_4⟩),((9,0),some ⟨false,(.sl (.sl (.int .i64))),(.sl (.imm true)),x⟩)])
noncomputable def Ke (s:St):Tre (Ex×St) :=
 aC true (.int .i64) (s.tmps 1) fun d2 =>
 dW (5,0) [] (s.tmps 3) <|
 dz (9,0) [] (s.tmps 7) <|
 aC true (.int .i64) (s.tmps 9) fun d6 =>
 aC true (.int .i64) (s.tmps 10) fun d8 =>
 aC true (.int .i64) (s.tmps 13) fun d10 =>
 bD true aM (s.roots (5,0)) fun m12 d13 =>
 asM .own m12 <|
 bD false (.sl (.sl (.int .i64))) (s.roots (9,0)) fun m15 d16 =>
 asM (.sl (.imm true)) m15 <|
 .mat (aR (jc d6 d8 d13) (d10,d16)) fun x=>.ret (vY d2 d6 d8 d13 x)
noncomputable def jZ:bJ:=⟨([1,3,7,9,10,13],[(5,0),(9,0)]),([1,3,7,9,10],[(5,0),(9,0)]),Ke⟩
noncomputable def zJ (h8_0_0:Int) (h8_0_3:(Int×(Int×Unit))):(Int×Int×(List (List Int)))→St:=fun x=>bR [(1,(.imm true (.int .i64) h8_0_0)),(3,(.ptr (5,0) [])),(7,(.ref (9,0) [])),(9,(.imm true (.int .i64) x.1)),(10,(.imm true (.int .i64) x.2.1))] [((5,0),some ⟨true,aM,.own,h8_0_3⟩),((9,0),some ⟨false,(.sl (.sl (.int .i64))),(.sl (.imm true)),x.2.2⟩)]
noncomputable def yg (_h8_0_0:Int) (_h8_0_3:(Int×(Int×Unit))):(Int×(List (List Int)))→Ex×St:=fun x=>(.exit 2,bR [(7,(.ref (9,0) [])),(9,(.imm true (.int .i64) x.1))] [((9,0),some ⟨false,(.sl (.sl (.int .i64))),(.sl (.imm true)),x.2⟩)])
noncomputable def Ml (s:St):Tre (Ex×St) :=
 aC true (.int .i64) (s.tmps 1) fun d2 =>
 dW (5,0) [] (s.tmps 3) <|
 dz (9,0) [] (s.tmps 7) <|
 aC true (.int .i64) (s.tmps 9) fun d6 =>
 aC true (.int .i64) (s.tmps 10) fun d8 =>
 bD true aM (s.roots (5,0)) fun m10 d11 =>
 asM .own m10 <|
 bD false (.sl (.sl (.int .i64))) (s.roots (9,0)) fun m13 d14 =>
 asM (.sl (.imm true)) m13 <|
 .mat (aR (iI d2 d11) (d6,d8,d14)) fun x=>.ret (yg d2 d11 x)
noncomputable def kY:bJ:=⟨([1,3,7,9,10],[(5,0),(9,0)]),([7,9],[(9,0)]),Ml⟩
noncomputable def iE:List (Nat×bJ):=[(3,kX),(11,jY),(18,jZ),(8,kY)]
theorem Vn:∀ (z3_0:Bool) (h3_0_0:Int) (h3_0_1:(List (List Int))) (h3_0_3:(Int×(Int×Unit))) (x:(Int×(List (List Int)))) (c:St→Option (Ex×St)),den fO iE (aY iF 0) (zI z3_0 h3_0_0 h3_0_1 h3_0_3 x) (bV kX.kp kX.kx c)=(jH h3_0_1 x).run (bW (zI z3_0 h3_0_0 h3_0_1 h3_0_3) (yc z3_0 h3_0_0 h3_0_1 h3_0_3) c):=fun _ _ _ _ _ _=>by
 kernel_rfl
theorem Za:bS fO iE (aY iF 0) kX:=bA fun s e s' h=>by
 generalize hs:restrict kX.kp s=s1 at h
 have h:(Mk s1).run some=some (e,s'):=h
 obtain ⟨d2,e1,h_0⟩:=ak h
 obtain ⟨z5,d4,e3,h_1⟩:=aF h_0
 obtain ⟨e6,h_2⟩:=bI h_1
 obtain ⟨e7,h_3⟩:=bf h_2
 obtain ⟨d9,e8,h_4⟩:=ak h_3
 obtain ⟨m11,d12,e10,h_5⟩:=aH h_4
 obtain ⟨rfl,h_6⟩:=aQ h_5
 obtain ⟨m14,d15,e13,h_7⟩:=aH h_6
 obtain ⟨rfl,h_8⟩:=aQ h_7
 obtain ⟨y,hy,hz⟩:=bT h_8
 refine ⟨_,_,zI z5 d2 d4 d12,yc z5 d2 d4 d12,jH d4,(d9,d15),y,?_,hy,?_,Vn z5 d2 d4 d12⟩
 ·subst hs;exact aT (T:=[(1,(.imm true (.int .i64) d2)),(2,(.imm z5 (.sl (.sl (.int .i64))) d4)),(3,(.ptr (5,0) [])),(7,(.ref (9,0) [])),(8,(.imm true (.int .i64) d9))]) (U:=[((5,0),some ⟨true,aM,.own,d12⟩),((9,0),some ⟨false,(.sl (.sl (.int .i64))),(.sl (.imm true)),d15⟩)]) rfl rfl ⟨e1,e3,e6,e7,e8,trivial⟩ ⟨e10,e13,trivial⟩
 ·exact Option.some.inj hz
theorem Sq:∀ (h11_0_0:Int) (h11_0_1:Int) (h11_0_2:Int) (h11_0_4:(Int×(Int×Unit))) (h11_0_5:(List (List Int))) (x:Int) (c:St→Option (Ex×St)),den fO iE (aY iF 2) (xY h11_0_0 h11_0_1 h11_0_2 h11_0_4 h11_0_5 x) (bV jY.kp jY.kx c)=(iZ h11_0_2 h11_0_5 x).run (bW (xY h11_0_0 h11_0_1 h11_0_2 h11_0_4 h11_0_5) (vX h11_0_0 h11_0_1 h11_0_2 h11_0_4 h11_0_5) c):=fun _ _ _ _ _ _ _=>by
 kernel_rfl
theorem WS:bS fO iE (aY iF 2) jY:=bA fun s e s' h=>by
 generalize hs:restrict jY.kp s=s1 at h
 have h:(Kc s1).run some=some (e,s'):=h
 obtain ⟨d2,e1,h_0⟩:=ak h
 obtain ⟨e3,h_1⟩:=bI h_0
 obtain ⟨e4,h_2⟩:=bf h_1
 obtain ⟨d6,e5,h_3⟩:=ak h_2
 obtain ⟨d8,e7,h_4⟩:=ak h_3
 obtain ⟨d10,e9,h_5⟩:=ak h_4
 obtain ⟨m12,d13,e11,h_6⟩:=aH h_5
 obtain ⟨rfl,h_7⟩:=aQ h_6
 obtain ⟨m15,d16,e14,h_8⟩:=aH h_7
 obtain ⟨rfl,h_9⟩:=aQ h_8
 obtain ⟨y,hy,hz⟩:=bT h_9
 refine ⟨_,_,xY d2 d6 d8 d13 d16,vX d2 d6 d8 d13 d16,iZ d8 d16,d10,y,?_,hy,?_,Sq d2 d6 d8 d13 d16⟩
 ·subst hs;exact aT (T:=[(1,(.imm true (.int .i64) d2)),(3,(.ptr (5,0) [])),(7,(.ref (9,0) [])),(9,(.imm true (.int .i64) d6)),(10,(.imm true (.int .i64) d8)),(11,(.imm true (.int .i64) d10))]) (U:=[((5,0),some ⟨true,aM,.own,d13⟩),((9,0),some ⟨false,(.sl (.sl (.int .i64))),(.sl (.imm true)),d16⟩)]) rfl rfl ⟨e1,e3,e4,e5,e7,e9,trivial⟩ ⟨e11,e14,trivial⟩
 ·exact Option.some.inj hz
theorem Sr:∀ (h18_0_0:Int) (h18_0_1:Int) (h18_0_2:Int) (h18_0_4:(Int×(Int×Unit))) (x:(Int×(List (List Int)))) (c:St→Option (Ex×St)),den fO iE (aY iF 3) (xZ h18_0_0 h18_0_1 h18_0_2 h18_0_4 x) (bV jZ.kp jZ.kx c)=(jc h18_0_1 h18_0_2 h18_0_4 x).run (bW (xZ h18_0_0 h18_0_1 h18_0_2 h18_0_4) (vY h18_0_0 h18_0_1 h18_0_2 h18_0_4) c):=fun _ _ _ _ _ _=>by
 kernel_rfl
theorem WT:bS fO iE (aY iF 3) jZ:=bA fun s e s' h=>by
 generalize hs:restrict jZ.kp s=s1 at h
 have h:(Ke s1).run some=some (e,s'):=h
 obtain ⟨d2,e1,h_0⟩:=ak h
 obtain ⟨e3,h_1⟩:=bI h_0
 obtain ⟨e4,h_2⟩:=bf h_1
 obtain ⟨d6,e5,h_3⟩:=ak h_2
 obtain ⟨d8,e7,h_4⟩:=ak h_3
 obtain ⟨d10,e9,h_5⟩:=ak h_4
 obtain ⟨m12,d13,e11,h_6⟩:=aH h_5
 obtain ⟨rfl,h_7⟩:=aQ h_6
 obtain ⟨m15,d16,e14,h_8⟩:=aH h_7
 obtain ⟨rfl,h_9⟩:=aQ h_8
 obtain ⟨y,hy,hz⟩:=bT h_9
 refine ⟨_,_,xZ d2 d6 d8 d13,vY d2 d6 d8 d13,jc d6 d8 d13,(d10,d16),y,?_,hy,?_,Sr d2 d6 d8 d13⟩
 ·subst hs;exact aT (T:=[(1,(.imm true (.int .i64) d2)),(3,(.ptr (5,0) [])),(7,(.ref (9,0) [])),(9,(.imm true (.int .i64) d6)),(10,(.imm true (.int .i64) d8)),(13,(.imm true (.int .i64) d10))]) (U:=[((5,0),some ⟨true,aM,.own,d13⟩),((9,0),some ⟨false,(.sl (.sl (.int .i64))),(.sl (.imm true)),d16⟩)]) rfl rfl ⟨e1,e3,e4,e5,e7,e9,trivial⟩ ⟨e11,e14,trivial⟩
 ·exact Option.some.inj hz
theorem Vo:∀ (h8_0_0:Int) (h8_0_3:(Int×(Int×Unit))) (x:(Int×Int×(List (List Int)))) (c:St→Option (Ex×St)),den fO iE (aY iF 1) (zJ h8_0_0 h8_0_3 x) (bV kY.kp kY.kx c)=(iI h8_0_0 h8_0_3 x).run (bW (zJ h8_0_0 h8_0_3) (yg h8_0_0 h8_0_3) c):=fun _ _ _ _=>by
 kernel_rfl
theorem Zb:bS fO iE (aY iF 1) kY:=bA fun s e s' h=>by
 generalize hs:restrict kY.kp s=s1 at h
 have h:(Ml s1).run some=some (e,s'):=h
 obtain ⟨d2,e1,h_0⟩:=ak h
 obtain ⟨e3,h_1⟩:=bI h_0
 obtain ⟨e4,h_2⟩:=bf h_1
 obtain ⟨d6,e5,h_3⟩:=ak h_2
 obtain ⟨d8,e7,h_4⟩:=ak h_3
 obtain ⟨m10,d11,e9,h_5⟩:=aH h_4
 obtain ⟨rfl,h_6⟩:=aQ h_5
 obtain ⟨m13,d14,e12,h_7⟩:=aH h_6
 obtain ⟨rfl,h_8⟩:=aQ h_7
 obtain ⟨y,hy,hz⟩:=bT h_8
 refine ⟨_,_,zJ d2 d11,yg d2 d11,iI d2 d11,(d6,d8,d14),y,?_,hy,?_,Vo d2 d11⟩
 ·subst hs;exact aT (T:=[(1,(.imm true (.int .i64) d2)),(3,(.ptr (5,0) [])),(7,(.ref (9,0) [])),(9,(.imm true (.int .i64) d6)),(10,(.imm true (.int .i64) d8))]) (U:=[((5,0),some ⟨true,aM,.own,d11⟩),((9,0),some ⟨false,(.sl (.sl (.int .i64))),(.sl (.imm true)),d14⟩)]) rfl rfl ⟨e1,e3,e4,e5,e7,trivial⟩ ⟨e9,e12,trivial⟩
 ·exact Option.some.inj hz
noncomputable def Vl:FnI:=⟨iF,Tryz.f88.results.toList,Tryz.f88.resultTypes.toList,iE⟩
noncomputable def OA (_zp0:Bool) (_p0:(Int×(Int×Unit))) (_p1:Int) (_p2:(List (List Int))):(List (List Int))→aB:=fun r=>⟨(.ref (1,0) []),[],[⟨false,(.sl (.sl (.int .i64))),(.sl (.imm true)),r⟩]⟩
theorem aga:∀ (zp0:Bool) (p0:(Int×(Int×Unit))) (p1:Int) (p2:(List (List Int))),bQ fO Vl ⟨[(.imm true aM p0),(.imm true (.int .i64) p1),(.imm zp0 (.sl (.sl (.int .i64))) p2)],[]⟩=(Qk p0 p1 p2).run fun r=>some (OA zp0 p0 p1 p2 r):=fun _ _ _ _=>by kernel_rfl
noncomputable def Vk (av:List AV) (rs:List Root):Tre aB :=
 aJ av fun a0_ av0 =>
 aJ av0 fun a1_ av1 =>
 aJ av1 fun a2_ av2 =>
 aU av2 <|
 aU rs <|
 aC true aM a0_ fun d1 =>
 aC true (.int .i64) a1_ fun d2 =>
 bH (.sl (.sl (.int .i64))) a2_ fun z4 d3 =>
 .mat (BA d1 d2 d3) fun r=>.ret (OA z4 d1 d2 d3 r)
noncomputable def Vm:Ctr:=⟨[],fun ci=>Vk ci.args ci.roots,false⟩
theorem adE:bP Tryz.prog .none fO:=(aA amw acf (aA Rp atZ (aA amQ axp aP)))
theorem agb:Contract Tryz.prog .none 88 Vm:=by
 have hl:aZ fO iE iF:=(bC (n:=4) (by kernel_rfl) fun k hk=>by
   match k,hk with
   |0,_=>exact bq (id:=3) (L:=kX) (by kernel_rfl) (by kernel_rfl) Za
   |1,_=>exact bq (id:=8) (L:=kY) (by kernel_rfl) (by kernel_rfl) Zb
   |2,_=>exact bq (id:=11) (L:=jY) (by kernel_rfl) (by kernel_rfl) WS
   |3,_=>exact bq (id:=18) (L:=jZ) (by kernel_rfl) (by kernel_rfl) WT)
 refine (aI (F:=Vl) bn adE Tryz.func88 (by kernel_rfl) (by kernel_rfl) (by kernel_rfl) hl []).weaken ?_
 rintro ⟨av,rs⟩ co h
 have h:(Vk av rs).run some=some co:=h
 obtain ⟨a0_,av0,rfl,h_0⟩:=au h
 obtain ⟨a1_,av1,rfl,h_1⟩:=au h_0
 obtain ⟨a2_,av2,rfl,h_2⟩:=au h_1
 obtain ⟨rfl,h_3⟩:=ay h_2
 obtain ⟨rfl,h_4⟩:=ay h_3
 obtain ⟨d1,rfl,h_5⟩:=ak h_4
 obtain ⟨d2,rfl,h_6⟩:=ak h_5
 obtain ⟨z4,d3,rfl,h_7⟩:=aF h_6
 exact bK (aga z4 d1 d2 d3) h_7
noncomputable def Ab (h2_0_0:(List Int)) (h2_0_1:Int):Int→Tre (Int ⊕ (Bool ⊕ Unit)):=fun s2 =>
 .cond (decide (s2 < (h2_0_0.length:Int)))
  (.ite (0≤s2∧s2 < (h2_0_0.length:Int)) <|
  .mat (h2_0_0[s2.toNat]?) fun x1 =>
  .cond (decide (x1=h2_0_1))
   (.ret (.inr (.inl true)))
   (.ret (.inl (aO .i64 (s2+1)))))
  (.ret (.inr (.inr ())))
noncomputable def ail (p0:(List Int)) (p1:Int):Tre Bool :=
 .mat (aR (Ab p0 p1) 0) fun l2 =>
 .alt l2
  (fun a3 =>
   .ret a3)
  (fun _ =>
   .ret false)
noncomputable def P8 (p0:(List Int)) (p1:Int):Option Bool:=(ail p0 p1).run some
noncomputable def JM:Env:=⟨tau,[],[]⟩
noncomputable def P9:Code:=(Tryz.f89.body).getD .skip
noncomputable def JN (z2_0:Bool) (h2_0_0:(List Int)) (h2_0_1:Int):Int→St:=fun x=>bR [(0,(.imm z2_0 (.sl (.int .i64)) h2_0_0)),(1,(.imm true (.int .i64) h2_0_1)),(5,(.imm true (.int .i64) x))] []
noncomputable def yS (_z2_0:Bool) (_h2_0_0:(List Int)) (_h2_0_1:Int):(Bool ⊕ Unit)→Ex×St
 |.inl x=>(.ret,bR [(4,(.imm true .bool x))] [])
 |.inr _=>(.exit 0,bR [(4,.dead)] [])
noncomputable def XG (s:St):Tre (Ex×St) :=
 bH (.sl (.int .i64)) (s.tmps 0) fun z3 d2 =>
 aC true (.int .i64) (s.tmps 1) fun d5 =>
 aC true (.int .i64) (s.tmps 5) fun d7 =>
 .mat (aR (Ab d2 d5) d7) fun x=>.alt x (fun a0=>.ret (yS z3 d2 d5 (.inl a0))) (fun b0=>.ret (yS z3 d2 d5 (.inr b0)))
noncomputable def sS:bJ:=⟨([0,1,5],[]),([4],[]),XG⟩
noncomputable def P7:List (Nat×bJ):=[(2,sS)]
theorem adf:∀ (z2_0:Bool) (h2_0_0:(List Int)) (h2_0_1:Int) (x:Int) (c:St→Option (Ex×St)),den JM P7 (aY P9 0) (JN z2_0 h2_0_0 h2_0_1 x) (bV sS.kp sS.kx c)=(Ab h2_0_0 h2_0_1 x).run (bW (JN z2_0 h2_0_0 h2_0_1) (yS z2_0 h2_0_0 h2_0_1) c):=fun _ _ _ _ _=>by
 kernel_rfl
theorem aiq:bS JM P7 (aY P9 0) sS:=bA fun s e s' h=>by
 generalize hs:restrict sS.kp s=s1 at h
 have h:(XG s1).run some=some (e,s'):=h
 obtain ⟨z3,d2,e1,h_0⟩:=aF h
 obtain ⟨d5,e4,h_1⟩:=ak h_0
 obtain ⟨d7,e6,h_2⟩:=ak h_1
 obtain ⟨y,hy,hz⟩:=kE h_2
 refine ⟨_,_,JN z3 d2 d5,yS z3 d2 d5,Ab d2 d5,d7,y,?_,hy,?_,adf z3 d2 d5⟩
 ·subst hs;exact aT (T:=[(0,(.imm z3 (.sl (.int .i64)) d2)),(1,(.imm true (.int .i64) d5)),(5,(.imm true (.int .i64) d7))]) (U:=[]) rfl rfl ⟨e1,e4,e6,trivial⟩ trivial
 ·rcases y with x | x <;> exact Option.some.inj hz
noncomputable def aio:FnI:=⟨P9,Tryz.f89.results.toList,Tryz.f89.resultTypes.toList,P7⟩
noncomputable def aaZ (_zp0:Bool) (_p0:(List Int)) (_p1:Int):Bool→aB:=fun r=>⟨(.imm true .bool r),[],[]⟩
theorem aoR:∀ (zp0:Bool) (p0:(List Int)) (p1:Int),bQ JM aio ⟨[(.imm zp0 (.sl (.int .i64)) p0),(.imm true (.int .i64) p1)],[]⟩=(ail p0 p1).run fun r=>some (aaZ zp0 p0 p1 r):=fun _ _ _=>by kernel_rfl
noncomputable def ain (av:List AV) (rs:List Root):Tre aB :=
 aJ av fun a0_ av0 =>
 aJ av0 fun a1_ av1 =>
 aU av1 <|
 aU rs <|
 bH (.sl (.int .i64)) a0_ fun z2 d1 =>
 aC true (.int .i64) a1_ fun d3 =>
 .mat (P8 d1 d3) fun r=>.ret (aaZ z2 d1 d3 r)
noncomputable def aip:Ctr:=⟨[],fun ci=>ain ci.args ci.roots,false⟩
theorem ams:bP Tryz.prog .none JM:=aP
theorem aoS:Contract Tryz.prog .none 89 aip:=by
 have hl:aZ JM P7 P9:=(bC (n:=1) (by kernel_rfl) fun k hk=>by
   match k,hk with
   |0,_=>exact bq (id:=2) (L:=sS) (by kernel_rfl) (by kernel_rfl) aiq)
 refine (aI (F:=aio) bn ams Tryz.func89 (by kernel_rfl) (by kernel_rfl) (by kernel_rfl) hl []).weaken ?_
 rintro ⟨av,rs⟩ co h
 have h:(ain av rs).run some=some co:=h
 obtain ⟨a0_,av0,rfl,h_0⟩:=au h
 obtain ⟨a1_,av1,rfl,h_1⟩:=au h_0
 obtain ⟨rfl,h_2⟩:=ay h_1
 obtain ⟨rfl,h_3⟩:=ay h_2
 obtain ⟨z2,d1,rfl,h_4⟩:=aF h_3
 obtain ⟨d3,rfl,h_5⟩:=ak h_4
 exact bK (aoR z2 d1 d3) h_5
noncomputable def Ae:Tre (List Int) :=
 .ret []
noncomputable def KO:Option (List Int):=(Ae).run some
theorem Gc:KO=some []:=rfl
noncomputable def ni:Env:=⟨tau,[],[]⟩
noncomputable def xH:Code:=(Tryz.f65.body).getD .skip
noncomputable def xG:FnI:=⟨xH,Tryz.f65.results.toList,Tryz.f65.resultTypes.toList,[]⟩
noncomputable def uJ:(List Int)→aB:=fun r=>⟨(.ref (1,0) []),[],[⟨false,(.sl (.int .i64)),.own,r⟩]⟩
theorem Kw:bQ ni xG ⟨[.nil],[]⟩=(Ae).run fun r=>some (uJ r):=by kernel_rfl
noncomputable def xE (av:List AV) (rs:List Root):Tre aB :=
 aJ av fun a0_ av0 =>
 aU av0 <|
 aU rs <|
 atw a0_ <|
 .ret (uJ [])
noncomputable def KP:Ctr:=⟨[],fun ci=>xE ci.args ci.roots,false⟩
theorem Ic:bP Tryz.prog .none ni:=aP
theorem Ky:Contract Tryz.prog .none 65 KP:=by
 have hl:aZ ni [] xH:=bB (by kernel_rfl)
 refine (aI (F:=xG) bn Ic Tryz.func65 (by kernel_rfl) (by kernel_rfl) (by kernel_rfl) hl []).weaken ?_
 rintro ⟨av,rs⟩ co h
 have h:(xE av rs).run some=some co:=h
 obtain ⟨a0_,av0,rfl,h_0⟩:=au h
 obtain ⟨rfl,h_1⟩:=ay h_0
 obtain ⟨rfl,h_2⟩:=ay h_1
 obtain ⟨rfl,h_3⟩:=apw h_2
 exact wE (Kw) (Gc) h_3
noncomputable def qC (p0:(List Int)):Tre (List Int) :=
 .ite ((0+p0.length) * 8≤bM∧1≤8) <|
 .ret ([]++p0)
noncomputable def xA (p0:(List Int)):Option (List Int):=(qC p0).run some
theorem Gb (p0:List Int) (y:List Int) (h:fD p0=some y):xA p0=some y:=by
 obtain ⟨hl,rfl⟩:=aay h
 have hb:(0+p0.length) * 8≤bM∧1≤8:=by unfold bM;omega
 unfold xA qC
 rw [Tre.run_ite,if_pos hb]
 rfl
noncomputable def ng:Env:=⟨tau,[],[]⟩
noncomputable def xD:Code:=(Tryz.f65.body).getD .skip
noncomputable def xC:FnI:=⟨xD,Tryz.f65.results.toList,Tryz.f65.resultTypes.toList,[]⟩
noncomputable def uI (_zp0:Bool) (_p0:(List Int)):(List Int)→aB:=fun r=>⟨(.ref (1,0) []),[],[⟨false,(.sl (.int .i64)),.own,r⟩]⟩
theorem Ku:∀ (zp0:Bool) (p0:(List Int)),bQ ng xC ⟨[(.nn zp0 (.int .i64) p0)],[]⟩=(qC p0).run fun r=>some (uI zp0 p0 r):=fun _ _=>by kernel_rfl
noncomputable def xB (av:List AV) (rs:List Root):Tre aB :=
 aJ av fun a0_ av0 =>
 aU av0 <|
 aU rs <|
 ax4 (.int .i64) a0_ fun z1 d2 =>
 .mat (fD d2) fun r=>.ret (uI z1 d2 r)
noncomputable def KN:Ctr:=⟨[],fun ci=>xB ci.args ci.roots,false⟩
theorem Ib:bP Tryz.prog .none ng:=aP
theorem Kv:Contract Tryz.prog .none 65 KN:=by
 have hl:aZ ng [] xD:=bB (by kernel_rfl)
 refine (aI (F:=xC) bn Ib Tryz.func65 (by kernel_rfl) (by kernel_rfl) (by kernel_rfl) hl []).weaken ?_
 rintro ⟨av,rs⟩ co h
 have h:(xB av rs).run some=some co:=h
 obtain ⟨a0_,av0,rfl,h_0⟩:=au h
 obtain ⟨rfl,h_1⟩:=ay h_0
 obtain ⟨rfl,h_2⟩:=ay h_1
 obtain ⟨z1,d2,rfl,h_3⟩:=arV h_2
 exact wD (Ku z1 d2) (Gb d2) h_3
theorem Qq (y:List Int) (h:fD ([]:List Int)=some y):y=[]:=(aay h).2.symm
noncomputable def Fg (av:List AV) (rs:List Root):Tre aB :=
 aJ av fun a0_ av0 =>
 aU av0 <|
 aU rs <|
 bH (.sl (.int .i64)) a0_ fun z2 d1 =>
 .mat (fD d1) fun r=>.ret ⟨(.ref (1,0) []),[],[⟨false,(.sl (.int .i64)),.own,r⟩]⟩
noncomputable def kH:Ctr:=⟨[],fun ci=>Fg ci.args ci.roots,false⟩
theorem mU:Contract Tryz.prog .none 65 kH:=by
 refine alI (e:=(.int .i64)) Ky Kv ?_
 rintro ⟨av,rs⟩ co h
 have h:(Fg av rs).run some=some co:=h
 obtain ⟨a0_,av0,rfl,h_0⟩:=au h
 obtain ⟨rfl,h_1⟩:=ay h_0
 obtain ⟨rfl,h_2⟩:=ay h_1
 obtain ⟨z2,d1,rfl,h_3⟩:=aF h_2
 refine ⟨z2,d1,rfl,?_,?_⟩
 ·exact h_3
 ·rintro rfl
  obtain ⟨y,h1,h2⟩:=bT h_3
  have hy:y=[]:=by
   have:=Qq y h1
   exact this
  subst hy
  rw [← h2];rfl
noncomputable def tO (p0:(List Int)) (p1:Int):Tre Bool :=
 .ite (0≤p1∧p1 < (p0.length:Int)) <|
 .mat (p0[p1.toNat]?) fun x1 =>
 .ret (!decide (x1=0))
noncomputable def kN (p0:(List Int)) (p1:Int):Option Bool:=(tO p0 p1).run some
-- more
theorem ayW {r:List Int} {c:Nat} (h:c < r.length):kN r (c:Int)=some (CY c r):=by
 unfold kN tO
 have hx:=List.getElem?_eq_getElem h
 rw [Tre.run_ite,if_pos ⟨by omega,by omega⟩,Int.toNat_natCast,ah hx,Tre.aL]
 unfold CY
 rw [hx]
noncomputable def pG:Env:=⟨tau,[],[]⟩
noncomputable def zR:Code:=(Tryz.f123.body).getD .skip
noncomputable def zQ:FnI:=⟨zR,Tryz.f123.results.toList,Tryz.f123.resultTypes.toList,[]⟩
noncomputable def w9 (_zp0:Bool) (_p0:(List Int)) (p1:Int):Bool→aB:=fun r=>⟨(.imm true .bool r),[⟨true,(.int .i64),.own,p1⟩],[]⟩
theorem MG:∀ (zp0:Bool) (p0:(List Int)) (p1:Int),bQ pG zQ ⟨[(.imm zp0 (.sl (.int .i64)) p0),(.ptr (0,0) [])],[⟨true,(.int .i64),.own,p1⟩]⟩=(tO p0 p1).run fun r=>some (w9 zp0 p0 p1 r):=fun _ _ _=>by kernel_rfl
noncomputable def zP (av:List AV) (rs:List Root):Tre aB :=
 aJ av fun a0_ av0 =>
 aJ av0 fun a1_ av1 =>
 aU av1 <|
 aJ rs fun r0_ rs0 =>
 aU rs0 <|
 bH (.sl (.int .i64)) a0_ fun z2 d1 =>
 dW (0,0) [] a1_ <|
 Io true (.int .i64) r0_ fun m3 d4 =>
 asM .own m3 <|
 .mat (kN d1 d4) fun r=>.ret (w9 z2 d1 d4 r)
noncomputable def zS:Ctr:=⟨[],fun ci=>zP ci.args ci.roots,false⟩
theorem KH:bP Tryz.prog .none pG:=aP
theorem MH:Contract Tryz.prog .none 123 zS:=by
 have hl:aZ pG [] zR:=bB (by kernel_rfl)
 refine (aI (F:=zQ) bn KH Tryz.func123 (by kernel_rfl) (by kernel_rfl) (by kernel_rfl) hl []).weaken ?_
 rintro ⟨av,rs⟩ co h
 have h:(zP av rs).run some=some co:=h
 obtain ⟨a0_,av0,rfl,h_0⟩:=au h
 obtain ⟨a1_,av1,rfl,h_1⟩:=au h_0
 obtain ⟨rfl,h_2⟩:=ay h_1
 obtain ⟨r0_,rs0,rfl,h_3⟩:=au h_2
 obtain ⟨rfl,h_4⟩:=ay h_3
 obtain ⟨z2,d1,rfl,h_5⟩:=aF h_4
 obtain ⟨rfl,h_6⟩:=bI h_5
 obtain ⟨m3,d4,rfl,h_7⟩:=eX h_6
 obtain ⟨rfl,h_8⟩:=aQ h_7
 exact bK (MG z2 d1 d4) h_8
noncomputable def acY (h2_0_0:(List (List Int))) (h2_0_1:Int) (h2_0_3:Int):Int→Tre (Int ⊕ (Int ⊕ Unit)):=fun s2 =>
 .cond (decide (s2 < h2_0_1))
  (.ite (0≤s2∧s2 < (h2_0_0.length:Int)) <|
  .mat (h2_0_0[s2.toNat]?) fun x1 =>
  .mat (kN x1 h2_0_3) fun r2 =>
  .cond r2
   (.ret (.inr (.inl s2)))
   (.ret (.inl (aO .i64 (s2+1)))))
  (.ret (.inr (.inr ())))
noncomputable def nm3 (p0:(List (List Int))) (p1:Int):Tre Int :=
 .mat (aR (acY p0 (p0.length:Int) p1) 0) fun l3 =>
 .alt l3
  (fun a4 =>
   .ret a4)
  (fun _ =>
   .ret (-1))
noncomputable def arn (p0:(List (List Int))) (p1:Int):Option Int:=(nm3 p0 p1).run some
-- more
theorem awC {xs:List (List Int)} {c:Nat} (hc:∀ r∈xs,c < r.length) (hl:xs.length≤1048576):arn xs (c:Int)=some (nR (CY c) 0 xs):=by
 unfold arn nm3
 rw [Tre.nX,Np (xs:=xs) (fun i x=>cond (CY c x) (some (.inl (i:Int))) none) (.inr ())]
 ·rw [Option.bind_some,← VH (p:=fun x=>CY c x)]
  generalize SK _ _ _ _=r
  cases r <;> rfl
 ·intro i x hx
  have hi:i < xs.length:=(List.getElem?_eq_some_iff.1 hx).1
  unfold acY
  rw [eu hx,ah (ayW (hc x (List.mem_of_getElem? hx))),Tre.aG]
  cases CY c x
  ·simp only [cond_false,Tre.aL,aX (show i < 4611686018427387904 by omega)]
  ·rfl
 ·unfold acY
  exact dF
noncomputable def aox:Env:=⟨tau,[(123,zS)],[]⟩
noncomputable def aro:Code:=(Tryz.f122.body).getD .skip
noncomputable def acZ (z2_0:Bool) (h2_0_0:(List (List Int))) (h2_0_1:Int) (h2_0_3:Int):Int→St:=fun x=>bR [(0,(.imm z2_0 (.sl (.sl (.int .i64))) h2_0_0)),(1,(.fn 123 [(0,0)])),(7,(.imm true (.int .i64) h2_0_1)),(8,(.imm true (.int .i64) x))] [((0,0),some ⟨true,(.int .i64),.own,h2_0_3⟩)]
noncomputable def PW (_z2_0:Bool) (_h2_0_0:(List (List Int))) (_h2_0_1:Int) (h2_0_3:Int):(Int ⊕ Unit)→Ex×St
 |.inl x=>(.ret,bR [(4,(.imm true (.int .i64) x))] [((0,0),some ⟨true,(.int .i64),.own,h2_0_3⟩)])
 |.inr _=>(.exit 0,bR [(4,.dead)] [((0,0),some ⟨true,(.int .i64),.own,h2_0_3⟩)])
noncomputable def aoy (s:St):Tre (Ex×St) :=
 bH (.sl (.sl (.int .i64))) (s.tmps 0) fun z3 d2 =>
 Zq 123 [(0,0)] (s.tmps 1) <|
 aC true (.int .i64) (s.tmps 7) fun d6 =>
 aC true (.int .i64) (s.tmps 8) fun d8 =>
 bD true (.int .i64) (s.roots (0,0)) fun m10 d11 =>
 asM .own m10 <|
 .mat (aR (acY d2 d6 d11) d8) fun x=>.alt x (fun a0=>.ret (PW z3 d2 d6 d11 (.inl a0))) (fun b0=>.ret (PW z3 d2 d6 d11 (.inr b0)))
noncomputable def Og:bJ:=⟨([0,1,7,8],[(0,0)]),([4],[(0,0)]),aoy⟩
noncomputable def arl:List (Nat×bJ):=[(2,Og)]
theorem aoz:∀ (z2_0:Bool) (h2_0_0:(List (List Int))) (h2_0_1:Int) (h2_0_3:Int) (x:Int) (c:St→Option (Ex×St)),den aox arl (aY aro 0) (acZ z2_0 h2_0_0 h2_0_1 h2_0_3 x) (bV Og.kp Og.kx c)=(acY h2_0_0 h2_0_1 h2_0_3 x).run (bW (acZ z2_0 h2_0_0 h2_0_1 h2_0_3) (PW z2_0 h2_0_0 h2_0_1 h2_0_3) c):=fun _ _ _ _ _ _=>by
 kernel_rfl
theorem asI:bS aox arl (aY aro 0) Og:=bA fun s e s' h=>by
 generalize hs:restrict Og.kp s=s1 at h
 have h:(aoy s1).run some=some (e,s'):=h
 obtain ⟨z3,d2,e1,h_0⟩:=aF h
 obtain ⟨e4,h_1⟩:=nk h_0
 obtain ⟨d6,e5,h_2⟩:=ak h_1
 obtain ⟨d8,e7,h_3⟩:=ak h_2
 obtain ⟨m10,d11,e9,h_4⟩:=aH h_3
 obtain ⟨rfl,h_5⟩:=aQ h_4
 obtain ⟨y,hy,hz⟩:=kE h_5
 refine ⟨_,_,acZ z3 d2 d6 d11,PW z3 d2 d6 d11,acY d2 d6 d11,d8,y,?_,hy,?_,aoz z3 d2 d6 d11⟩
 ·subst hs;exact aT (T:=[(0,(.imm z3 (.sl (.sl (.int .i64))) d2)),(1,(.fn 123 [(0,0)])),(7,(.imm true (.int .i64) d6)),(8,(.imm true (.int .i64) d8))]) (U:=[((0,0),some ⟨true,(.int .i64),.own,d11⟩)]) rfl rfl ⟨e1,e4,e5,e7,trivial⟩ ⟨e9,trivial⟩
 ·rcases y with x | x <;> exact Option.some.inj hz
noncomputable def axL:FnI:=⟨aro,Tryz.f122.results.toList,Tryz.f122.resultTypes.toList,arl⟩
noncomputable def arp (_zp0:Bool) (_p0:(List (List Int))) (p1:Int):Int→aB:=fun r=>⟨(.imm true (.int .i64) r),[⟨true,(.int .i64),.own,p1⟩],[]⟩
theorem ayM:∀ (zp0:Bool) (p0:(List (List Int))) (p1:Int),bQ aox axL ⟨[(.imm zp0 (.sl (.sl (.int .i64))) p0),(.fn 123 [(0,0)])],[⟨true,(.int .i64),.own,p1⟩]⟩=(nm3 p0 p1).run fun r=>some (arp zp0 p0 p1 r):=fun _ _ _=>by kernel_rfl
noncomputable def axK (av:List AV) (rs:List Root):Tre aB :=
 aJ av fun a0_ av0 =>
 aJ av0 fun a1_ av1 =>
 aU av1 <|
 aJ rs fun r0_ rs0 =>
 aU rs0 <|
 bH (.sl (.sl (.int .i64))) a0_ fun z2 d1 =>
 Zq 123 [(0,0)] a1_ <|
 Io true (.int .i64) r0_ fun m3 d4 =>
 asM .own m3 <|
 .mat (arn d1 d4) fun r=>.ret (arp z2 d1 d4 r)
noncomputable def axM:Ctr:=⟨[],fun ci=>axK ci.args ci.roots,false⟩
theorem awq:bP Tryz.prog .none aox:=(aA MH ayk aP)
theorem ayN:Contract Tryz.prog .none 122 axM:=by
 have hl:aZ aox arl aro:=(bC (n:=1) (by kernel_rfl) fun k hk=>by
   match k,hk with
   |0,_=>exact bq (id:=2) (L:=Og) (by kernel_rfl) (by kernel_rfl) asI)
 refine (aI (F:=axL) bn awq Tryz.func122 (by kernel_rfl) (by kernel_rfl) (by kernel_rfl) hl []).weaken ?_
 rintro ⟨av,rs⟩ co h
 have h:(axK av rs).run some=some co:=h
 obtain ⟨a0_,av0,rfl,h_0⟩:=au h
 obtain ⟨a1_,av1,rfl,h_1⟩:=au h_0
 obtain ⟨rfl,h_2⟩:=ay h_1
 obtain ⟨r0_,rs0,rfl,h_3⟩:=au h_2
 obtain ⟨rfl,h_4⟩:=ay h_3
 obtain ⟨z2,d1,rfl,h_5⟩:=aF h_4
 obtain ⟨rfl,h_6⟩:=nk h_5
 obtain ⟨m3,d4,rfl,h_7⟩:=eX h_6
 obtain ⟨rfl,h_8⟩:=aQ h_7
 exact bK (ayM z2 d1 d4) h_8
noncomputable def MB (p0:(Int×(Int×Unit))):Tre Int :=
 .ite (0≤p0.1) <|
 .ret (acG .i64 1 p0.1)
noncomputable def rT (p0:(Int×(Int×Unit))):Option Int:=(MB p0).run some
noncomputable def Fu:Env:=⟨tau,[],[]⟩
noncomputable def QB:Code:=(Tryz.f95.body).getD .skip
noncomputable def QA:FnI:=⟨QB,Tryz.f95.results.toList,Tryz.f95.resultTypes.toList,[]⟩
noncomputable def K3 (_p0:(Int×(Int×Unit))):Int→aB:=fun r=>⟨(.imm true (.int .i64) r),[],[]⟩
theorem acn:∀ (p0:(Int×(Int×Unit))),bQ Fu QA ⟨[(.imm true aM p0)],[]⟩=(MB p0).run fun r=>some (K3 p0 r):=fun _=>by kernel_rfl
noncomputable def Qz (av:List AV) (rs:List Root):Tre aB :=
 aJ av fun a0_ av0 =>
 aU av0 <|
 aU rs <|
 aC true aM a0_ fun d1 =>
 .mat (rT d1) fun r=>.ret (K3 d1 r)
noncomputable def Fv:Ctr:=⟨[],fun ci=>Qz ci.args ci.roots,false⟩
theorem ZE:bP Tryz.prog .none Fu:=aP
theorem Ns:Contract Tryz.prog .none 95 Fv:=by
 have hl:aZ Fu [] QB:=bB (by kernel_rfl)
 refine (aI (F:=QA) bn ZE Tryz.func95 (by kernel_rfl) (by kernel_rfl) (by kernel_rfl) hl []).weaken ?_
 rintro ⟨av,rs⟩ co h
 have h:(Qz av rs).run some=some co:=h
 obtain ⟨a0_,av0,rfl,h_0⟩:=au h
 obtain ⟨rfl,h_1⟩:=ay h_0
 obtain ⟨rfl,h_2⟩:=ay h_1
 obtain ⟨d1,rfl,h_3⟩:=ak h_2
 exact bK (acn d1) h_3
noncomputable def wJ (h2_0_3:(Int×(Int×Unit))):(Int×Int×Int)→Tre ((Int×Int×Int) ⊕ Int):=fun s2 =>
 .cond (decide (s2.2.1 > 0))
  (.cond (decide (afK .i64 s2.2.1 1=1))
   (.mat (bX h2_0_3 s2.2.2 s2.1) fun r1 =>
   .mat (bX h2_0_3 s2.1 s2.1) fun r2 =>
   .ret (.inl (r2,YM .i64 s2.2.1 1,r1)))
   (.mat (bX h2_0_3 s2.1 s2.1) fun r3 =>
   .ret (.inl (r3,YM .i64 s2.2.1 1,s2.2.2))))
  (.ret (.inr s2.2.2))
noncomputable def Xl (p0:(Int×(Int×Unit))) (p1:Int) (p2:Int):Tre Int :=
 .mat (aR (wJ p0) (p1,p2,1)) fun l4 =>
 .ret l4
noncomputable def QF (p0:(Int×(Int×Unit))) (p1:Int) (p2:Int):Option Int:=(Xl p0 p1 p2).run some
noncomputable def rU:Env:=⟨tau,[(75,ow)],[]⟩
noncomputable def yO:Code:=(Tryz.f113.body).getD .skip
noncomputable def xM (h2_0_3:(Int×(Int×Unit))):(Int×Int×Int)→St:=fun x=>bR [(1,(.imm true (.int .i64) x.1)),(2,(.imm true (.int .i64) x.2.1)),(3,(.ptr (5,0) [])),(7,(.imm true (.int .i64) x.2.2))] [((5,0),some ⟨true,aM,.own,h2_0_3⟩)]
noncomputable def uU (_h2_0_3:(Int×(Int×Unit))):Int→Ex×St:=fun x=>(.exit 0,bR [(7,(.imm true (.int .i64) x))] [])
noncomputable def IE (s:St):Tre (Ex×St) :=
 aC true (.int .i64) (s.tmps 1) fun d2 =>
 aC true (.int .i64) (s.tmps 2) fun d4 =>
 dW (5,0) [] (s.tmps 3) <|
 aC true (.int .i64) (s.tmps 7) fun d7 =>
 bD true aM (s.roots (5,0)) fun m9 d10 =>
 asM .own m9 <|
 .mat (aR (wJ d10) (d2,d4,d7)) fun x=>.ret (uU d10 x)
noncomputable def jO:bJ:=⟨([1,2,3,7],[(5,0)]),([7],[]),IE⟩
noncomputable def yN:List (Nat×bJ):=[(2,jO)]
theorem RQ:∀ (h2_0_3:(Int×(Int×Unit))) (x:(Int×Int×Int)) (c:St→Option (Ex×St)),den rU yN (aY yO 0) (xM h2_0_3 x) (bV jO.kp jO.kx c)=(wJ h2_0_3 x).run (bW (xM h2_0_3) (uU h2_0_3) c):=fun _ _ _=>by
 kernel_rfl
theorem Wn:bS rU yN (aY yO 0) jO:=bA fun s e s' h=>by
 generalize hs:restrict jO.kp s=s1 at h
 have h:(IE s1).run some=some (e,s'):=h
 obtain ⟨d2,e1,h_0⟩:=ak h
 obtain ⟨d4,e3,h_1⟩:=ak h_0
 obtain ⟨e5,h_2⟩:=bI h_1
 obtain ⟨d7,e6,h_3⟩:=ak h_2
 obtain ⟨m9,d10,e8,h_4⟩:=aH h_3
 obtain ⟨rfl,h_5⟩:=aQ h_4
 obtain ⟨y,hy,hz⟩:=bT h_5
 refine ⟨_,_,xM d10,uU d10,wJ d10,(d2,d4,d7),y,?_,hy,?_,RQ d10⟩
 ·subst hs;exact aT (T:=[(1,(.imm true (.int .i64) d2)),(2,(.imm true (.int .i64) d4)),(3,(.ptr (5,0) [])),(7,(.imm true (.int .i64) d7))]) (U:=[((5,0),some ⟨true,aM,.own,d10⟩)]) rfl rfl ⟨e1,e3,e5,e6,trivial⟩ ⟨e8,trivial⟩
 ·exact Option.some.inj hz
noncomputable def QH:FnI:=⟨yO,Tryz.f113.results.toList,Tryz.f113.resultTypes.toList,yN⟩
noncomputable def Lb (_p0:(Int×(Int×Unit))) (_p1:Int) (_p2:Int):Int→aB:=fun r=>⟨(.imm true (.int .i64) r),[],[]⟩
theorem acp:∀ (p0:(Int×(Int×Unit))) (p1:Int) (p2:Int),bQ rU QH ⟨[(.imm true aM p0),(.imm true (.int .i64) p1),(.imm true (.int .i64) p2)],[]⟩=(Xl p0 p1 p2).run fun r=>some (Lb p0 p1 p2 r):=fun _ _ _=>by kernel_rfl
noncomputable def QG (av:List AV) (rs:List Root):Tre aB :=
 aJ av fun a0_ av0 =>
 aJ av0 fun a1_ av1 =>
 aJ av1 fun a2_ av2 =>
 aU av2 <|
 aU rs <|
 aC true aM a0_ fun d1 =>
 aC true (.int .i64) a1_ fun d2 =>
 aC true (.int .i64) a2_ fun d3 =>
 .mat (QF d1 d2 d3) fun r=>.ret (Lb d1 d2 d3 r)
noncomputable def QI:Ctr:=⟨[],fun ci=>QG ci.args ci.roots,false⟩
theorem ZJ:bP Tryz.prog .none rU:=(aA pE akE aP)
theorem acr:Contract Tryz.prog .none 113 QI:=by
 have hl:aZ rU yN yO:=(bC (n:=1) (by kernel_rfl) fun k hk=>by
   match k,hk with
   |0,_=>exact bq (id:=2) (L:=jO) (by kernel_rfl) (by kernel_rfl) Wn)
 refine (aI (F:=QH) bn ZJ Tryz.func113 (by kernel_rfl) (by kernel_rfl) (by kernel_rfl) hl []).weaken ?_
 rintro ⟨av,rs⟩ co h
 have h:(QG av rs).run some=some co:=h
 obtain ⟨a0_,av0,rfl,h_0⟩:=au h
 obtain ⟨a1_,av1,rfl,h_1⟩:=au h_0
 obtain ⟨a2_,av2,rfl,h_2⟩:=au h_1
 obtain ⟨rfl,h_3⟩:=ay h_2
 obtain ⟨rfl,h_4⟩:=ay h_3
 obtain ⟨d1,rfl,h_5⟩:=ak h_4
 obtain ⟨d2,rfl,h_6⟩:=ak h_5
 obtain ⟨d3,rfl,h_7⟩:=ak h_6
 exact bK (acp d1 d2 d3) h_7
noncomputable def QD (p0:(Int×(Int×Unit))) (p1:Int):Tre Int :=
 .mat (rT p0) fun r1 =>
 .mat (QF p0 p1 (aO .i64 (r1 - 2))) fun r2 =>
 .ret r2
noncomputable def bZ (p0:(Int×(Int×Unit))) (p1:Int):Option Int:=(QD p0 p1).run some
-- more
set_option maxRecDepth 100000
theorem ayz:Aj bZ tX 1 2=true:=by kernel_rfl
theorem ayA:Aj bZ tX 1 3=true:=by kernel_rfl
theorem ayB:Aj bZ tX 2 7=true:=by kernel_rfl
theorem avP:Aj bZ tX 3 11=true:=by kernel_rfl
theorem avQ:Aj bZ tX 3 13=true:=by kernel_rfl
theorem avR:Aj bZ tX 4 19=true:=by kernel_rfl
theorem avS:Aj bZ tX 4 25=true:=by kernel_rfl
theorem avT:Aj bZ tX 4 31=true:=by kernel_rfl
theorem avU:Aj bZ tX 5 37=true:=by kernel_rfl
theorem avV:Aj bZ tX 5 41=true:=by kernel_rfl
theorem avW:Aj bZ tX 5 47=true:=by kernel_rfl
theorem avX:Aj bZ tX 5 55=true:=by kernel_rfl
theorem avY:Aj bZ tX 5 59=true:=by kernel_rfl
theorem avZ:Aj bZ tX 5 61=true:=by kernel_rfl
theorem aqX {f:TF3} (hf:aN f=true) {a:Int} (ha:inF f a):bZ f a=some (Ag f a):=by
 refine auS (fun q hq=>?_) hf ha
 simp only [ji,List.mem_cons,List.not_mem_nil,or_false] at hq
 rcases hq with rfl | rfl | rfl | rfl | rfl | rfl | rfl | rfl | rfl | rfl | rfl | rfl | rfl | rfl
 ·exact ayz
 ·exact ayA
 ·exact ayB
 ·exact avP
 ·exact avQ
 ·exact avR
 ·exact avS
 ·exact avT
 ·exact avU
 ·exact avV
 ·exact avW
 ·exact avX
 ·exact avY
 ·exact avZ
noncomputable def Aq:Env:=⟨tau,[(95,Fv),(113,QI)],[]⟩
noncomputable def K6:Code:=(Tryz.f76.body).getD .skip
noncomputable def K5:FnI:=⟨K6,Tryz.f76.results.toList,Tryz.f76.resultTypes.toList,[]⟩
noncomputable def Gp (_p0:(Int×(Int×Unit))) (_p1:Int):Int→aB:=fun r=>⟨(.imm true (.int .i64) r),[],[]⟩
theorem Yv:∀ (p0:(Int×(Int×Unit))) (p1:Int),bQ Aq K5 ⟨[(.imm true aM p0),(.imm true (.int .i64) p1)],[]⟩=(QD p0 p1).run fun r=>some (Gp p0 p1 r):=fun _ _=>by kernel_rfl
noncomputable def K4 (av:List AV) (rs:List Root):Tre aB :=
 aJ av fun a0_ av0 =>
 aJ av0 fun a1_ av1 =>
 aU av1 <|
 aU rs <|
 aC true aM a0_ fun d1 =>
 aC true (.int .i64) a1_ fun d2 =>
 .mat (bZ d1 d2) fun r=>.ret (Gp d1 d2 r)
noncomputable def Ar:Ctr:=⟨[],fun ci=>K4 ci.args ci.roots,false⟩
theorem Wj:bP Tryz.prog .none Aq:=(aA Ns axx (aA acr ayd aP))
theorem Iz:Contract Tryz.prog .none 76 Ar:=by
 have hl:aZ Aq [] K6:=bB (by kernel_rfl)
 refine (aI (F:=K5) bn Wj Tryz.func76 (by kernel_rfl) (by kernel_rfl) (by kernel_rfl) hl []).weaken ?_
 rintro ⟨av,rs⟩ co h
 have h:(K4 av rs).run some=some co:=h
 obtain ⟨a0_,av0,rfl,h_0⟩:=au h
 obtain ⟨a1_,av1,rfl,h_1⟩:=au h_0
 obtain ⟨rfl,h_2⟩:=ay h_1
 obtain ⟨rfl,h_3⟩:=ay h_2
 obtain ⟨d1,rfl,h_4⟩:=ak h_3
 obtain ⟨d2,rfl,h_5⟩:=ak h_4
 exact bK (Yv d1 d2) h_5
end Go.Proofs.YtihiobjhogpmdaaGreat
