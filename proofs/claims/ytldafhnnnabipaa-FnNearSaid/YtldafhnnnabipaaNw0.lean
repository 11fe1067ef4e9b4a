/- Part 0 of the proof of FnNear. -/
import GoSem.Step
import Derived.Orders
import Derived.LoopN
import Derived.Laws.Sem
import Derived.Laws.Cells
import Derived.Laws.Append
import Derived.Laws.Slices
import Derived.Laws.Small
import Derived.Laws.Cover3
import Derived.Calls
import Derived.Laws.StructEq
import Derived.Laws.Tables
set_option maxRecDepth 100000
noncomputable section
namespace Go.Abs
inductive Tre (α:Type):Type 1
 |ret (a:α)
 |fail
 |cond (b:Bool) (t f:Tre α)
 |ite (p:Prop) [h:Decidable p] (t:Tre α)
 |ifn (p:Prop) [h:Decidable p] (t:Tre α)
 |mat {β:Type} (o:Option β) (k:β→Tre α)
 |alt {β γ:Type} (s:β ⊕ γ) (f:β→Tre α) (g:γ→Tre α)
def Tre.run {α R:Type} (t:Tre α):(α→Option R)→Option R:=
 Tre.rec (motive:=fun _=>(α→Option R)→Option R) (fun a c=>c a) (fun _=>none) (fun b _ _ t f c=>_root_.cond b (t c) (f c))
  (fun p h _ t c=>@_root_.ite _ p h (t c) none) (fun p h _ t c=>@_root_.ite _ p h none (t c)) (fun o _ k c=>match o with
   |none=>none
   |some x=>k x c)
  (fun s _ _ f g c=>match s with
   |.inl x=>f x c
   |.inr y=>g y c) t
section
variable {α R : Type} {c : α → Option R}
theorem Tre.aK{a:α}:(Tre.ret a).run c=c a:=rfl
theorem Tre.aF{b:Bool}{t f:Tre α}:(Tre.cond b t f).run c=_root_.cond b (t.run c) (f.run c):=rfl
theorem Tre.run_ite{p:Prop} [h:Decidable p] {t:Tre α}:(Tre.ite p t).run c=if p then t.run c else none:=rfl
theorem Tre.WS{p:Prop} [h:Decidable p] {t:Tre α}:(Tre.ifn p t).run c=if p then none else t.run c:=rfl
theorem Tre.qE{β:Type}{o:Option β}{k:β→Tre α}:(Tre.mat o k).run c=o.bind fun x=>(k x).run c:=by cases o<;>rfl
theorem Tre.abJ{β γ:Type}{x:γ}{f:β→Tre α}{g:γ→Tre α}:(Tre.alt (.inr x) f g).run c=(g x).run c:=rfl
theorem Tre.run_bind:∀(t:Tre α)(c:α→Option R),t.run c=(t.run some).bind c:=by
 intro t
 induction t with
 |ret a=>intro c;rfl
 |fail=>intro c;rfl
 |cond b t f iht ihf=>intro c;rw [aF,aF,iht,ihf];cases b<;>rfl
 |ite p t ih=>intro c;rw [run_ite,run_ite,ih];split<;>rfl
 |ifn p t ih=>intro c;rw [WS,WS,ih];split<;>rfl
 |mat o k ih=>intro c;rw [qE,qE];cases o with
  |none=>rfl
  |some x=>exact ih x c
 |alt s f g ihf ihg=>intro c;cases s with
  |inl x=>exact ihf x c
  |inr x=>exact ihg x c
theorem Tre.asB{R':Type}(t:Tre α)(g:R→Option R'):(t.run c).bind g=t.run fun x=>(c x).bind g:=by
 rw [Tre.run_bind,Tre.run_bind (c:=fun x=>(c x).bind g)];cases t.run some<;>rfl
theorem Tre.WT{t:Tre α}{r:R}(h:t.run c=some r):∃a,t.run some=some a∧c a=some r:=by
 rw [Tre.run_bind] at h
 cases ha:t.run some with
 |none=>rw [ha] at h;cases h
 |some a=>rw [ha] at h;exact ⟨a,rfl,h⟩
end
inductive K where
 |int (k:IntKind)|bool|str|ptr|fn|sl (e:K)|unit|pair (a b:K)
 deriving DecidableEq
abbrev ay:=Nat×Nat
abbrev par(i:Nat):ay:=(0,i)
abbrev fr(j:Nat):ay:=(1,j)
abbrev loc(d c:Nat):ay:=(d+2,c)
abbrev K.den:K→Type
 |.int _=>Int
 |.bool=>Bool
 |.str=>ByteArray
 |.ptr=>Option ay
 |.fn=>Option (Nat×List ay)
 |.sl e=>List e.den
 |.unit=>Unit
 |.pair a b=>a.den×b.den
def K.size:K→Nat
 |.unit=>0
 |.pair a b=>a.size+b.size
 |_=>1
def K.flat:K→Bool
 |.sl _=>false
 |.pair a b=>a.flat&&b.flat
 |_=>true
def K.plain:K→Bool
 |.ptr|.fn=>false
 |.sl e=>e.plain
 |.pair a b=>a.plain&&b.plain
 |_=>true
def K.isAgg:K→Bool
 |.unit|.pair _ _=>true
 |_=>false
def K.ints:K→Bool
 |.pair (.int _) .unit=>true
 |.pair (.int _) b=>b.ints
 |_=>false
def K.beq:(k:K)→k.den→k.den→Bool
 |.int _,x,y=>decide ((show Int from x)=y)
 |.pair a b,x,y=>a.beq x.1 y.1&&b.beq x.2 y.2
 |_,_,_=>true
def K.zero:(k:K)→k.den
 |.int _=>(0:Int)
 |.bool=>false
 |.str=>(⟨#[]⟩:ByteArray)
 |.ptr=>none
 |.fn=>none
 |.sl _=>[]
 |.unit=>()
 |.pair a b=>(a.zero,b.zero)
inductive Mask where
 |own|imm (z:Bool)|gone|pair (a b:Mask)|sl (e:Mask)
 deriving DecidableEq
def Mask.fst:Mask→Mask
 |.pair a _=>a
 |m=>m
def Mask.snd:Mask→Mask
 |.pair _ b=>b
 |m=>m
def Mask.elem:Mask→Mask
 |.sl e=>e
 |m=>m
def Mask.dU:Mask→Bool
 |.own|.sl _=>true
 |_=>false
def Mask.live:Mask→Bool
 |.gone=>false
 |.pair a b=>a.live&&b.live
 |.sl e=>e.live
 |_=>true
def Mask.zV:Mask→Mask→Mask
 |.own,.own=>.own
 |.imm a,.imm b=>if a=b then .imm a else .pair (.imm a) (.imm b)
 |a,b=>.pair a b
def Mask.Wt:Mask→Mask
 |.own=>.own
 |e=>.sl e
def Mask.C9(m a:Mask):Mask:=Mask.zV a m.snd
def Mask.Da(m b:Mask):Mask:=Mask.zV m.fst b
def Mask.PD(fl:Bool)(m a:Mask):Mask:=bif fl then m else m.C9 a
def Mask.PE(fl:Bool)(m b:Mask):Mask:=bif fl then m else m.Da b
def Mask.ro(k:K)(z:Bool):Mask:=bif k.flat then .own else .imm z
inductive Step where
 |fst|snd|idx (i:Nat)
 deriving DecidableEq
abbrev Path:=List Step
structure Root where
 mem:Bool
 k:K
 m:Mask
 d:k.den
inductive AV where
 |dead
 |imm (z:Bool) (k:K) (d:k.den)
 |nil-- the nil slice
 |emp-- a slice of length 0 and capacity 0
 |nilp-- the nil pointer
 |ptr (r:ay) (p:Path)
 |iptr (z:Bool) (k:K) (d:k.den) (p:Path)
 |nn (z:Bool) (e:K) (d:List e.den)-- a read-only slice that is not nil
 |vw (r:ay) (p:Path) (L:List (Path×Nat×Path))-- a pointer to a variable in which heads of parameters' slices lie
 |ref (r:ay) (p:Path)-- the slice that lies at a place
 |slc (r:ay) (p:Path) (lo n:Nat)
 |pair (a b:AV)
 |fn (f:Nat) (caps:List ay)
 |tnil
 |tcons (a b:AV)
abbrev AV.int(n:Int):AV:=.imm true (.int .i64) n
abbrev AV.bool(b:Bool):AV:=.imm true .bool b
abbrev AV.unit:AV:=.imm true .unit ()
def req(a b:ay):Bool:=Nat.beq a.1 b.1&&Nat.beq a.2 b.2
abbrev RF:=ay→Option Root
abbrev U:=List (ay×Option Root)
def dn(r:ay):U→Option (Option Root)
 |[]=>none
 | (r',x)::l=>bif req r r' then some x else dn r l
def look(rs:RF)(u:U)(r:ay):Option Root:=match dn r u with
 |some x=>x
 |none=>rs r
structure St where
 tmps:Nat→AV
 roots:RF
 pins:Nat→Bool
def XM:List (Nat×AV)→Nat→AV
 |[],_=>.dead
 | (t',v)::l,t=>bif Nat.beq t t' then v else XM l t
def WM:List (ay×Option Root)→RF
 |[],_=>none
 | (r',x)::l,r=>bif req r r' then x else WM l r
def awj(n:Nat):List Nat→Bool
 |[]=>false
 |x::l=>Nat.beq n x||awj n l
def LP(r:ay):List ay→Bool
 |[]=>false
 |x::l=>req r x||LP r l
section
variable {R : Type}
def iF:(k:K)→k.den→Mask→Path→((k':K)→k'.den→Mask→Option R)→Option R
 |k,d,m,[],c=>c k d m
 |.pair a _,d,m,.fst::p,c=>iF a d.1 m.fst p c
 |.pair _ b,d,m,.snd::p,c=>iF b d.2 m.snd p c
 |.sl e,xs,m,.idx i::p,c=>match xs[i]? with
  |some x=>match m with
   |.gone=>none
   |m=>iF e x m.elem p c
  |none=>none
 |_,_,_,_,_=>none
def FW:(k:K)→k.den→Mask→Path→(k':K)→k'.den→Mask→(k.den→Mask→Option R)→Option R
 |k,_,m,[],k',d',m',c=>if h:k'=k then c (h ▸ d') (bif k.flat then m else m') else none
 |.pair a _,d,m,.fst::p,k',d',m',c=>FW a d.1 m.fst p k' d' m' fun x mx=>c (x,d.2) (m.PD k'.flat mx)
 |.pair _ b,d,m,.snd::p,k',d',m',c=>FW b d.2 m.snd p k' d' m' fun x mx=>c (d.1,x) (m.PE k'.flat mx)
 |.sl e,xs,m,.idx i::p,k',d',m',c=>match xs[i]? with
  |some x=>bif m.dU then FW e x m.elem p k' d' m' fun x' mx=>if mx=m.elem then c (xs.set i x') m else none else none
  |none=>none
 |_,_,_,_,_,_,_,_=>none
def K.at:K→Path→Option K
 |k,[]=>some k
 |.pair a _,.fst::p=>a.at p
 |.pair _ b,.snd::p=>b.at p
 |.sl e,.idx _::p=>e.at p
 |_,_=>none
def AV.flatten:AV→AV→AV
 |.imm z k d,.imm z' k' d'=>.imm (bif k'.flat then z else bif k.flat then z' else z&&z') (.pair k k') (d,d')
 |a,b=>.pair a b
def TK(r:ay):(k:K)→Path→k.den→Mask→AV
 |.int ik,_,n,_=>.imm true (.int ik) n
 |.bool,_,b,_=>.imm true .bool b
 |.str,_,s,_=>.imm true .str s
 |.ptr,_,some x,_=>.ptr x []
 |.ptr,_,none,_=>.nilp
 |.fn,_,some x,_=>.fn x.1 x.2
 |.fn,_,none,_=>.dead
 |.unit,_,u,_=>.imm true .unit u
 |.sl e,p,d,m=>match m with
  |.own|.sl _=>.ref r p
  |.imm z=>bif e.plain then .imm z (.sl e) d else .dead
  |_=>.dead
 |.pair a b,p,d,m=>AV.flatten (TK r a (p++[.fst]) d.1 m.fst) (TK r b (p++[.snd]) d.2 m.snd)
def y8:Nat→Path
 |0=>[.fst]
 |n+1=>.snd::y8 n
def wholeAt:AV→Path→Option ay
 |.ref r q,p=>if q=p then some r else none
 |.pair a b,p=>match wholeAt a (p++[.fst]) with
  |some r=>some r
  |none=>wholeAt b (p++[.snd])
 |_,_=>none
def qo(r:ay):AV→(k:K)→Path→k.den→Mask→(k.den→Mask→Option R)→Option R
 |.imm z k' d',k,_,_,_,c=>if h:k'=k then c (h ▸ d') (Mask.ro k z) else none
 |.ref r' q,.sl _,p,d,m,c=>if r'=r∧q=p then c d m else none
 |.pair a b,.pair ka kb,p,d,m,c=>qo r a ka (p++[.fst]) d.1 m.fst fun da ma=>qo r b kb (p++[.snd]) d.2 m.snd fun db mb=>c (da,db) (Mask.zV ma mb)
 |_,_,_,_,_,_=>none
def Root.roZ(x:Root):Option Bool:=match x.m with
 |.imm z=>bif x.k.plain then some z else none
 |_=>none
def dL(rs:RF):AV→(k:K)→U→(k.den→Mask→U→List ay→List ay→Option R)→Option R
 |.imm z k' d,k,u,c=>if h:k'=k then c (h ▸ d) (Mask.ro k z) u [] [] else none
 |.nil,.sl _,u,c=>c [] .own u [] []
 |.emp,.sl _,u,c=>c [] .own u [] []
 |.nilp,.ptr,u,c=>c none .own u [] []
 |.ptr r [],.ptr,u,c=>c (some r) .own u [] [r]
 |.fn f caps,.fn,u,c=>c (some (f,caps)) .own u [] caps
 |.ref r [],k,u,c=>match look rs u r with
  |some x=>bif x.mem then none else if h:x.k=k then (match x.roZ with
    |some z=>c (h ▸ x.d) (.imm z) u [] []
    |none=>c (h ▸ x.d) x.m ((r,none)::u) [r] []) else none
  |none=>none
 |.slc r [] lo n,.sl e,u,c=>match look rs u r with
  |some x=>bif x.mem||!x.m.dU then none else if h:x.k=.sl e then c (((h ▸ x.d:(K.sl e).den).drop lo).take n) x.m ((r,none)::u) [r] [] else none
  |none=>none
 |.pair a b,.pair ka kb,u,c=>match wholeAt (.pair a b) [] with
  |some r=>match look rs u r with
   |some x=>if h:x.k=.pair ka kb then qo r (.pair a b) (.pair ka kb) [] (h ▸ x.d) x.m fun d m=>c d m ((r,none)::u) [r] [] else none
   |none=>none
  |none=>dL rs a ka u fun da ma u1 e1 q1=>dL rs b kb u1 fun db mb u2 e2 q2=>c (da,db) (Mask.zV ma mb) u2 (e1++e2) (q1++q2)
 |_,_,_,_=>none
def dM:Path→Bool
 |[]=>false
 |.idx _::_=>true
 |_::p=>dM p
def under:Path→Path→Bool
 |[],_=>true
 |.fst::p,.fst::q=>under p q
 |.snd::p,.snd::q=>under p q
 |.idx _::p,.idx _::q=>under p q
 |_,_=>false
inductive Kill where
 |of (r:ay)|at (r:ay) (p:Path)|inn (r:ay)|dst (d:Nat)
def Kill.amU:Kill→ay→Path→Bool
 |.of r,r',_=>req r r'
 |.at r p,r',q=>req r r'&&under p q&&dM q
 |.inn r,r',q=>req r r'&&dM q
 |.dst d,r',_=>Nat.beq r'.1 (d+2)
def Kill.amV:Kill→ay→Path→Bool
 |.of r,r',_=>req r r'
 |.at r p,r',q=>req r r'&&under p q
 |.inn r,r',q=>req r r'&&!q.isEmpty
 |.dst d,r',_=>Nat.beq r'.1 (d+2)
def Kill.hits:Kill→AV→Bool
 |.of r,.ref r' _=>req r r'
 |.of r,.slc r' _ _ _=>req r r'
 |.of r,.ptr r' _=>req r r'
 |.of r,.fn _ caps=>LP r caps
 |.at r p,.ref r' q=>req r r'&&under p q
 |.at r p,.slc r' q _ _=>req r r'&&under p q
 |.at r p,.ptr r' q=>req r r'&&under p q&&dM q
 |.inn r,.ref r' q=>req r r'&&!q.isEmpty
 |.inn r,.slc r' q _ _=>req r r'&&!q.isEmpty
 |.inn r,.ptr r' q=>req r r'&&dM q
 |.dst d,.ref r' _=>Nat.beq r'.1 (d+2)
 |.dst d,.slc r' _ _ _=>Nat.beq r'.1 (d+2)
 |.dst d,.ptr r' _=>Nat.beq r'.1 (d+2)
 |.dst d,.fn _ caps=>caps.any fun r'=>Nat.beq r'.1 (d+2)
 |x,.vw r p L=>x.amU r p||L.any fun e=>x.amV r (p++e.1)||x.amV (par e.2.1) e.2.2
 |_,_=>false
def hit(xs:List Kill)(a:AV):Bool:=xs.any fun x=>x.hits a
def AV.kill(x:Kill):AV→AV
 |.pair a b=>.pair (a.kill x) (b.kill x)
 |.tcons a b=>.tcons (a.kill x) (b.kill x)
 |a=>bif x.hits a then .dead else a
def AV.kills:List Kill→AV→AV
 |[],a=>a
 |x::l,a=>AV.kills l (a.kill x)
def AV.ren(r r2:ay):AV→AV
 |.pair a b=>.pair (a.ren r r2) (b.ren r r2)
 |.tcons a b=>.tcons (a.ren r r2) (b.ren r r2)
 |.ref r' q=>bif req r r' then .ref r2 q else .ref r' q
 |.slc r' q lo n=>bif req r r' then .slc r2 q lo n else .slc r' q lo n
 |a=>a
def AV.names:AV→List ay
 |.pair a b=>a.names++b.names
 |.tcons a b=>a.names++b.names
 |.ref r _=>[r]
 |.slc r _ _ _=>[r]
 |.ptr r _=>[r]
 |.vw r _ L=>r::L.map fun e=>par e.2.1
 |.fn _ caps=>caps
 |_=>[]
def aS:(k:K)→k.den→List ay
 |.ptr,some r=>[r]
 |.fn,some x=>x.2
 |.pair a b,d=>aS a d.1++aS b d.2
 |.sl e,xs=>bif e.plain then [] else xs.flatMap (aS e)
 |_,_=>[]
def sQ(f:ay→ay):(k:K)→k.den→k.den
 |.ptr,some r=>some (f r)
 |.fn,some x=>some (x.1,x.2.map f)
 |.pair a b,d=>bif a.plain&&b.plain then d else (sQ f a d.1,sQ f b d.2)
 |.sl e,xs=>bif e.plain then xs else xs.map (sQ f e)
 |_,d=>d
structure Tz where
 args:List AV
 roots:List Root
structure aA where
 res:AV
 roots:List Root
 fresh:List Root
structure Ctr where
 rw:List Nat
 G:Tz→Tre aA
 soft:Bool
structure TI where
 k:K
 bytes:Nat
 elem:Nat
abbrev Frz:=ay×Path×Bool
structure Env where
 τ:List (Nat×TI)
 E:List (Nat×Ctr)
 Z:List (Nat×List Frz)
def gI.{u}{α:Type u}(t:Nat):List (Nat×α)→Option α
 |[]=>none
 | (t',x)::l=>bif Nat.beq t t' then some x else gI t l
def Env.ti(V:Env)(t:Nat):Option TI:=gI t V.τ
def Env.ctr(V:Env)(f:Nat):Option Ctr:=gI f V.E
def Env.k(V:Env)(t:Nat):Option K:=(V.ti t).map (·.k)
abbrev Reg:=List ay
def Reg.find(r:ay):Reg→Nat→Option Nat
 |[],_=>none
 |r'::l,i=>bif req r r' then some i else Reg.find r l (i+1)
def Reg.put(r:ay)(g:Reg):Nat×Reg:=
 match Reg.find r g 0 with
 |some i=>(i,g)
 |none=>(g.length,g++[r])
def Reg.puts:List ay→Reg→List ay×Reg
 |[],g=>([],g)
 |r::l,g=>match Reg.put r g with
  | (i,g1)=>match Reg.puts l g1 with
   | (l',g2)=>(par i::l',g2)
def QW(z:Bool):(k:K)→k.den→Path→(AV→Option R)→Option R
 |.sl e,d,[.idx i],c=>match (d:List e.den)[i]? with
  |some x=>c (.iptr z (.sl e) [x] [.idx 0])
  |none=>none
 |k,d,p,c=>c (.iptr z k d p)
def jL(rs:RF)(rw:Bool)(kind:Option K):AV→List ay→Reg→(AV→List ay→Reg→Option R)→Option R
 |.imm z k d,sn,g,c=>c (.imm (bif k.flat then true else z) k d) sn g
 |.nil,sn,g,c=>match kind with
  |some (.sl e)=>bif e.plain then (bif rw then c .nil sn g else c (.imm true (.sl e) []) sn g) else none
  |_=>none
 |.emp,sn,g,c=>match kind with
  |some (.sl e)=>bif e.plain then c (.imm true (.sl e) []) sn g else none
  |_=>none
 |.nilp,sn,g,c=>c .nilp sn g
 |.iptr z k d p,sn,g,c=>QW z k d p fun a=>c a sn g
 |.ptr r [],sn,g,c=>bif rw then (match rs r with
   |none=>none
   |some x=>bif x.mem&&(x.m.live&&x.k.plain) then c (.iptr false (.sl x.k) [x.d] [.idx 0]) (r::sn) g else none)
  else match Reg.put r g with
   | (i,g1)=>c (.ptr (par i) []) sn g1
 |.ptr r (s::p),sn,g,c=>bif rw then (match rs r with
   |none=>none
   |some x=>iF x.k x.d x.m (s::p) fun k d m=>bif m.live&&k.plain then c (.iptr false (.sl k) [d] [.idx 0]) (r::sn) g else none)
  else none
 |.fn f caps,sn,g,c=>match Reg.puts caps g with
  | (l,g1)=>c (.fn f l) sn g1
 |.ref r p,sn,g,c=>match rs r with
  |none=>none
  |some x=>bif rw then (match p with
    |[]=>bif LP r g then none else c (.ref (par g.length) []) sn (g++[r])
    |p=>match Reg.put r g with
     | (i,g1)=>c (.ref (par i) p) sn g1)
   else iF x.k x.d x.m p fun k d m=>bif m.live&&k.plain then (match m with
    |.imm z=>c (.imm z k d) sn g
    |_=>c (.imm false k d) (r::sn) g) else none
 |.slc r p lo n,sn,g,c=>match rs r with
  |none=>none
  |some x=>bif rw then none else iF x.k x.d x.m p fun k d m=>bif m.live&&k.plain then (match k,d with
   |.sl e,d=>c (.imm false (.sl e) ((d.drop lo).take n)) (r::sn) g
   |_,_=>none) else none
 |.pair a b,sn,g,c=>jL rs rw none a sn g fun a' sn1 g1=>jL rs rw none b sn1 g1 fun b' sn2 g2=>c (AV.flatten a' b') sn2 g2
 |_,_,_,_=>none
def zG(rs:RF)(rw:List Nat)(kinds:List (Option K))(i:Nat):List AV→List ay→Reg→(List AV→List ay→Reg→Option R)→Option R
 |[],sn,g,c=>c [] sn g
 |a::l,sn,g,c=>jL rs (awj i rw) (kinds.headD none) a sn g fun a' sn1 g1=>zG rs rw kinds.tail (i+1) l sn1 g1 fun l' sn2 g2=>c (a'::l') sn2 g2
def qX(rs:RF):Nat→Nat→Reg→Option Reg
 |0,_,_=>none
 |n+1,i,g=>match g[i]? with
  |none=>some g
  |some r=>match rs r with
   |none=>none
   |some x=>bif x.k.plain then qX rs n (i+1) g else qX rs n (i+1) (Reg.puts (aS x.k x.d) g).2
def nowhere:ay:=(0,1000000)
def adz(g:Reg)(r:ay):ay:=match Reg.find r g 0 with
 |some i=>par i
 |none=>nowhere
def nW(g:Reg)(dst:Nat)(r:ay):ay:=match r with
 | (0,i)=>match g[i]? with
  |some r=>r
  |none=>nowhere
 | (1,j)=>loc dst j
 |_=>nowhere
def AV.back(g:Reg)(dst:Nat):AV→AV
 |.pair a b=>.pair (a.back g dst) (b.back g dst)
 |.tcons a b=>.tcons (a.back g dst) (b.back g dst)
 |.ref (0,i) q=>match g[i]? with
  |some r=>.ref r q
  |none=>.dead
 |.ref (1,j) q=>.ref (loc dst j) q
 |.slc (0,i) q lo n=>match g[i]? with
  |some r=>.slc r q lo n
  |none=>.dead
 |.slc (1,j) q lo n=>.slc (loc dst j) q lo n
 |.ptr (0,i) []=>match g[i]? with
  |some r=>.ptr r []
  |none=>.dead
 |.ptr (1,j) []=>.ptr (loc dst j) []
 |.imm z k d=>.imm z k d
 |.nilp=>.nilp
 |.nil=>.nil
 |.tnil=>.tnil
 |_=>.dead
def yH(rs:RF)(g:Reg):Reg→Option (List Root)
 |[]=>some []
 |r::l=>match rs r with
  |none=>none
  |some x=>(yH rs g l).map (⟨x.mem,x.k,x.m,sQ (adz g) x.k x.d⟩::·)
def nM(rs:RF)(g:Reg)(dst:Nat):Reg→List Root→Option U
 |[],[]=>some []
 |r::l,y::ys=>match rs r with
  |none=>none
  |some x=>if y.k=x.k∧y.mem=x.mem then (nM rs g dst l ys).map ((r,some ⟨y.mem,y.k,y.m,sQ (nW g dst) y.k y.d⟩)::·) else none
 |_,_=>none
def pU(g:Reg)(dst:Nat):Nat→List Root→U
 |_,[]=>[]
 |j,y::ys=>(loc dst j,some ⟨y.mem,y.k,y.m,sQ (nW g dst) y.k y.d⟩)::pU g dst (j+1) ys
def akW:List ay→Reg→Bool
 |[],_=>false
 |r::l,g=>LP r g||akW l g
def arq:List ay→Reg→Bool
 |[],_=>true
 |r::l,g=>LP r g&&arq l g
def pQ(rs:RF)(g:Reg):Reg→Bool
 |[]=>true
 |r::l=>(match rs r with
  |none=>false
  |some x=>x.k.plain||arq (aS x.k x.d) g)&&pQ rs g l
def KN(d:Nat):Reg→Bool
 |[]=>false
 |r::l=>Nat.beq r.1 d||KN d l
def pJ(rs:RF):Reg→List Kill
 |[]=>[]
 |r::l=>(match rs r with
  |some x=>bif x.mem then .at r [] else .inn r
  |none=>.of r)::pJ rs l
def Ro(rs:RF)(args:List AV)(g:Reg):List Kill:=match args,g with
 |.ref r p::_,[q]=>bif req r (0,0) then [.at q (p++[.idx 0])] else pJ rs g
 |_,_=>pJ rs g
def jh(soft:Bool)(rs:RF)(args:List AV)(g:Reg):List Kill:=bif soft then Ro rs args g else pJ rs g
def LQ(n m:Nat):List ay→Bool
 |[]=>true
 | (0,i)::l=>Nat.blt i n&&LQ n m l
 | (1,j)::l=>Nat.blt j m&&LQ n m l
 |_=>false
def rJ(n m:Nat):List Root→Bool
 |[]=>true
 |x::l=>(x.k.plain||LQ n m (aS x.k x.d))&&rJ n m l
def Mask.done:Mask→Bool
 |.own=>true
 |.imm z=>z
 |.gone=>false
 |.pair a b=>a.done&&b.done
 |.sl e=>e.done
def nN:List Root→Bool
 |[]=>true
 |x::l=>x.m.done&&nN l
def AV.done:AV→Bool
 |.imm z k _=>z||k.flat
 |.pair a b=>a.done&&b.done
 |.tcons a b=>a.done&&b.done
 |.iptr ..=>false
 |.nn ..=>false
 |.vw ..=>false
 |_=>true
def nL:List Root→List ay
 |[]=>[]
 |x::l=>aS x.k x.d++nL l
structure Del where
 v:AV
 u:U
 make:Bool
 kills:List Kill
 pins:List ay
 ren:Option (ay×ay)
 rd:List ay
 wr:List ay
 bar:Bool
def Al (V:Env) (f:Nat) (args:List AV) (kinds:List (Option K)) (dst:Nat) (rs:RF) (c:Del→Option R):Option R:=
 match V.ctr f with
 |none=>none
 |some q=>zG rs q.rw kinds 0 args [] [] fun args' sn g=>
  match qX rs 24 0 g with
  |none=>none
  |some g=>bif akW sn g||!pQ rs g g||KN (dst+2) g||!Nat.blt g.length 1000000 then none else
   match yH rs g g with
   |none=>none
   |some ys=>(q.G ⟨args',ys⟩).run fun co=>bif rJ g.length co.fresh.length co.roots&&rJ g.length co.fresh.length co.fresh&&(sn.isEmpty||(nN co.roots&&nN co.fresh&&co.res.done)) then
      match nM rs g dst g co.roots with
      |none=>none
      |some u=>c ⟨co.res.back g dst,u++pU g dst 0 co.fresh,true,jh q.soft rs args' g,(nL co.roots++nL co.fresh).map (nW g dst),none,sn++(co.res.back g dst).names,g,false⟩
     else none
end
end Go.Abs
namespace Go.Abs
def aN(k:IntKind)(n:Int):Int:=k.wrap n
def LC(k:IntKind)(x y:Int):Int:=k.wrap (BitVec.ofInt k.bits x&&&BitVec.ofInt k.bits y).toNat
def ior(k:IntKind)(x y:Int):Int:=k.wrap (BitVec.ofInt k.bits x|||BitVec.ofInt k.bits y).toNat
def jD(k:IntKind)(x y:Int):Int:=k.wrap (BitVec.ofInt k.bits x^^^BitVec.ofInt k.bits y).toNat
def arF(k:IntKind)(x y:Int):Int:=k.wrap (BitVec.ofInt k.bits x &&& ~~~BitVec.ofInt k.bits y).toNat
def Gs(k:IntKind)(x y:Int):Int:=k.wrap (x*2 ^ (min y.toNat k.bits))
def Pe(k:IntKind)(x y:Int):Int:=x.fdiv (2 ^ (min y.toNat k.bits))
section
variable {R : Type}
def arith(op:BinOp)(k:IntKind)(x y:Int)(c:AV→Option R):Option R:=
 match op with
 |.add=>c (.imm true (.int k) (aN k (x+y)))
 |.sub=>c (.imm true (.int k) (aN k (x-y)))
 |.mul=>c (.imm true (.int k) (aN k (x*y)))
 |.and=>c (.imm true (.int k) (LC k x y))
 |.or=>c (.imm true (.int k) (ior k x y))
 |.xor=>c (.imm true (.int k) (jD k x y))
 |.andNot=>c (.imm true (.int k) (arF k x y))
 |.quo=>if y=0 then none else c (.imm true (.int k) (aN k (x.tdiv y)))
 |.rem=>if y=0 then none else c (.imm true (.int k) (x.tmod y))
 |.shl=>if 0≤y then c (.imm true (.int k) (Gs k x y)) else none
 |.shr=>if 0≤y then c (.imm true (.int k) (Pe k x y)) else none
 |.eql=>c (.imm true .bool (decide (x=y)))
 |.neq=>c (.imm true .bool (!decide (x=y)))
 |.lss=>c (.imm true .bool (decide (x<y)))
 |.leq=>c (.imm true .bool (decide (x≤y)))
 |.gtr=>c (.imm true .bool (decide (x>y)))
 |.geq=>c (.imm true .bool (decide (x ≥ y)))
def QX:BinOp→Bool
 |.shl|.shr=>true
 |_=>false
def Vw(kt:Option K)(op:BinOp)(a b:AV)(c:AV→Option R):Option R:=
 match a,b with
 |.imm _ (.int k) x,.imm _ (.int k') y=>bif QX op then arith op k x y c else if k=k' then arith op k x y c else none
 |.imm _ .bool x,.imm _ .bool y=>match kt,op with
  |some .bool,.eql=>c (.imm true .bool (x == y))
  |some .bool,.neq=>c (.imm true .bool (!(x == y)))
  |_,_=>none
 |.imm _ .str x,.imm _ .str y=>match op with
  |.eql=>c (.imm true .bool (x.toList == y.toList))
  |.neq=>c (.imm true .bool (!(x.toList == y.toList)))
  |.add=>if x.size+y.size≤140737488351232 then c (.imm true .str (x++y)) else none
  |_=>none
 |.nn _ _ _,.nil=>match kt,op with
  |some (.sl _),.eql=>c (.imm true .bool false)
  |some (.sl _),.neq=>c (.imm true .bool true)
  |_,_=>none
 |.nil,.nil=>match kt,op with
  |some (.sl _),.eql=>c (.imm true .bool true)
  |some (.sl _),.neq=>c (.imm true .bool false)
  |_,_=>none
 |.imm _ (.sl e) d,.nil=>match kt,op with
  |some (.sl _),.eql=>if 0<(show List e.den from d).length then c (.imm true .bool false) else none
  |some (.sl _),.neq=>if 0<(show List e.den from d).length then c (.imm true .bool true) else none
  |_,_=>none
 |.imm _ (.pair k1 k2) x,.imm _ k' y=>if h:k'=.pair k1 k2 then (bif (K.pair k1 k2).ints&&decide (kt=some (.pair k1 k2)) then (match op with
  |.eql=>c (.imm true .bool ((K.pair k1 k2).beq x (h ▸ y)))
  |.neq=>c (.imm true .bool (!(K.pair k1 k2).beq x (h ▸ y)))
  |_=>none) else none) else none
 |_,_=>none
def ain(op:UnOp)(a:AV)(c:AV→Option R):Option R:=
 match op,a with
 |.neg,.imm _ (.int k) x=>c (.imm true (.int k) (aN k (0-x)))
 |.not,.imm _ .bool b=>c (.imm true .bool (!b))
 |_,_=>none
def KT(src dst:Option K)(a:AV)(c:AV→Option R):Option R:=
 match src,dst,a with
 |some (.int _),some (.int k),.imm _ (.int _) n=>c (.imm true (.int k) (aN k n))
 |some .str,some .str,.imm z .str s=>c (.imm z .str s)
 |_,_,_=>none
def DK:Value→AV
 |.int k n=>.imm true (.int k) n
 |.bool b=>.imm true .bool b
 |.string s=>.imm true .str s
 |.slice none 0 0=>.nil
 |.pointer none=>.nilp
 |_=>.dead
abbrev TF:=Nat→AV
def bf(tm:TF):Operand→AV
 |.tmp t=>tm t
 |.const v=>DK v
 |.func f=>.fn f []
 |.global _=>.dead
def iB(rs:RF)(u:U)(e:K):AV→(List e.den→Mask→Option R)→Option R
 |.nil,c=>c [] .own
 |.emp,c=>c [] .own
 |.imm z k xs,c=>if h:k=.sl e then c (h ▸ xs:(K.sl e).den) (Mask.ro (.sl e) z) else none
 |.nn z k xs,c=>if h:k=e then c (h ▸ xs:(K.sl e).den) (Mask.ro (.sl e) z) else none
 |.ref r p,c=>match look rs u r with
  |none=>none
  |some x=>iF x.k x.d x.m p fun k d m=>if h:k=.sl e then (bif m.live then c (h ▸ d:(K.sl e).den) m else none) else none
 |.slc r p lo n,c=>match look rs u r with
  |none=>none
  |some x=>iF x.k x.d x.m p fun k d m=>if h:k=.sl e then (bif m.live then c (((h ▸ d:(K.sl e).den).drop lo).take n) m else none) else none
 |_,_=>none
def SS(rs:RF)(e:K)(a:AV)(c:Nat→Option R):Option R:=
 match a with
 |.slc r _ _ n=>match rs r with
  |some _=>c n
  |none=>none
 |a=>iB rs [] e a fun xs _=>c xs.length
def RP(rs:RF)(a:AV):AV:=match a with
 |.ref r []=>match rs r with
  |some x=>bif x.mem then a else match x.roZ with
   |some z=>.imm z x.k x.d
   |none=>a
  |none=>a
 |a=>a
def KI(fields:List (Nat×AV)):(k:K)→Nat→AV
 |.pair a b,i=>AV.flatten (match gI i fields with
   |some x=>x
   |none=>zeroAV a) (KI fields b (i+1))
 |_,_=>.imm true .unit ()
 where
 zeroAV:K→AV
  |.sl _=>.nil
  |.ptr=>.nilp
  |.pair a b=>AV.flatten (zeroAV a) (zeroAV b)
  |.fn=>.dead
  |k=>.imm true k k.zero
def AV.size:AV→Option Nat
 |.imm _ k _=>some k.size
 |.pair a b=>match a.size,b.size with
  |some m,some n=>some (m+n)
  |_,_=>none
 |.dead=>none
 |.tnil=>none
 |.tcons _ _=>none
 |_=>some 1
def K.fieldAt:K→Nat→Option K
 |.pair a _,0=>some a
 |.pair _ b,n+1=>K.fieldAt b n
 |_,_=>none
def H8(k:K):List (Nat×AV)→Nat→Bool
 |[],_=>true
 | (i,a)::l,j=>Nat.ble j i&&(match K.fieldAt k i,a.size with
   |some f,some n=>Nat.beq n f.size
   |_,_=>false)&&H8 k l (i+1)
def qw(rs:RF)(e:K):List AV→U→Option Mask→(List e.den→Option Mask→U→List ay→List ay→Option R)→Option R
 |[],u,m,c=>c [] m u [] []
 |a::l,u,m,c=>dL rs a e u fun d ma u1 e1 q1=>
   match m with
   |none=>qw rs e l u1 (some ma) fun ds m' u2 e2 q2=>c (d::ds) m' u2 (e1++e2) (q1++q2)
   |some m0=>if ma=m0 then qw rs e l u1 (some m0) fun ds m' u2 e2 q2=>c (d::ds) m' u2 (e1++e2) (q1++q2) else none
def awh(z:Bool):Option Bool→Bool
 |none=>z
 |some z'=>z&&z'
def abT(e:K):List AV→Option (List e.den×Option Bool)
 |[]=>some ([],none)
 |.imm z k d::l=>match abT e l with
  |none=>none
  |some (ds,z')=>if h:k=e then some ((h ▸ d:e.den)::ds,some (awh z z')) else none
 |_=>none
def qR(rs:RF)(e:K)(l:List AV)(c:List e.den→Option Mask→U→List ay→List ay→Option R):Option R:=
 match abT e l with
 |some (ds,some z)=>c ds (some (Mask.ro e z)) [] [] []
 |_=>qw rs e l [] none c
def XG(n:Nat):List AV→Bool
 |[]=>true
 |a::l=>(match a.size with
  |some m=>Nat.beq m n
  |none=>false)&&XG n l
def V9:List (Nat×Operand)→Nat→Bool
 |[],_=>true
 | (i,_)::l,j=>Nat.beq i j&&V9 l (j+1)
def X3:List AV→Option (List ay)
 |[]=>some []
 |.ptr r []::l=>(X3 l).map (r::·)
 |_=>none
def AV.alU:AV→Bool
 |.dead=>true
 |_=>false
def RO:AV→Nat→AV
 |.tcons a _,0=>a
 |.tcons _ b,n+1=>RO b n
 |_,_=>.dead
def bS:Nat:=70368744177664
def ofs:List ay→List Kill
 |[]=>[]
 |r::l=>.of r::ofs l
def MH(r:ay)(e:K)(u:U)(x:Root)(p:Path)(c:List e.den→Mask→U→List Kill→List ay→Option R):Option R:=
 iF x.k x.d x.m p fun k d m=>if h:k=.sl e then (bif m.dU then
  (FW x.k x.d x.m p (.sl e) [] .gone fun d' m'=>c (h ▸ d:(K.sl e).den) m ((r,some ⟨x.mem,x.k,m',d'⟩)::u) [.at r p] [r]) else none) else none
def fU(rs:RF)(e:K)(u:U):AV→(List e.den→Mask→U→List Kill→List ay→Option R)→Option R
 |.nil,c=>c [] .own u [] []
 |.emp,c=>c [] .own u [] []
 |.ref r p,c=>match look rs u r with
  |none=>none
  |some x=>match p with
   |[]=>bif x.mem||Nat.beq r.1 0 then MH r e u x [] c else if h:x.k=.sl e then (bif x.m.dU then c (h ▸ x.d:(K.sl e).den) x.m ((r,none)::u) [.of r] [r] else none) else none
   |p=>bif dM p then none else MH r e u x p c
 |.slc r [] lo n,c=>match look rs u r with
  |none=>none
  |some x=>bif x.mem then none else if h:x.k=.sl e then (bif x.m.dU then c (((h ▸ x.d:(K.sl e).den).drop lo).take n) x.m ((r,none)::u) [.of r] [r] else none) else none
 |_,_=>none
def acV(e:K)(n:Bool)(a b:Mask):Option Mask:=
 bif e.flat then some .own else if a.elem=b.elem then some (Mask.Wt a.elem) else bif n then some (Mask.Wt b.elem) else none
def vV(rs:RF)(e:K)(u:U)(a:AV)(c:List e.den→Mask→U→List Kill→List ay→Option R):Option R:=
 match a with
 |.imm z k d=>if h:k=.sl e then c (h ▸ d:(K.sl e).den) (Mask.ro (.sl e) z) u [] [] else none
 |a=>fU rs e u a c
def kinds(V:Env)(ts:Array TypeId):List (Option K):=ts.toList.map V.k
def dz(v:AV)(rd:List ay):Del:=⟨v,[],false,[],[],none,rd,[],false⟩
def Y0:Option K→Bool
 |some (.sl _)=>false
 |some .str=>false
 |_=>true
def qW(V:Env)(ts:Array TypeId)(dst:Nat)(a x:AV)(rs:RF)(c:Del→Option R):Option R:=
 match x,ts[1]?.bind V.k,ts[0]?.bind V.ti with
 |.imm _ (.int _) n,some (.int _),some ⟨.sl e,_,el⟩=>match V.ti el with
  |none=>none
  |some te=>if te.k=e then bif e.flat then fU rs e [] a fun xs _ u1 k1 gone1=>if 0≤n∧(xs.length+n.toNat)*te.bytes≤bS∧1≤te.bytes then
    c ⟨.ref (loc dst 0) [],(loc dst 0,some ⟨false,.sl e,.own,xs++List.replicate n.toNat e.zero⟩)::u1,true,k1,[],none,a.names,gone1,false⟩ else none
   else none else none
 |_,_,_=>none
def mI(V:Env)(ts:Array TypeId)(dst:Nat)(a x:AV)(rs:RF)(c:Del→Option R):Option R:=
 match a,x,ts[1]?.bind V.k,ts[0]?.bind V.ti with
 |.nil,.imm _ (.int _) n,some (.int _),some ⟨.sl e,_,el⟩=>match V.ti el with
  |none=>none
  |some te=>if te.k=e∧0≤n∧n.toNat*te.bytes≤bS∧1≤te.bytes then
    c ⟨.ref (loc dst 0) [],[(loc dst 0,some ⟨false,.sl e,.own,List.replicate n.toNat e.zero⟩)],true,[],[],none,[],[],false⟩ else none
 |.nil,_,_,_=>none
 |a,x,_,_=>qW V ts dst a x rs c
def TP(V:Env)(ts:Array TypeId)(rs:RF)(a x:AV)(c:Del→Option R):Option R:=
 match a,ts[0]?.bind V.ti,ts[1]?.bind V.k with
 |.ref q [],some ⟨.sl (.int .i64),_,el⟩,some (.sl _)=>match V.ti el with
  |none=>none
  |some te=>if te.k=.int .i64 then match rs q with
   |none=>none
   |some y=>if h:y.k=.sl (.int .i64) then bif y.mem||!y.m.dU||!y.m.live then none else iB rs [] (.int .i64) x fun ys _=>
     c ⟨.imm true (.int .i64) ((min (show List Int from ys).length (show List Int from (h ▸ y.d:(K.sl (.int .i64)).den)).length:Nat):Int),[(q,some ⟨false,.sl (.int .i64),y.m,(show List Int from ys).take (show List Int from (h ▸ y.d:(K.sl (.int .i64)).den)).length++(show List Int from (h ▸ y.d:(K.sl (.int .i64)).den)).drop (show List Int from ys).length⟩)],false,[.at q [.idx 0]],[],none,[q],[q],true⟩
    else none
   else none
 |_,_,_=>none
def KS(V:Env)(ts:Array TypeId)(rs:RF)(a:AV)(c:Del→Option R):Option R:=
 match a,ts[0]?.bind V.ti with
 |.slc q [] lo k,some ⟨.sl (.int .i64),_,el⟩=>match V.ti el with
  |none=>none
  |some te=>if te.k=.int .i64 then match rs q with
   |none=>none
   |some y=>if h:y.k=.sl (.int .i64) then bif y.mem||!y.m.dU||!y.m.live then none else
     (if lo+k≤(show List Int from (h ▸ y.d:(K.sl (.int .i64)).den)).length then
      c ⟨.tnil,[(q,some ⟨false,.sl (.int .i64),y.m,(show List Int from (h ▸ y.d:(K.sl (.int .i64)).den)).take lo++List.replicate k 0++(show List Int from (h ▸ y.d:(K.sl (.int .i64)).den)).drop (lo+k)⟩)],false,[.at q [.idx 0]],[],none,[q],[q],true⟩ else none)
    else none
   else none
 |_,_=>none
def fH(V:Env)(b:Builtin)(ts:Array TypeId)(dst:Nat)(args:List AV)(rs:RF)(c:Del→Option R):Option R:=
 match b,args with
 |.len,[a]=>match ts[0]?.bind V.k with
  |some (.sl e)=>SS rs e a fun n=>c (dz (.imm true (.int .i64) (n:Int)) a.names)
  |some .str=>match a with
   |.imm _ .str x=>c (dz (.imm true (.int .i64) (x.size:Int)) [])
   |_=>none
  |_=>none
 |.append,[a,x]=>match ts[0]?.bind V.ti with
  |some ⟨.sl e,_,el⟩=>bif Y0 (ts[1]?.bind V.k) then mI V ts dst a x rs c else match V.ti el with
   |none=>none
   |some te=>if te.k=e then fU rs e [] a fun xs ma u1 k1 gone1=>
     match x with
     |.imm _ .str y=>match e with
      |.int .u8=>if (xs.length+y.size)*te.bytes≤bS∧1≤te.bytes then
        c ⟨.ref (loc dst 0) [],(loc dst 0,some ⟨false,.sl (.int .u8),.own,(show List Int from xs)++(y.data.toList.map fun b=>(b.toNat:Int))⟩)::u1,true,k1,[],none,a.names,gone1,false⟩ else none
      |_=>none
     |x=>iB rs [] e x fun ys _=>if (xs.length+ys.length)*te.bytes≤bS∧1≤te.bytes then
        bif e.flat then c ⟨.ref (loc dst 0) [],(loc dst 0,some ⟨false,.sl e,.own,xs++ys⟩)::u1,true,k1,[],none,a.names++x.names,gone1,false⟩
        else bif e.plain&&!hit k1 x then vV rs e u1 x fun ys' mb' u2 k2 gone2=>match acV e xs.isEmpty ma mb' with
         |some m=>bif !mb'.live then none else c ⟨.ref (loc dst 0) [],(loc dst 0,some ⟨false,.sl e,m,xs++ys'⟩)::u2,true,k1++k2,[],none,a.names++x.names,gone1++gone2,false⟩
         |none=>none
        else none
       else none
    else none
  |_=>none
 |.cap,[.nil]=>match ts[0]?.bind V.k with
  |some (.sl _)=>c (dz (.imm true (.int .i64) 0) [])
  |_=>none
 |.min,[.imm _ (.int k) x,.imm _ (.int k') y]=>if k=k' then c (dz (.imm true (.int k) (if (show Int from y)<(show Int from x) then (show Int from y) else (show Int from x))) []) else none
 |.max,[.imm _ (.int k) x,.imm _ (.int k') y]=>if k=k' then c (dz (.imm true (.int k) (if (show Int from x)<(show Int from y) then (show Int from y) else (show Int from x))) []) else none
 |.copy,[a,x]=>TP V ts rs a x c
 |.clear,[a]=>KS V ts rs a c
 |_,_=>none
def yB(rs:RF)(e:K)(a:AV)(i:Int)(c:AV→Option R):Option R:=
 match a with
 |.imm z k xs=>if h:k=.sl e then (if 0≤i∧i<((h ▸ xs:(K.sl e).den).length:Int) then c (.iptr z k xs [.idx i.toNat]) else none) else none
 |.ref r p=>iB rs [] e (.ref r p) fun xs _=>if 0≤i∧i<(xs.length:Int) then c (.ptr r (p++[.idx i.toNat])) else none
 |.slc r p lo n=>iB rs [] e (.ref r p) fun _ _=>if 0≤i∧i<(n:Int) then c (.ptr r (p++[.idx (lo+i.toNat)])) else none
 |_=>none
def nX(a:Option AV)(d:Int)(c:Int→Option R):Option R:=
 match a with
 |none=>c d
 |some (.imm _ (.int _) x)=>c x
 |_=>none
def A9(V:Env)(t:Nat)(rs:RF)(a:AV)(lo hi mx:Option AV)(c:AV→Option R):Option R:=
 match mx with
 |some (.imm _ (.int _) m)=>match lo,hi with
  |none,some (.imm _ (.int _) h)=>match V.k t with
   |some (.sl e)=>iB rs [] e a fun _ _=>if h=0∧m=0 then c .emp else none
   |_=>none
  |some (.imm _ (.int _) l),some (.imm _ (.int _) h)=>match V.k t with
   |some (.sl e)=>iB rs [] e a fun xs _=>if 0≤l∧l≤h∧h≤m∧m≤(xs.length:Int) then c .dead else none
   |_=>none
  |_,_=>none
 |some _=>none
 |none=>match V.k t with
  |some .str=>match a with
   |.imm _ .str s=>nX lo 0 fun l=>nX hi s.size fun h=>if 0≤l∧l≤h∧h≤(s.size:Int) then c (.imm true .str (s.extract l.toNat h.toNat)) else none
   |_=>none
  |some (.sl e)=>match a with
   |.nil=>nX lo 0 fun l=>nX hi 0 fun h=>if l=0∧h=0 then c .nil else none
   |.imm z k xs=>if hk:k=.sl e then nX lo 0 fun l=>nX hi ((hk ▸ xs:(K.sl e).den).length:Int) fun h=>
     if 0≤l∧l≤h∧h≤((hk ▸ xs:(K.sl e).den).length:Int) then c (.imm z (.sl e) (((hk ▸ xs:(K.sl e).den).drop l.toNat).take (h-l).toNat)) else none else none
   |.ref r p=>iB rs [] e (.ref r p) fun xs _=>nX lo 0 fun l=>nX hi (xs.length:Int) fun h=>
     if 0≤l∧l≤h∧h≤(xs.length:Int) then c (.slc r p l.toNat (h-l).toNat) else none
   |.slc r p lo0 n=>iB rs [] e (.ref r p) fun _ _=>nX lo 0 fun l=>nX hi (n:Int) fun h=>
     if 0≤l∧l≤h∧h≤(n:Int) then c (.slc r p (lo0+l.toNat) (h-l).toNat) else none
   |_=>none
  |_=>none
def bU:List AV→List ay
 |[]=>[]
 |a::l=>a.names++bU l
def callee(tm:TF)(f:Operand)(c:Nat→List ay→Option R):Option R:=
 match bf tm f with
 |.fn f caps=>c f caps
 |_=>none
def ptrs:List ay→List AV
 |[]=>[]
 |r::l=>.ptr r []::ptrs l
def Zw:Path→Path→Option Path
 |[],l=>some l
 |s::q,s'::l=>if s=s' then Zw q l else none
 |_::_,[]=>none
def Wq(q:Path):List (Path×Nat×Path)→List (Path×Nat×Path)
 |[]=>[]
 |e::l=>match Zw q e.1 with
  |some x=>(x,e.2)::Wq q l
  |none=>Wq q l
def AV.agW:AV→Bool
 |.pair a b=>a.agW||b.agW
 |.ref (0,_) _=>true
 |_=>false
def viewAt:AV→(k:K)→Option (k.den×Mask)
 |.imm z k' d,k=>if h:k'=k then some (h ▸ d,Mask.ro k z) else none
 |.ref (0,_) _,.sl _=>some ([],.gone)
 |.pair a b,.pair ka kb=>match viewAt a ka,viewAt b kb with
  |some x,some y=>some ((x.1,y.1),Mask.zV x.2 y.2)
  |_,_=>none
 |_,_=>none
def Hz:AV→Path→List (Path×Nat×Path)
 |.pair a b,p=>Hz a (p++[.fst])++Hz b (p++[.snd])
 |.ref (0,i) q,p=>[(p,i,q)]
 |_,_=>[]
def ark(a:AV)(k:K):Option (k.den×Mask):=bif a.agW then viewAt a k else none
def awM:K→Bool
 |.sl _=>true
 |_=>false
def kE:AV→Nat→Option (AV×Nat)
 |.pair a _,0=>some (a,0)
 |.pair a b,n+1=>match a.size,kE b n with
  |some m,some x=>some (x.1,m+x.2)
  |_,_=>none
 |.imm z (.pair ka _) d,0=>some (.imm z ka d.1,0)
 |.imm z (.pair ka kb) d,n+1=>match kE (.imm z kb d.2) n with
  |some x=>some (x.1,ka.size+x.2)
  |none=>none
 |_,_=>none
def K.agf:K→Nat→Option (K×Nat)
 |.pair a _,0=>some (a,0)
 |.pair a b,n+1=>match b.agf n with
  |some x=>some (x.1,a.size+x.2)
  |none=>none
 |_,_=>none
def KR(rs:RF)(k:K)(v:AV)(c:Del→Option R):Option R:=match v,k with
 |.imm z k' d,_=>bif k'.isAgg then none else c (dz (.imm z k' d) [])
 |.ref r p,.sl e=>iB rs [] e (.ref r p) fun _ _=>c (dz (.ref r p) [r])
 |_,_=>none
def aqE(V:Env)(d:Nat):Bool:=match gI 1000002 V.Z with
 |none=>false
 |some l=>l.any fun f=>Nat.beq f.1.1 d
def bC (V:Env) (o:Oper) (tm:TF) (rs:RF) (c:Del→Option R):Option R:=
 let ev:=bf tm
 let dst:=o.dst.getD 0
 match o.op with
 |.move x=>c (dz (ev x) (ev x).names)
 |.assign x=>match ev x with
  |.ref (d+2,j) []=>
   bif Nat.beq d dst&&Nat.beq j 0 then c ⟨.ref (d+2,j) [],[],false,[],[],none,[],[],true⟩ else
   match rs (d+2,j) with
   |none=>none
   |some y=>bif y.mem||aqE V dst then c (dz (.ref (d+2,j) []) []) else
    c ⟨.ref (loc dst 0) [],[(loc dst 0,some y),((d+2,j),none)],false,[.of (loc dst 0)],[],some ((d+2,j),loc dst 0),[],[],true⟩
  |a=>c (dz a a.names)
 |.pick x a b=>match ev x with
  |.imm _ .bool t=>cond t (c (dz (ev a) (ev a).names)) (c (dz (ev b) (ev b).names))
  |_=>none
 |.alloc t=>match V.k t with
  |some k=>c ⟨.ptr (loc dst 0) [],[(loc dst 0,some ⟨true,k,.own,k.zero⟩)],true,[],[],none,[],[],false⟩
  |none=>none
 |.box t x=>match V.k t with
  |some k=>match ark (ev x) k with
   |some y=>c ⟨.vw (loc dst 0) [] (Hz (ev x) []),[(loc dst 0,some ⟨true,k,y.2,y.1⟩)],true,[],[],none,(ev x).names,[],false⟩
   |none=>dL rs (ev x) k [] fun d m u e q=>c ⟨.ptr (loc dst 0) [],(loc dst 0,some ⟨true,k,m,d⟩)::u,true,ofs e,q,none,(ev x).names,e,false⟩
  |none=>none
 |.build t parts=>match V.k t with
  |some (.pair a b)=>bif H8 (.pair a b) (parts.toList.map fun x=>(x.1,RP rs (ev x.2))) 0 then c (dz (KI (parts.toList.map fun x=>(x.1,RP rs (ev x.2))) (.pair a b) 0) (bU (parts.toList.map fun x=>ev x.2))) else none
  |_=>none
 |.buildSlice t n parts=>match V.ti t with
  |some ⟨.sl e,_,el⟩=>match V.ti el with
   |none=>none
   |some te=>bif Nat.beq n parts.toList.length&&V9 parts.toList 0&&decide (te.k=e)&&Nat.ble (n*e.size) 1000000&&XG e.size (parts.toList.map fun x=>ev x.2) then
    qR rs e (parts.toList.map fun x=>ev x.2) fun ds m u g q=>
     c ⟨.ref (loc dst 0) [],(loc dst 0,some ⟨false,.sl e,bif e.flat then .own else Mask.Wt (m.getD .own),ds⟩)::u,true,ofs g,q,none,bU (parts.toList.map fun x=>ev x.2),g,false⟩
    else none
  |_=>none
 |.load t a=>match V.k t with
  |none=>none
  |some k=>match ev a with
   |.ptr r p=>match rs r with
    |none=>none
    |some x=>iF x.k x.d x.m p fun k' d m=>if k'=k then c (dz (TK r k' p d m) (r::(TK r k' p d m).names)) else none
   |.iptr z k0 d0 p=>iF k0 d0 (Mask.ro k0 z) p fun k' d _=>if k'=k then c (dz (.imm (bif k'.flat then true else z) k' d) []) else none
   |.vw r p L=>match rs r with
    |none=>none
    |some x=>match L with
     |[]=>iF x.k x.d x.m p fun k' d m=>if k'=k then c (dz (TK r k' p d m) (r::(TK r k' p d m).names)) else none
     |e::_=>match rs (par e.2.1) with
      |none=>none
      |some y=>if e.1=[]∧awM k=true∧x.k.at p=some k then
        iF y.k y.d y.m e.2.2 fun k' _ m=>if k'=k then (bif m.live then c (dz (.ref (par e.2.1) e.2.2) [r,par e.2.1]) else none) else none else none
   |_=>none
 |.store t a x=>match V.k t with
  |none=>none
  |some k=>match ev a with
   |.ptr r p=>dL rs (ev x) k [] fun d m u e q=>bif !m.live then none else match look rs u r with
    |none=>none
    |some y=>FW y.k y.d y.m p k d m fun d' m'=>
      c ⟨.dead,(r,some ⟨y.mem,y.k,m',d'⟩)::u,false,(bif k.flat then ofs e else .at r p::ofs e),q,none,(ev x).names,r::e,false⟩
   |_=>none
 |.nilCheck x=>match ev x with
  |.ptr r p=>c (dz (.ptr r p) [r])
  |.iptr z k d p=>c (dz (.iptr z k d p) [])
  |.fn f caps=>c (dz (.fn f caps) caps)
  |_=>none
 |.binOp op t x y _=>Vw (V.k t) op (ev x) (ev y) fun v=>c (dz v [])
 |.unOp op _ x=>ain op (ev x) fun v=>c (dz v [])
 |.convert src d x=>KT (V.k src) (V.k d) (ev x) fun v=>c (dz v [])
 |.makeFunc (.func f) first caps=>match first.toList,X3 (caps.toList.map ev) with
  |[],some l=>c (dz (.fn f l) l)
  |_,_=>none
 |.makeSlice t l cp=>match V.ti t with
  |some ⟨.sl e,_,el⟩=>match V.ti el,ev l,ev cp with
   |some te,.imm _ (.int .i64) n,.imm _ (.int .i64) n'=>if te.k=e∧0≤n∧n=n'∧n*te.bytes≤140737488355328∧1≤te.bytes then
     c ⟨.ref (loc dst 0) [],[(loc dst 0,some ⟨false,.sl e,.own,List.replicate n.toNat e.zero⟩)],true,[],[],none,[],[],false⟩ else none
   |_,_,_=>none
  |_=>none
 |.slice t x lo hi mx=>A9 V t rs (ev x) (lo.map ev) (hi.map ev) (mx.map ev) fun v=>c (dz v (ev x).names)
 |.fieldAddr t x f=>match V.k t,ev x with
  |some k,.ptr r p=>match rs r with
   |none=>none
   |some y=>if y.k.at p=some k∧(k.at (y8 f)).isSome then c (dz (.ptr r (p++y8 f)) [r]) else none
  |some k,.iptr z k0 d0 p=>if k0.at p=some k∧(k.at (y8 f)).isSome then c (dz (.iptr z k0 d0 (p++y8 f)) []) else none
  |some k,.vw r p L=>match rs r with
   |none=>none
   |some y=>if y.k.at p=some k∧(k.at (y8 f)).isSome then c (dz (.vw r (p++y8 f) (Wq (y8 f) L)) (r::L.map fun e=>par e.2.1)) else none
  |_,_=>none
 |.indexAddr t x i=>match V.k t,ev i with
  |some (.sl e),.imm _ (.int _) n=>yB rs e (ev x) n fun v=>c (dz v (ev x).names)
  |_,_=>none
 |.index t x i=>match V.k t,ev x,ev i with
  |some .str,.imm _ .str y,.imm _ (.int _) n=>if 0≤n then match y[n.toNat]? with
    |some b=>c (dz (.imm true (.int .u8) (b.toNat:Int)) [])
    |none=>none
   else none
  |_,_,_=>none
 |.field t x f=>match (V.k t).bind (·.agf f),kE (ev x) f with
  |some k,some v=>bif Nat.beq k.2 v.2&&!k.1.isAgg then KR rs k.1 v.1 c else none
  |_,_=>none
 |.extract x i=>bif (RO (ev x) i).alU then none else c (dz (RO (ev x) i) (RO (ev x) i).names)
 |.call { callee:=.builtin b,args,argTypes }=>fH V b argTypes dst (args.toList.map ev) rs c
 |.call { callee:=.value f,args,argTypes }=>callee tm f fun fid caps=>
   Al V fid (args.toList.map ev++ptrs caps) (kinds V argTypes) dst rs c
 |_=>none
def dF:ay:=(1,2000000)
def aqL:K:=.pair (.int .i64) (.pair (.int .i64) (.pair (.int .i64) (.int .i64)))
def Pw(r:ay)(i j:Nat):Root:=⟨false,aqL,.own,(Int.ofNat r.1,Int.ofNat r.2,Int.ofNat i,Int.ofNat j)⟩
def anx:(k:K)→k.den→Option (Int×Int×Int×Int)
 |.pair (.int _) (.pair (.int _) (.pair (.int _) (.int _))),d=>some d
 |_,_=>none
def Cx{α:Type}(i j:Nat)(l:List α):List α:=match l[i]?,l[j]? with
 |some x,some y=>(l.set i y).set j x
 |_,_=>l
def pV(o:Oper)(tm:TF):Option (TypeId×ay×Nat×Nat):=match o.op with
 |.store t a x=>match bf tm a,bf tm x with
  |.ptr r [.idx i],.ref r' [.idx j]=>bif req r r' then some (t,r,i,j) else none
  |_,_=>none
 |_=>none
def xQ(V:Env)(x:TypeId×ay×Nat×Nat)(rs:RF)(c:Del→Option R):Option R:=match V.k x.1 with
 |some (.sl e)=>match rs x.2.1 with
  |none=>none
  |some y=>if h:y.k=.sl (.sl e) then bif y.mem||!y.m.dU||!y.m.live then none else match rs dF with
    |none=>c ⟨.dead,[(dF,some (Pw x.2.1 x.2.2.1 x.2.2.2))],false,[.of dF],[],none,[x.2.1],[dF],true⟩
    |some z=>match anx z.k z.d with
     |some q=>bif Nat.beq q.1.toNat x.2.1.1&&Nat.beq q.2.1.toNat x.2.1.2 then (if q.2.2.1=Int.ofNat x.2.2.2∧q.2.2.2=Int.ofNat x.2.2.1 then
       c ⟨.dead,[(dF,none),(x.2.1,some ⟨false,.sl (.sl e),y.m,Cx x.2.2.1 x.2.2.2 (h ▸ y.d:(K.sl (.sl e)).den)⟩)],false,[.at x.2.1 [.idx 0]],[],none,[x.2.1],[dF,x.2.1],true⟩ else none) else none
     |none=>none
   else none
 |_=>none
def KQ(o:Oper):Bool:=match o.op with
 |.move _|.pick _ _ _|.binOp _ _ _ _ _|.unOp _ _ _|.convert _ _ _|.extract _ _|.indexAddr _ _ _=>true
 |_=>false
def zI (V:Env) (o:Oper) (tm:TF) (rs:RF) (c:Del→Option R):Option R:=match pV o tm with
 |some x=>xQ V x rs c
 |none=>bif KQ o then bC V o tm rs c else match rs dF with
  |none=>bC V o tm rs fun x=>match dn dF x.u with
   |none=>c x
   |some _=>none
  |some _=>none
def dK(dst:Nat)(x:Del):List Kill:=bif x.make then .dst dst::x.kills else x.kills
def mV(x:Option (ay×ay))(a:AV):AV:=match x with
 |none=>a
 |some (r,r2)=>a.ren r r2
def St.after(s:St)(dst:Option Nat)(x:Del):St:=
 ⟨fun t=>bif (match dst with|some d=>Nat.beq t d|none=>false) then x.v else mV x.ren (AV.kills (dK (dst.getD 0) x) (s.tmps t)),
  fun r=>match dn r x.u with
   |some y=>y
   |none=>bif x.make&&Nat.beq r.1 (dst.getD 0+2) then none else s.roots r,
  fun n=>s.pins n||x.pins.any (fun r=>Nat.beq n r.1)⟩
def allowed(s:St)(dst:Option Nat)(x:Del):Bool:=
 (!x.make&&x.ren.isNone)||(match dst with
  |some d=>!s.pins (d+2)&&!x.pins.any (fun r=>Nat.beq (d+2) r.1)
  |none=>false)
def ku(s:St)(dst:Option Nat)(x:Del):Bool:=allowed s dst x&&(!LP dF x.wr||!s.pins 1)
def AV.alive:AV→Bool
 |.dead=>false
 |.pair a b=>a.alive&&b.alive
 |.tcons a b=>a.alive&&b.alive
 |_=>true
def aZ(tm:TF)(o:Oper):List AV:=match o.op with
 |.extract y i=>[RO (bf tm y) i]
 |op=>op.operands.toList.map (bf tm)
def qV:List AV→Bool
 |[]=>true
 |a::l=>a.alive&&qV l
structure Tr where
 rd:List ay
 wr:List ay
 mak:Option Nat
 bar:Bool
 live:Bool
 qt:Bool
 ks:List Kill
 av:List AV
 rn:Bool
def ahH(d:Option Nat)(x:Del):Bool:=d.isNone&&x.kills.isEmpty&&!x.make&&x.ren.isNone&&x.pins.isEmpty&&!LP dF x.wr
def fE(o:Oper):Bool:=match o.op with
 |.move _|.pick _ _ _|.binOp _ _ _ _ _|.unOp _ _ _|.convert _ _ _|.extract _ _=>true
 |_=>false
def rz(o:Oper):Bool:=match o.op with
 |.assign _=>true
 |_=>false
def Oz(o o2:Oper)(tr:Tr):Bool:=(fE o||(rz o&&rz o2))&&(bU tr.av).isEmpty
def WQ (V:Env) (o:Oper) (s:St) (c:St→Tr→Option R):Option R:=
 zI V o s.tmps s.roots fun x=>bif ku s o.dst x then c (s.after o.dst x) ⟨dF::(bU (aZ s.tmps o)++(x.rd++x.v.names)),x.wr++x.pins,bif x.make then o.dst else none,x.bar,qV (aZ s.tmps o),ahH o.dst x,dK (o.dst.getD 0) x,x.v::aZ s.tmps o,x.ren.isSome⟩ else none
def gT(o:Oper)(s:St):St:=
 ⟨fun t=>bif (match o.dst with|some d=>Nat.beq t d|none=>false) then .tnil else s.tmps t,s.roots,s.pins⟩
def Sn(t:Nat)(v:AV)(s:St):St:=⟨fun t'=>bif Nat.beq t' t then v else s.tmps t',s.roots,s.pins⟩
def Ot (V:Env) (ops:List Oper) (o:Oper) (s:St) (c:St→Tr→Option R):Option R:=
 match o.guard with
 |none=>WQ V o s c
 |some (j,want)=>match ops[j]?.bind (·.dst) with
  |none=>none
  |some t=>match s.tmps t with
   |.imm z .bool b=>match want with
    |true=>cond b (WQ V o (Sn t (.imm z .bool true) s) c) (c (gT o (Sn t (.imm z .bool false) s)) ⟨[],[],none,false,true,false,[],[],false⟩)
    |false=>cond b (c (gT o (Sn t (.imm z .bool true) s)) ⟨[],[],none,false,true,false,[],[],false⟩) (WQ V o (Sn t (.imm z .bool false) s) c)
   |.tnil=>c (gT o s) ⟨[],[],none,false,true,false,[],[],false⟩
   |_=>none
def Ya (V:Env) (all:List Oper):List Oper→St→List Tr→(St→List Tr→Option R)→Option R
 |[],s,accs,c=>c s accs
 |o::l,s,accs,c=>Ot V all o s fun s' a=>Ya V all l s' (a::accs) c
def CO:List ay→List ay→Bool
 |[],_=>false
 |r::l,x=>LP r x||CO l x
def AV.still(ks:List Kill):AV→Bool
 |.pair a b=>a.still ks&&b.still ks
 |.tcons a b=>a.still ks&&b.still ks
 |a=>!hit ks a
def vD(ks:List Kill):List AV→Bool
 |[]=>true
 |a::l=>a.still ks&&vD ks l
def ajD(d:Option Nat)(l:List ay):Bool:=match d with
 |some d=>l.any fun r=>Nat.beq r.1 (d+2)
 |none=>false
def clash(a b:Tr):Bool:=
 a.bar||b.bar||CO a.wr b.rd||CO a.wr b.wr||CO b.wr a.rd||ajD a.mak b.rd||ajD a.mak b.wr||ajD b.mak a.rd||ajD b.mak a.wr
def ade(ops:Array Oper)(o:Oper):List Nat:=
 (o.op.operands.toList.filterMap fun|.tmp t=>some t|_=>none)++(match o.guard with
  |some (j,_)=>(ops[j]?.bind (·.dst)).toList
  |none=>[])
def agC(ops:Array Oper)(x y:Oper):Bool:=
 match x.dst with
 |some d=>!(ade ops y).contains d&&y.dst != some d
 |none=>true
def SX(o:Oper):List Nat:=(o.after.toList.filter fun e=>Region.binds .any e).map (·.on)
def uE(n m:Nat):Bool:=Nat.beq (Nat.land (Nat.shiftRight m n) 1) 1
def aiv(prev:List Nat):List Nat→Nat
 |[]=>0
 |k::l=>Nat.lor (Nat.lor (Nat.shiftLeft 1 k) (prev.getD k 0)) (aiv prev l)
def apm:List Oper→List Nat→List Nat
 |[],t=>t
 |o::l,t=>apm l (t++[aiv t (SX o)])
def below(n:Nat):List Nat→Bool
 |[]=>true
 |k::l=>Nat.blt k n&&below n l
def WG:List Oper→Nat→Bool
 |[],_=>true
 |o::l,i=>below i (SX o)&&WG l (i+1)
def VE(ops:Array Oper)(o:Oper)(a:Tr)(anc:Nat):List (Oper×Tr)→Nat→Bool
 |[],_=>true
 | (o',a')::l,i=>(uE i anc||(((!clash a' a&&a.live)||(fE o'&&a.qt)||(a'.qt&&fE o)||(fE o'&&(!a.rn&&vD a.ks a'.av))||(fE o&&(!a'.rn&&(a.live&&vD a'.ks a.av)))||Oz o' o a'||(a.live&&Oz o o' a))&&agC ops o' o&&agC ops o o'))&&VE ops o a anc l (i+1)
def abA(ops:Array Oper)(anc:List Nat):List (Oper×Tr)→List (Oper×Tr)→Nat→Bool
 |[],_,_=>true
 | (o,a)::l,done,i=>VE ops o a (anc.getD i 0) done 0&&abA ops anc l (done++[(o,a)]) (i+1)
def Yg(ops:List Oper)(accs:List Tr):Bool:=
 WG ops 0&&abA ops.toArray (apm ops []) (ops.zip accs) [] 0
def zJ (V:Env) (ops:List Oper) (draw:Bool) (s:St) (c:St→Option R):Option R:=
 match s.roots dF with
 |some _=>none
 |none=>Ya V ops ops s [] fun s' accs=>match s'.roots dF with
  |some _=>none
  |none=>bif draw then (bif Yg ops accs.reverse then c s' else none) else c s'
inductive Ex where
 |normal|exit (id:Nat)|ret
def eH:Code→Option Nat
 |.region id _ _=>some id
 |.seq a b=>(eH a).or (eH b)
 |.cond _ a b=>(eH a).or (eH b)
 |.block _ a=>eH a
 |.loop a=>(eH a).map (·+1000000)
 |.scope a=>eH a
 |_=>none
abbrev Keep:=List Nat×List ay
def SL(tm:TF):List Nat→List (Nat×AV)
 |[]=>[]
 |t::l=>(t,tm t)::SL tm l
def keepR(rs:RF):List ay→List (ay×Option Root)
 |[]=>[]
 |r::l=>(r,rs r)::keepR rs l
def Jc(rs:RF):List ay→Nat→Bool
 |[],_=>false
 |r::l,n=>(match rs r with
  |some x=>bif x.k.plain then false else (aS x.k x.d).any fun q=>Nat.beq n q.1
  |none=>false)||Jc rs l n
def restrict(kp:Keep)(s:St):St:=⟨XM (SL s.tmps kp.1),WM (keepR s.roots kp.2),Jc s.roots kp.2⟩
structure bB where
 kp:Keep
 kx:Keep
 sm:St→Tre (Ex×St)
def iter(L:bB)(f:St→(Ex→St→Option R)→Option R):Nat→St→(Ex→St→Option R)→Option R
 |0,_,_=>none
 |n+1,s,c=>f s fun e s'=>match e with
  |.normal=>iter L f n (restrict L.kp s') c
  |e=>c e (restrict L.kx s')
def ai2:K→Mask→Path→Bool→Option Mask
 |k,m,[],false=>bif m.done then some (bif k.flat then m else .imm true) else none
 |.sl e,m,[],true=>bif m.dU&&m.elem.done then some (bif e.flat then m else Mask.Wt (.imm true)) else none
 |.pair a _,m,.fst::p,el=>(ai2 a m.fst p el).map m.C9
 |.pair _ b,m,.snd::p,el=>(ai2 b m.snd p el).map m.Da
 |_,_,_,_=>none
def acj:List Frz→St→St
 |[],s=>s
 | (q,p,el)::l,s=>match s.roots q with
  |none=>acj l s
  |some x=>match ai2 x.k x.m p el with
   |none=>acj l s
   |some m'=>acj l ⟨s.tmps,fun r=>bif req r q then some ⟨x.mem,x.k,m',x.d⟩ else s.roots r,s.pins⟩
def den (V:Env) (A:List (Nat×bB)):Code→St→(Ex→St→Option R)→Option R
 |.skip,s,c=>c .normal s
 |.label _,s,c=>c .normal s
 |.region id ops draw,s,c=>match gI id V.Z with
  |none=>zJ V ops.toList draw s fun s'=>c .normal s'
  |some l=>zJ V ops.toList draw (acj l s) fun s'=>c .normal s'
 |.seq a b,s,c=>den V A a s fun e s'=>match e with
  |.normal=>den V A b s' c
  |e=>c e s'
 |.cond x a b,s,c=>match bf s.tmps x with
  |.imm _ .bool t=>cond t (den V A a s c) (den V A b s c)
  |_=>none
 |.block id a,s,c=>den V A a s fun e s'=>match e with
  |.exit i=>bif Nat.beq i id then c .normal s' else c (.exit i) s'
  |e=>c e s'
 |.loop a,s,c=>match (eH a).bind fun i=>gI i A with
  |some L=>(L.sm (restrict L.kp s)).run fun x=>c x.1 x.2
  |none=>none
 |.exit id,s,c=>c (.exit id) s
 |.ret,s,c=>c .ret s
 |_,_,_=>none
def AV.isLocal:AV→Bool
 |.nil|.emp=>true
 |.ref (_+2,_) _=>true
 |.slc (_+2,_) _ _ _=>true
 |_=>false
def Rk(a:AV)(ks:List Kill)(rs:RF)(fs:List Root)(c:AV→RF→List Root→List Kill→Option R):Option R:=
 match a with
 |.ptr (0,i) []=>c (.ptr (0,i) []) rs fs ks
 |.ref (0,i) p=>c (.ref (0,i) p) rs fs ks
 |.slc (0,i) p lo n=>c (.slc (0,i) p lo n) rs fs ks
 |.ptr (d+2,j) []=>match rs (d+2,j) with
  |some x=>bif x.mem then c (.ptr (fr fs.length) []) (look rs [((d+2,j),none)]) (fs++[x]) ks else none
  |none=>none
 |_=>none
def wS(rs:RF):AV→Option AV
 |.ref (d+2,j) []=>match rs (d+2,j) with
  |some x=>bif x.mem then none else match x.m with
   |.imm z=>bif x.k.plain then some (.imm z x.k x.d) else none
   |_=>none
  |none=>none
 |_=>none
def WK(e:Option K):AV→List Kill→RF→List Root→(AV→RF→List Root→List Kill→Option R)→Option R
 |.imm z k d,ks,rs,fs,c=>c (.imm z k d) rs fs ks
 |.nilp,ks,rs,fs,c=>c .nilp rs fs ks
 |.pair a b,ks,rs,fs,c=>match e with
  |some (.pair ka kb)=>WK (some ka) a ks rs fs fun a' rs1 fs1 ks1=>WK (some kb) b ks1 rs1 fs1 fun b' rs2 fs2 ks2=>c (AV.flatten (AV.kills ks2 a') b') rs2 fs2 ks2
  |_=>none
 |a,ks,rs,fs,c=>bif hit ks a then none else match wS rs a with
  |some b=>c b rs fs ks
  |none=>bif a.isLocal then (match e with
  |some (.sl k)=>fU rs k [] a fun xs m u' k1 _=>c (.ref (fr fs.length) []) (look rs u') (fs++[⟨false,.sl k,m,xs⟩]) (ks++k1)
  |some _=>none
  |none=>match a with
   |.nil=>c .nil rs fs ks
   |_=>none) else Rk a ks rs fs c
def EX(rs:RF):Nat→Nat→Option (List Root)
 |_,0=>some []
 |i,n+1=>match rs (par i) with
  |some x=>(EX rs (i+1) n).map (x::·)
  |none=>none
def awi(V:Env)(a:AV)(k:Option K):Option K:=match a with
 |.nil=>match gI 1000001 V.Z with
  |some _=>none
  |none=>k
 |_=>k
def yG(V:Env)(tm:TF)(rs:RF):List ResultVar→List TypeId→Option (List (AV×Option K))
 |[],_=>some []
 |.tmp t::l,ts=>(yG V tm rs l ts.tail).map ((tm t,awi V (tm t) (ts.head?.bind V.k))::·)
 |.cell t T::l,ts=>match V.k T,tm t with
  |some k,.ptr r []=>match rs r with
   |some x=>if x.mem=true∧x.k=k then (yG V tm rs l ts.tail).map ((TK r x.k [] x.d x.m,ts.head?.bind V.k)::·) else none
   |none=>none
  |_,_=>none
def WL:List (AV×Option K)→List Kill→RF→List Root→(AV→RF→List Root→List Kill→Option R)→Option R
 |[],ks,rs,fs,c=>c .tnil rs fs ks
 | (a,k)::l,ks,rs,fs,c=>WK k a ks rs fs fun a' rs1 fs1 ks1=>WL l ks1 rs1 fs1 fun b rs2 fs2 ks2=>c (.tcons (AV.kills ks2 a') b) rs2 fs2 ks2
def atl(l:List ay):Bool:=l.any fun q=>Nat.beq q.1 1
def afJ:List (AV×Option K)→Bool
 |[]=>false
 | (a,_)::l=>atl a.names||afJ l
structure FnI where
 body:Code
 results:List ResultVar
 types:List TypeId
 loops:List (Nat×bB)
def af3:Nat→List AV→List (Nat×AV)
 |_,[]=>[]
 |i,a::l=>(i,a)::af3 (i+1) l
def af2:Nat→List Root→List (ay×Option Root)
 |_,[]=>[]
 |i,x::l=>(par i,some x)::af2 (i+1) l
def aqe(ci:Tz):St:=⟨XM (af3 0 ci.args),WM (af2 0 ci.roots),fun _=>false⟩
def one:AV→AV
 |.tcons a .tnil=>a
 |r=>r
def Jy(V:Env)(s:St):St:=match gI 1000000 V.Z with
 |none=>s
 |some l=>acj l s
def bI (V:Env) (F:FnI) (ci:Tz):Option aA:=
 den V F.loops F.body (aqe ci) fun e s=>match e with
  |.exit _=>none
  |_=>match yG V (Jy V s).tmps (Jy V s).roots F.results F.types with
   |none=>none
   |some vals=>bif (Jy V s).pins 1||afJ vals then none else
    WL vals [] (Jy V s).roots [] fun r rs fs _=>match EX rs 0 ci.roots.length with
     |none=>none
     |some ps=>bif rJ ps.length fs.length ps&&rJ ps.length fs.length fs then some ⟨one r,ps,fs⟩ else none
end
end Go.Abs
namespace Go.Abs
abbrev BS:=Nat→Prop
def Sub(A B:BS):Prop:=∀b,A b→B b
def DI(A B:BS):Prop:=∀b,A b→B b→False
theorem Sub.refl(A:BS):Sub A A:=fun _ h=>h
theorem Sub.trans{A B C:BS}(h:Sub A B)(k:Sub B C):Sub A C:=fun b x=>k b (h b x)
theorem DI.sub{A B A' B':BS}(h:DI A B)(ha:Sub A' A)(hb:Sub B' B):DI A' B':=fun b x y=>h b (ha b x) (hb b y)
theorem DI.symm{A B:BS}(h:DI A B):DI B A:=fun b x y=>h b y x
def noB:BS:=fun _=>False
def sub(c:Array Value)(off n:Nat):List Value:=(c.toList.drop off).take n
theorem pG{c:Array Value}{off n:Nat}(h:off+n≤c.size):(sub c off n).length=n:=by
 unfold sub;simp;omega
def avz(θ:ay→Nat):Option ay→Value
 |none=>.pointer none
 |some r=>.pointer (some ⟨θ r,0,none⟩)
def DJ(θ:ay→Nat)(l:List ay):Array Value:=(l.map fun r=>Value.pointer (some ⟨θ r,0,none⟩)).toArray
def fnV(θ:ay→Nat):Option (Nat×List ay)→Value
 |none=>.nilFunc
 |some x=>.func (.func x.1) #[] (DJ θ x.2)
def Og(Z S F:BS)(b:Nat)(fz:Nat×Nat):Mask→Prop
 |.own=>F b∧fz=(0,0)
 |.sl _=>F b∧fz=(0,0)
 |.imm z=>Z b∨(z=false∧S b)
 |_=>False
def Enc(w:World)(θ:ay→Nat)(Z S:BS):(k:K)→Mask→k.den→List Value→BS→Prop
 |.int ik,_,n,vs,_=>vs=[.int ik n]
 |.bool,_,b,vs,_=>vs=[.bool b]
 |.str,_,s,vs,_=>vs=[.string s]
 |.ptr,_,d,vs,_=>vs=[avz θ d]
 |.fn,_,d,vs,_=>vs=[fnV θ d]
 |.unit,_,_,vs,_=>vs=[]
 |.pair a b,m,d,vs,F=>∃v1 v2 F1 F2,vs=v1++v2∧Sub F1 F∧Sub F2 F∧DI F1 F2∧Enc w θ Z S a m.fst d.1 v1 F1∧Enc w θ Z S b m.snd d.2 v2 F2
 |.sl e,m,xs,vs,F=>(m=.gone∧∃v,vs=[v])∨(m≠.gone∧xs=[]∧∃a,vs=[.slice a 0 0]) ∨
   (m≠.gone∧∃(b off cap:Nat) (c:Array Value) (T:TypeId) (fz:Nat×Nat),vs=[.slice (some ⟨b,off,none⟩) xs.length cap]∧w.heap[b]?=some (.cells c T fz) ∧
    xs.length≤cap∧off+cap*e.size≤c.size∧Og Z S F b fz m∧∃G:Nat→BS,(∀i,Sub (G i) F∧¬G i b)∧(∀i j,i≠j→DI (G i) (G j)) ∧
    ∀i x,xs[i]?=some x→Enc w θ Z S e m.elem x (sub c (off+i*e.size) e.size) (G i))
theorem Enc.len{w:World}{θ:ay→Nat}{Z S:BS}:∀{k:K}{m:Mask}{d:k.den}{vs:List Value}{F:BS},Enc w θ Z S k m d vs F→vs.length=k.size:=by
 intro k
 induction k with
 |sl e _=>
  intro m d vs F h
  rcases h with ⟨_,v,rfl⟩|⟨_,_,a,rfl⟩|⟨_,_,_,_,_,_,_,rfl,_⟩<;>rfl
 |pair a b iha ihb=>
  intro m d vs F h
  obtain ⟨v1,v2,F1,F2,rfl,_,_,_,h1,h2⟩:=h
  simp [K.size,iha h1,ihb h2]
 |_=>intro m d vs F h;simp only [Enc] at h;subst h;rfl
theorem bV:∀{k:K}(d:k.den),k.plain=true→aS k d=[]:=by
 intro k
 induction k with
 |ptr=>intro d h;simp [K.plain] at h
 |fn=>intro d h;simp [K.plain] at h
 |sl e _=>intro d h;simp only [K.plain] at h;simp [aS,h]
 |pair a b iha ihb=>
  intro d h
  simp only [K.plain,Bool.and_eq_true] at h
  simp [aS,iha d.1 h.1,ihb d.2 h.2]
 |_=>intro d h;simp [aS]
theorem vg{e:K}{xs:List e.den}{x:e.den}{r:ay}(hx:x∈xs)(hr:r∈aS e x):r∈aS (.sl e) xs:=by
 simp only [aS]
 cases hp:e.plain with
 |true=>rw [bV x hp] at hr;cases hr
 |false=>simp only [cond_false];exact List.mem_flatMap.2 ⟨x,hx,hr⟩
theorem agu{Z S F Z' S' F':BS}{b:Nat}{fz:Nat×Nat}{m:Mask}(hF:Sub F F')(hZ:Sub Z Z')(hS:Sub S S')(h:Og Z S F b fz m):Og Z' S' F' b fz m:=by
 cases m<;>simp only [Og] at h ⊢
 ·exact ⟨hF _ h.1,h.2⟩
 ·exact h.imp (hZ _) (fun x=>⟨x.1,hS _ x.2⟩)
 ·exact ⟨hF _ h.1,h.2⟩
theorem XH{Z S F:BS}{b:Nat}{fz:Nat×Nat}{m:Mask}(h:Og Z S F b fz m):F b∨Z b∨S b:=by
 cases m<;>simp only [Og] at h
 ·exact .inl h.1
 ·rcases h with h|h
  ·exact .inr (.inl h)
  ·exact .inr (.inr h.2)
 ·exact .inl h.1
theorem Enc.mono{w w':World}{θ θ':ay→Nat}{Z S Z' S':BS}(hZ:Sub Z Z')(hS:Sub S S') :
  ∀{k:K}{m:Mask}{d:k.den}{vs:List Value}{F F':BS},Enc w θ Z S k m d vs F→Sub F F' →
   (∀b,F b∨Z b∨S b→w'.heap[b]?=w.heap[b]?)→(∀r∈aS k d,θ' r=θ r)→Enc w' θ' Z' S' k m d vs F':=by
 intro k
 induction k with
 |ptr=>
  intro m d vs F F' h _ _ hr
  simp only [Enc] at h ⊢
  subst h
  cases d with
  |none=>rfl
  |some r=>simp only [avz,hr r (by simp [aS])]
 |fn=>
  intro m d vs F F' h _ _ hr
  simp only [Enc] at h ⊢
  subst h
  cases d with
  |none=>rfl
  |some x=>
   have:DJ θ x.2=DJ θ' x.2:=by
    unfold DJ
    congr 1
    exact List.map_congr_left fun r hm=>by rw [hr r (by simpa [aS] using hm)]
   simp only [fnV,this]
 |pair a b iha ihb=>
  intro m d vs F F' h hF hb hr
  obtain ⟨v1,v2,F1,F2,rfl,s1,s2,dj,h1,h2⟩:=h
  exact ⟨v1,v2,F1,F2,rfl,s1.trans hF,s2.trans hF,dj,
   iha h1 (.refl _) (fun b hb'=>hb b (hb'.imp (s1 b) id)) (fun r hm=>hr r (by simp [aS,hm])),
   ihb h2 (.refl _) (fun b hb'=>hb b (hb'.imp (s2 b) id)) (fun r hm=>hr r (by simp [aS,hm]))⟩
 |sl e ih=>
  intro m d vs F F' h hF hb hr
  rcases h with h|h|⟨hm,b,off,cap,c,T,fz,rfl,hc,hl,hs,hok,G,hG,hd,he⟩
  ·exact .inl h
  ·exact .inr (.inl h)
  ·refine .inr (.inr ⟨hm,b,off,cap,c,T,fz,rfl,?_,hl,hs,agu hF hZ hS hok,G,fun i=>⟨(hG i).1.trans hF,(hG i).2⟩,hd,fun i x hx=>?_⟩)
   ·rw [hb b (XH hok)];exact hc
   ·refine ih (he i x hx) (.refl _) (fun b' hb'=>hb b' (hb'.imp ((hG i).1 b') id)) (fun r hrm=>hr r (vg (List.mem_of_getElem? hx) hrm))
 |_=>intro m d vs F F' h _ _ _;exact h
theorem Mask.ajx{m:Mask}(h:m.live=true):m.fst.live=true:=by
 cases m<;>simp_all [Mask.live,Mask.fst]
theorem Mask.ajy{m:Mask}(h:m.live=true):m.snd.live=true:=by
 cases m<;>simp_all [Mask.live,Mask.snd]
theorem Mask.Q0{m:Mask}(h:m.live=true):m.elem.live=true:=by
 cases m<;>simp_all [Mask.live,Mask.elem]
theorem Enc.snap{w:World}{θ:ay→Nat}{Z S S':BS}(hS:Sub S S') :
  ∀{k:K}{m:Mask}{d:k.den}{vs:List Value}{F G:BS},Enc w θ Z S k m d vs F→m.live=true→Sub F S'→Enc w θ Z S' k (.imm false) d vs G:=by
 intro k
 induction k with
 |pair a b iha ihb=>
  intro m d vs F G h hl hF
  obtain ⟨v1,v2,F1,F2,rfl,s1,s2,dj,h1,h2⟩:=h
  exact ⟨v1,v2,noB,noB,rfl,fun _ x=>x.elim,fun _ x=>x.elim,fun _ x=>x.elim,iha h1 (Mask.ajx hl) (s1.trans hF),ihb h2 (Mask.ajy hl) (s2.trans hF)⟩
 |sl e ih=>
  intro m d vs F G h hl hF
  rcases h with ⟨rfl,_⟩|⟨_,h⟩|⟨hm,b,off,cap,c,T,fz,rfl,hc,hle,hs,hok,G',hG,hd,he⟩
  ·simp [Mask.live] at hl
  ·exact .inr (.inl ⟨by simp,h⟩)
  ·refine .inr (.inr ⟨by simp,b,off,cap,c,T,fz,rfl,hc,hle,hs,?_,fun _=>noB,fun _=>⟨fun _ x=>x.elim,fun x=>x⟩,fun _ _ _ _ x=>x.elim,fun i x hx=>?_⟩)
   ·rcases XH hok with h|h|h
    ·exact .inr ⟨rfl,hF _ h⟩
    ·exact .inl h
    ·exact .inr ⟨rfl,hS _ h⟩
   ·exact ih (he i x hx) (Mask.Q0 hl) ((hG i).1.trans hF)
 |_=>intro m d vs F G h _ _;exact h
theorem Enc.flat{w w':World}{θ:ay→Nat}{Z S Z' S':BS}:∀{k:K}{m m':Mask}{d:k.den}{vs:List Value}{F F':BS},k.flat=true→Enc w θ Z S k m d vs F→Enc w' θ Z' S' k m' d vs F':=by
 intro k
 induction k with
 |pair a b iha ihb=>
  intro m m' d vs F F' hf h
  simp only [K.flat,Bool.and_eq_true] at hf
  obtain ⟨v1,v2,F1,F2,rfl,s1,s2,dj,h1,h2⟩:=h
  exact ⟨v1,v2,noB,noB,rfl,fun _ x=>x.elim,fun _ x=>x.elim,fun _ x=>x.elim,iha hf.1 h1,ihb hf.2 h2⟩
 |sl e ih=>intro m m' d vs F F' hf;simp [K.flat] at hf
 |_=>intro m m' d vs F F' _ h;exact h
theorem Enc.arU{w:World}{θ:ay→Nat}{Z S:BS}{z:Bool}:∀{k:K}{d:k.den}{vs:List Value}{F G:BS},Enc w θ Z S k (.imm z) d vs F→Enc w θ Z S k (.imm z) d vs G:=by
 intro k
 induction k with
 |pair a b iha ihb=>
  intro d vs F G h
  obtain ⟨v1,v2,F1,F2,rfl,s1,s2,dj,h1,h2⟩:=h
  exact ⟨v1,v2,noB,noB,rfl,fun _ x=>x.elim,fun _ x=>x.elim,fun _ x=>x.elim,iha h1,ihb h2⟩
 |sl e ih=>
  intro d vs F G h
  rcases h with ⟨h,_⟩|⟨_,h⟩|⟨hm,b,off,cap,c,T,fz,rfl,hc,hle,hs,hok,G',hG,hd,he⟩
  ·cases h
  ·exact .inr (.inl ⟨by simp,h⟩)
  ·exact .inr (.inr ⟨by simp,b,off,cap,c,T,fz,rfl,hc,hle,hs,hok,fun _=>noB,fun _=>⟨fun _ x=>x.elim,fun x=>x⟩,fun _ _ _ _ x=>x.elim,fun i x hx=>ih (he i x hx)⟩)
 |_=>intro d vs F G h;exact h
def K.zeroCells:K→List Value
 |.int ik=>[.int ik 0]
 |.bool=>[.bool false]
 |.str=>[.string ⟨#[]⟩]
 |.ptr=>[.pointer none]
 |.fn=>[.nilFunc]
 |.unit=>[]
 |.pair a b=>a.zeroCells++b.zeroCells
 |.sl _=>[.slice none 0 0]
theorem Enc.zero{w:World}{θ:ay→Nat}{Z S:BS}:∀{k:K}{F:BS},Enc w θ Z S k .own k.zero k.zeroCells F:=by
 intro k
 induction k with
 |pair a b iha ihb=>
  intro F
  exact ⟨_,_,noB,noB,rfl,fun _ x=>x.elim,fun _ x=>x.elim,fun _ x=>x.elim,iha,ihb⟩
 |sl e ih=>intro F;exact .inr (.inl ⟨by simp,rfl,none,rfl⟩)
 |_=>intro F;rfl
def lM(w:World)(b off n:Nat):List Value:=
 match w.heap[b]? with
 |some (.cells c _ _)=>sub c off n
 |_=>[]
def eU(w:World):K→List Value→Option (Nat×Nat)→Path→Option (List Value×Option (Nat×Nat))
 |_,vs,base,[]=>some (vs,base)
 |.pair a _,vs,base,.fst::p=>eU w a (vs.take a.size) base p
 |.pair a b,vs,base,.snd::p=>eU w b (vs.drop a.size) (base.map fun x=>(x.1,x.2+a.size)) p
 |.sl e,vs,_,.idx i::p=>match vs with
  |[.slice (some ad) _ _]=>eU w e (lM w ad.block (ad.off+i*e.size) e.size) (some (ad.block,ad.off+i*e.size)) p
  |_=>none
 |_,_,_,_=>none
def Gc(w:World)(vs:List Value):Option (Nat×Nat)→Prop
 |none=>True
 |some (b,off)=>∃c T fz,w.heap[b]?=some (.cells c T fz)∧off+vs.length≤c.size∧sub c off vs.length=vs
theorem XK{c:Array Value}{off n m:Nat}(h:m≤n):(sub c off n).take m=sub c off m:=by
 unfold sub;rw [List.take_take,Nat.min_eq_left h]
theorem XJ{c:Array Value}{off n m:Nat}:(sub c off n).drop m=sub c (off+m) (n-m):=by
 unfold sub;rw [List.drop_take,List.drop_drop]
theorem Gc.take{w:World}{vs:List Value}{base:Option (Nat×Nat)}(h:Gc w vs base)(n:Nat)(hn:n≤vs.length):Gc w (vs.take n) base:=by
 cases base with
 |none=>trivial
 |some x=>
  obtain ⟨c,T,fz,hc,hs,he⟩:=h
  refine ⟨c,T,fz,hc,by simp;omega,?_⟩
  rw [List.length_take,Nat.min_eq_left hn,←XK hn,he]
theorem Gc.drop{w:World}{vs:List Value}{base:Option (Nat×Nat)}(h:Gc w vs base)(n:Nat)(hn:n≤vs.length):Gc w (vs.drop n) (base.map fun x=>(x.1,x.2+n)):=by
 cases base with
 |none=>trivial
 |some x=>
  obtain ⟨c,T,fz,hc,hs,he⟩:=h
  refine ⟨c,T,fz,hc,by simp;omega,?_⟩
  rw [List.length_drop,←XJ,he]
theorem K.lG:∀(p q:Path)(k:K),k.at (p++q)=(k.at p).bind fun k'=>k'.at q
 |[],q,k=>by cases k<;>rfl
 |.fst::p,q,.pair a b=>K.lG p q a
 |.snd::p,q,.pair a b=>K.lG p q b
 |.idx i::p,q,.sl e=>K.lG p q e
 |.fst::p,q,.int _=>rfl
 |.fst::p,q,.bool=>rfl
 |.fst::p,q,.str=>rfl
 |.fst::p,q,.ptr=>rfl
 |.fst::p,q,.fn=>rfl
 |.fst::p,q,.sl _=>rfl
 |.fst::p,q,.unit=>rfl
 |.snd::p,q,.int _=>rfl
 |.snd::p,q,.bool=>rfl
 |.snd::p,q,.str=>rfl
 |.snd::p,q,.ptr=>rfl
 |.snd::p,q,.fn=>rfl
 |.snd::p,q,.sl _=>rfl
 |.snd::p,q,.unit=>rfl
 |.idx i::p,q,.int _=>rfl
 |.idx i::p,q,.bool=>rfl
 |.idx i::p,q,.str=>rfl
 |.idx i::p,q,.ptr=>rfl
 |.idx i::p,q,.fn=>rfl
 |.idx i::p,q,.unit=>rfl
 |.idx i::p,q,.pair _ _=>rfl
theorem TT{w:World}{θ:ay→Nat}{Z S:BS}{R:Type}{r:R}:∀(p:Path){k:K}{m:Mask}{d:k.den}{vs:List Value}{F:BS}{base:Option (Nat×Nat)}{c:(k':K)→k'.den→Mask→Option R},
  iF k d m p c=some r→Enc w θ Z S k m d vs F→Gc w vs base →
  ∃k' d' m' vs' base' F',c k' d' m'=some r∧k.at p=some k'∧eU w k vs base p=some (vs',base')∧Enc w θ Z S k' m' d' vs' F'∧Sub F' F∧Gc w vs' base'∧(∀r∈aS k' d',r∈aS k d) ∧
   (base'=base.map (fun x=>(x.1,(base'.getD (0,0)).2))∨∃b o,base'=some (b,o)∧(F b∨Z b∨S b)):=by
 intro p
 induction p with
 |nil=>
  intro k m d vs F base c h he hl
  have h':c k d m=some r:=by cases k<;>exact h
  refine ⟨k,d,m,vs,base,F,h',by cases k<;>rfl,by cases k<;>rfl,he,.refl _,hl,fun _ h=>h,.inl ?_⟩
  cases base<;>rfl
 |cons s p ih=>
  intro k m d vs F base c h he hl
  cases s with
  |fst=>
   cases k with
   |pair a b=>
    obtain ⟨v1,v2,F1,F2,rfl,s1,s2,dj,h1,h2⟩:=he
    have l1:=h1.len
    have hl':Gc w v1 base:=by have:=hl.take a.size (by simp;omega);rwa [←l1,List.take_left] at this
    obtain ⟨k',d',m',vs',base',F',g1,g2,g3,g4,g5,g6,g7,g8⟩:=ih (k:=a) h h1 hl'
    refine ⟨k',d',m',vs',base',F',g1,g2,?_,g4,g5.trans s1,g6,fun r hr=>by simp [aS,g7 r hr],g8.imp id fun ⟨b,o,e,hx⟩=>⟨b,o,e,hx.imp (s1 b) id⟩⟩
    simp only [eU];rw [←l1,List.take_left];exact g3
   |_=>simp [iF] at h
  |snd=>
   cases k with
   |pair a b=>
    obtain ⟨v1,v2,F1,F2,rfl,s1,s2,dj,h1,h2⟩:=he
    have l1:=h1.len
    have hl':Gc w v2 (base.map fun x=>(x.1,x.2+a.size)):=by have:=hl.drop a.size (by simp;omega);rw [←l1,List.drop_left] at this;rw [←l1];exact this
    obtain ⟨k',d',m',vs',base',F',g1,g2,g3,g4,g5,g6,g7,g8⟩:=ih (k:=b) h h2 hl'
    refine ⟨k',d',m',vs',base',F',g1,g2,?_,g4,g5.trans s2,g6,fun r hr=>by simp [aS,g7 r hr],?_⟩
    ·simp only [eU];rw [←l1,List.drop_left];rw [l1];exact g3
    ·rcases g8 with g8|⟨b',o,e,hx⟩
     ·left;rw [g8];cases base<;>rfl
     ·exact .inr ⟨b',o,e,hx.imp (s2 b') id⟩
   |_=>simp [iF] at h
  |idx i=>
   cases k with
   |sl e=>
    simp only [iF] at h
    split at h
    ·rename_i x hx
     have hm:m≠.gone:=by rintro rfl;simp at h
     have h':iF e x m.elem p c=some r:=by
      cases m<;>first|exact h|exact absurd rfl hm
     rcases he with ⟨hg,_⟩|⟨_,rfl,_⟩|⟨_,b,off,cap,cs,T,fz,rfl,hc,hle,hs,hok,G,hG,hd,hel⟩
     ·exact absurd hg hm
     ·simp at hx
     ·have hi:i<List.length d:=(List.getElem?_eq_some_iff.1 hx).1
      have hsz:off+i*e.size+e.size≤cs.size:=by
       have:(i+1)*e.size≤cap*e.size:=Nat.mul_le_mul_right _ (by omega)
       rw [Nat.add_mul,Nat.one_mul] at this;omega
      have hex:=hel i x hx
      have hl':Gc w (sub cs (off+i*e.size) e.size) (some (b,off+i*e.size)):=
       ⟨cs,T,fz,hc,by rw [pG hsz];exact hsz,by rw [pG hsz]⟩
      obtain ⟨k',d',m',vs',base',F',g1,g2,g3,g4,g5,g6,g7,g8⟩:=ih (k:=e) h' hex hl'
      refine ⟨k',d',m',vs',base',F',g1,g2,?_,g4,g5.trans (hG i).1,g6,fun r hr=>vg (List.mem_of_getElem? hx) (g7 r hr),.inr ?_⟩
      ·simp only [eU,lM,hc];exact g3
      ·rcases g8 with g8|⟨b',o,e',hx'⟩
       ·exact ⟨b,_,g8,XH hok⟩
       ·exact ⟨b',o,e',hx'.imp ((hG i).1 b') id⟩
    ·simp at h
   |_=>simp [iF] at h
theorem K.VB:∀(p:Path){k k':K},k.flat=true→k.at p=some k'→k'.flat=true∧dM p=false
 |[],k,k',hf,h=>by
  have:some k=some k':=by rw [←h];cases k<;>rfl
  cases this;exact ⟨hf,rfl⟩
 |.fst::p,.pair a b,k',hf,h=>by
  simp only [K.flat,Bool.and_eq_true] at hf
  exact K.VB p hf.1 h
 |.snd::p,.pair a b,k',hf,h=>by
  simp only [K.flat,Bool.and_eq_true] at hf
  exact K.VB p hf.2 h
 |.idx i::p,.sl e,k',hf,h=>by simp [K.flat] at hf
 |.fst::p,.int _,_,_,h=>by simp [K.at] at h
 |.fst::p,.bool,_,_,h=>by simp [K.at] at h
 |.fst::p,.str,_,_,h=>by simp [K.at] at h
 |.fst::p,.ptr,_,_,h=>by simp [K.at] at h
 |.fst::p,.fn,_,_,h=>by simp [K.at] at h
 |.fst::p,.sl _,_,_,h=>by simp [K.at] at h
 |.fst::p,.unit,_,_,h=>by simp [K.at] at h
 |.snd::p,.int _,_,_,h=>by simp [K.at] at h
 |.snd::p,.bool,_,_,h=>by simp [K.at] at h
 |.snd::p,.str,_,_,h=>by simp [K.at] at h
 |.snd::p,.ptr,_,_,h=>by simp [K.at] at h
 |.snd::p,.fn,_,_,h=>by simp [K.at] at h
 |.snd::p,.sl _,_,_,h=>by simp [K.at] at h
 |.snd::p,.unit,_,_,h=>by simp [K.at] at h
 |.idx i::p,.int _,_,_,h=>by simp [K.at] at h
 |.idx i::p,.bool,_,_,h=>by simp [K.at] at h
 |.idx i::p,.str,_,_,h=>by simp [K.at] at h
 |.idx i::p,.ptr,_,_,h=>by simp [K.at] at h
 |.idx i::p,.fn,_,_,h=>by simp [K.at] at h
 |.idx i::p,.unit,_,_,h=>by simp [K.at] at h
 |.idx i::p,.pair _ _,_,_,h=>by simp [K.at] at h
theorem UH:∀(p:Path){k k':K},dM p=false→k.at p=some k' →
  ∃o,∀(w:World)(vs:List Value)(base:Option (Nat×Nat)),vs.length=k.size →
   eU w k vs base p=some ((vs.drop o).take k'.size,base.map fun x=>(x.1,x.2+o))∧o+k'.size≤k.size:=by
 intro p
 induction p with
 |nil=>
  intro k k' _ h
  have:some k=some k':=by rw [←h];cases k<;>rfl
  cases this
  refine ⟨0,fun w vs base hl=>⟨?_,by omega⟩⟩
  have h1:eU w k vs base []=some (vs,base):=by cases k<;>rfl
  rw [h1]
  simp only [List.drop_zero,Nat.add_zero]
  rw [←hl,List.take_length]
  cases base<;>rfl
 |cons s p ih=>
  intro k k' hi h
  cases s with
  |fst=>
   cases k with
   |pair a b=>
    obtain ⟨o,ho⟩:=ih (k:=a) (by simpa [dM] using hi) h
    refine ⟨o,fun w vs base hl=>?_⟩
    simp only [K.size] at hl ⊢
    obtain ⟨h1,h2⟩:=ho w (vs.take a.size) base (by simp;omega)
    refine ⟨?_,by omega⟩
    simp only [eU]
    rw [h1,List.drop_take,List.take_take,Nat.min_eq_left (by omega)]
   |_=>simp [K.at] at h
  |snd=>
   cases k with
   |pair a b=>
    obtain ⟨o,ho⟩:=ih (k:=b) (by simpa [dM] using hi) h
    refine ⟨a.size+o,fun w vs base hl=>?_⟩
    simp only [K.size] at hl ⊢
    obtain ⟨h1,h2⟩:=ho w (vs.drop a.size) (base.map fun x=>(x.1,x.2+a.size)) (by simp;omega)
    refine ⟨?_,by omega⟩
    simp only [eU]
    rw [h1,List.drop_drop]
    cases base<;>simp [Nat.add_assoc]
   |_=>simp [K.at] at h
  |idx i=>simp [dM] at hi
theorem zU{w w':World}{θ:ay→Nat}{Z S:BS}:∀(p:Path){k:K}{m:Mask}{d:k.den}{vs:List Value}{F:BS}{base:Option (Nat×Nat)},
  Enc w θ Z S k m d vs F→(∀b,F b∨Z b∨S b→w'.heap[b]?=w.heap[b]?)→(∃R r,∃c:(k':K)→k'.den→Mask→Option R,iF k d m p c=some r) →
  eU w' k vs base p=eU w k vs base p:=by
 intro p
 induction p with
 |nil=>intro k m d vs F base _ _ _;cases k<;>rfl
 |cons s p ih=>
  intro k m d vs F base he hb ⟨R,r,c,hg⟩
  cases s with
  |fst=>
   cases k with
   |pair a b=>
    obtain ⟨v1,v2,F1,F2,rfl,s1,s2,dj,h1,h2⟩:=he
    have l1:=h1.len
    simp only [eU]
    rw [←l1,List.take_left]
    exact ih (k:=a) h1 (fun b' hb'=>hb b' (hb'.imp (s1 b') id)) ⟨R,r,c,hg⟩
   |_=>simp [iF] at hg
  |snd=>
   cases k with
   |pair a b=>
    obtain ⟨v1,v2,F1,F2,rfl,s1,s2,dj,h1,h2⟩:=he
    have l1:=h1.len
    simp only [eU]
    rw [←l1,List.drop_left]
    exact ih (k:=b) h2 (fun b' hb'=>hb b' (hb'.imp (s2 b') id)) ⟨R,r,c,hg⟩
   |_=>simp [iF] at hg
  |idx i=>
   cases k with
   |sl e=>
    simp only [iF] at hg
    split at hg
    case h_2=>simp at hg
    case h_1 x hx=>
    have hm:m≠.gone:=by rintro rfl;simp at hg
    have h':iF e x m.elem p c=some r:=by
     cases m<;>first|exact hg|exact absurd rfl hm
    rcases he with ⟨h,_⟩|⟨_,rfl,_⟩|⟨_,b,off,cap,cs,T,fz,rfl,hc,hle,hs,hok,G,hG,hd,hel⟩
    ·exact absurd h hm
    ·simp at hx
    ·have hb2:=hb b (XH hok)
     simp only [eU,lM,hb2,hc]
     exact ih (k:=e) (hel i x hx) (fun b' hb'=>hb b' (hb'.imp ((hG i).1 b') id)) ⟨R,r,c,h'⟩
   |_=>simp [iF] at hg
def cO:(k:K)→k.den→Mask→Path→Prop
 |_,_,_,[]=>True
 |.pair a _,d,m,.fst::p=>cO a d.1 m.fst p
 |.pair _ b,d,m,.snd::p=>cO b d.2 m.snd p
 |.sl e,xs,m,.idx i::p=>m≠.gone∧∃x,xs[i]?=some x∧cO e x m.elem p
 |_,_,_,_=>False
theorem jy:∀(p:Path){k:K}{d:k.den}{m:Mask},cO k d m p→∃k' d' m',∀{R:Type}(c:(k':K)→k'.den→Mask→Option R),iF k d m p c=c k' d' m':=by
 intro p
 induction p with
 |nil=>intro k d m _;exact ⟨k,d,m,fun c=>by cases k<;>rfl⟩
 |cons s p ih=>
  intro k d m h
  cases s with
  |fst=>
   cases k with
   |pair a b=>exact ih (k:=a) h
   |_=>exact h.elim
  |snd=>
   cases k with
   |pair a b=>exact ih (k:=b) h
   |_=>exact h.elim
  |idx i=>
   cases k with
   |sl e=>
    obtain ⟨hm,x,hx,h⟩:=h
    obtain ⟨k',d',m',hc⟩:=ih (k:=e) h
    refine ⟨k',d',m',fun c=>?_⟩
    rw [←hc c]
    simp only [iF,hx]
   |_=>exact h.elim
theorem sF:∀(p:Path){k k':K}{d:k.den}{m:Mask},dM p=false→k.at p=some k'→cO k d m p:=by
 intro p
 induction p with
 |nil=>intro k k' d m _ _;cases k<;>trivial
 |cons s p ih=>
  intro k k' d m hi h
  cases s with
  |fst=>
   cases k with
   |pair a b=>exact ih (k:=a) (by simpa [dM] using hi) h
   |_=>simp [K.at] at h
  |snd=>
   cases k with
   |pair a b=>exact ih (k:=b) (by simpa [dM] using hi) h
   |_=>simp [K.at] at h
  |idx i=>simp [dM] at hi
theorem Bj{R:Type}{r:R}:∀(p:Path){k:K}{d:k.den}{m:Mask}{c:(k':K)→k'.den→Mask→Option R},iF k d m p c=some r→cO k d m p:=by
 intro p
 induction p with
 |nil=>intro k d m c _;cases k<;>trivial
 |cons s p ih=>
  intro k d m c h
  cases s with
  |fst=>
   cases k with
   |pair a b=>exact ih (k:=a) h
   |_=>simp [iF] at h
  |snd=>
   cases k with
   |pair a b=>exact ih (k:=b) h
   |_=>simp [iF] at h
  |idx i=>
   cases k with
   |sl e=>
    simp only [iF] at h
    split at h
    case h_2=>simp at h
    case h_1 x hx=>
    have hm:m≠.gone:=by rintro rfl;simp at h
    have h':iF e x m.elem p c=some r:=by
     cases m<;>first|exact h|exact absurd rfl hm
    exact ⟨hm,x,hx,ih (k:=e) h'⟩
   |_=>simp [iF] at h
def bA(c:Array Value)(off:Nat)(vs:List Value):Array Value:=(c.toList.take off++vs++c.toList.drop (off+vs.length)).toArray
theorem iC{c:Array Value}{off:Nat}{vs:List Value}(h:off+vs.length≤c.size):(bA c off vs).size=c.size:=by
 unfold bA;simp;omega
theorem XL{c:Array Value}{off:Nat}{vs:List Value}(h:off+vs.length≤c.size):sub (bA c off vs) off vs.length=vs:=by
 unfold sub bA
 simp only [List.append_assoc]
 rw [List.drop_append_of_le_length (by simp;omega)]
 rw [List.drop_eq_nil_of_le (by simp;omega)]
 simp
theorem Tt{c:Array Value}{off x n:Nat}{vs:List Value}(h:off+vs.length≤c.size)(hx:off+vs.length≤x):sub (bA c off vs) x n=sub c x n:=by
 unfold sub bA
 congr 1
 rw [List.drop_append,List.drop_eq_nil_of_le (by simp;omega)]
 simp only [List.length_append,List.length_take,List.nil_append,List.drop_drop]
 congr 1
 simp;omega
theorem ME{c:Array Value}{off x n:Nat}{vs:List Value}(h:off+vs.length≤c.size)(hx:x+n≤off):sub (bA c off vs) x n=sub c x n:=by
 unfold sub bA
 simp only [List.append_assoc]
 rw [List.drop_append_of_le_length (by simp;omega),List.take_append_of_le_length (by simp;omega),List.drop_take,List.take_take,Nat.min_eq_left (by omega)]
theorem abM{c:Array Value}{x n m:Nat}:sub c x (n+m)=sub c x n++sub c (x+n) m:=by
 unfold sub;rw [List.take_add,List.drop_drop]
def atd(w w':World)(k:K)(d d':k.den)(m m':Mask)(vs vs':List Value)(base:Option (Nat×Nat))(k1:K)(p0:Path):Prop:=
 ∀(p:Path)(k':K)(cs:List Value)(b1:Option (Nat×Nat)),k.at p=some k'→cO k d m p→eU w k vs base p=some (cs,b1) →
  ((k1.flat=true∨(under p0 p&&dM p)=false)→cO k d' m' p∧∃cs',eU w' k vs' base p=some (cs',b1)) ∧
  ((∃e,k'=.sl e)→(k1.flat=true∨under p0 p=false)→cO k d' m' p∧eU w' k vs' base p=some (cs,b1))
structure Wrote(w w':World)(b off:Nat)(vs:List Value):Prop where
 size:w'.heap.size=w.heap.size
 other:∀b',b'≠b→w'.heap[b']?=w.heap[b']?
 here:∃c T fz,w.heap[b]?=some (.cells c T fz)∧off+vs.length≤c.size∧w'.heap[b]?=some (.cells (bA c off vs) T fz)
theorem FX{w w':World}{θ:ay→Nat}{Z S:BS}{R:Type}{r:R}{k1:K}{d1:k1.den}{m1:Mask}{vs1:List Value}{F1:BS}{b off:Nat}
  (hnew:Enc w' θ Z S k1 m1 d1 vs1 F1) (hw:Wrote w w' b off vs1) (hbZ:¬Z b) (hbS:¬S b) :
  ∀(p:Path){k:K}{m:Mask}{d:k.den}{vs:List Value}{F:BS}{base:Option (Nat×Nat)}{c:k.den→Mask→Option R}{old:List Value},
  FW k d m p k1 d1 m1 c=some r→Enc w θ Z S k m d vs F→Gc w vs base→(∀x,base=some x→¬F x.1)→DI F1 F →
  eU w k vs base p=some (old,some (b,off)) →
  ∃d' m' vs',c d' m'=some r∧(k.at p=some k1∧(k1.flat=true→m'=m))∧Enc w' θ Z S k m' d' vs' (fun x=>F x∨F1 x)∧Gc w' vs' base ∧
   (∀q∈aS k d',q∈aS k d∨q∈aS k1 d1) ∧
   ((F b∧vs'=vs)∨∃o0,base=some (b,o0)∧o0≤off∧off+vs1.length≤o0+vs.length) ∧
   atd w w' k d d' m m' vs vs' base k1 p:=by
 have hl1:=hnew.len
 intro p
 induction p with
 |nil=>
  intro k m d vs F base c old h he hl hbF hd hloc
  have hlv:=he.len
  have hbase:base=some (b,off)∧old=vs:=by
   have h2:some (vs,base)=some (old,some (b,off)):=by rw [←hloc];cases k<;>rfl
   simp only [Option.some.injEq,Prod.mk.injEq] at h2
   exact ⟨h2.2,h2.1.symm⟩
  have h':(if hk:k1=k then c (hk ▸ d1) (bif k.flat then m else m1) else none)=some r:=by cases k<;>exact h
  split at h'
  case isFalse=>simp at h'
  case isTrue hk=>
  subst hk
  obtain ⟨cc,T,fz,hc,hs,hc'⟩:=hw.here
  refine ⟨d1,_,vs1,h',⟨by cases k1<;>rfl,fun hf=>by rw [hf];rfl⟩,?_,?_,fun q hq=>.inr hq,.inr ⟨off,hbase.1,Nat.le_refl _,by omega⟩,?_⟩
  rotate_left 2
  ·intro p k' cs b1 hk hcg hlc
   refine ⟨fun hfl=>?_,fun ⟨e,hke⟩ hfl=>?_⟩
   ·have hi:dM p=false:=by
     rcases hfl with hfl|hfl
     ·exact (K.VB p hfl hk).2
     ·simpa [under] using hfl
    obtain ⟨o,ho⟩:=UH p hi hk
    rw [(ho w vs base (by omega)).1] at hlc
    simp only [Option.some.injEq,Prod.mk.injEq] at hlc
    exact ⟨sF p hi hk,_,by rw [(ho w' vs1 base (by omega)).1,hlc.2]⟩
   ·rcases hfl with hfl|hfl
    ·have:=(K.VB p hfl hk).1;rw [hke] at this;simp [K.flat] at this
    ·simp [under] at hfl
  ·cases hf:k1.flat with
   |true=>exact Enc.flat hf hnew
   |false=>exact hnew.mono (.refl _) (.refl _) (fun _ x=>.inr x) (fun _ _=>rfl) (fun _ _=>rfl)
  ·rw [hbase.1]
   exact ⟨_,T,fz,hc',by rw [iC hs];exact hs,XL hs⟩
 |cons s p ih=>
  intro k m d vs F base c old h he hl hbF hd hloc
  cases s with
  |fst=>
   cases k with
   |pair ka kb=>
    obtain ⟨v1,v2,Fa,Fb,rfl,s1,s2,dj,h1,h2⟩:=he
    have l1:=h1.len
    have l2:=h2.len
    have hl':Gc w v1 base:=by have:=hl.take ka.size (by simp;omega);rwa [←l1,List.take_left] at this
    simp only [eU] at hloc
    rw [←l1,List.take_left] at hloc
    obtain ⟨d',m',vs',g1,g2,g3,g4,g5,g6,g7⟩:=ih (k:=ka) h h1 hl' (fun x hx hF=>hbF x hx (s1 _ hF)) (hd.sub (.refl _) s1) hloc
    have l3:=g3.len
    have hnb:¬Fb b:=by
     rcases g6 with ⟨hFb,_⟩|⟨o0,hb,_⟩
     ·exact fun hx=>dj _ hFb hx
     ·exact fun hx=>hbF _ hb (s2 _ hx)
    have h2':Enc w' θ Z S kb m.snd d.2 v2 Fb:=h2.mono (.refl _) (.refl _) (.refl _)
     (fun b' hb'=>hw.other b' (by rintro rfl;exact hb'.elim hnb (fun h=>h.elim hbZ hbS))) (fun _ _=>rfl)
    have hm0:(m.PD k1.flat m').fst=m'∧(m.PD k1.flat m').snd=m.snd:=by
     unfold Mask.PD Mask.C9
     cases hf:k1.flat
     ·exact ⟨mkPair_fst _ _,mkPair_snd _ _⟩
     ·exact ⟨(g2.2 hf).symm,rfl⟩
    refine ⟨(d',d.2),m.PD k1.flat m',vs'++v2,g1,⟨g2.1,fun hf=>by rw [hf];rfl⟩,?_,?_,?_,?_,?_⟩
    rotate_left 4
    ·intro q k' cs b1 hk hcg hlc
     cases q with
     |nil=>
      have hlc':some (v1++v2,base)=some (cs,b1):=hlc
      simp only [Option.some.injEq,Prod.mk.injEq] at hlc'
      refine ⟨fun _=>⟨trivial,vs'++v2,by rw [←hlc'.2];rfl⟩,fun ⟨e,hke⟩=>?_⟩
      have:some (ka.pair kb)=some k':=hk
      rw [hke] at this;cases this
     |cons st q=>
      cases st with
      |fst=>
       simp only [eU] at hlc ⊢
       rw [←l1,List.take_left] at hlc
       rw [←l3,List.take_left]
       obtain ⟨x1,x2⟩:=g7 q k' cs b1 hk hcg hlc
       refine ⟨fun hfl=>?_,fun he hfl=>?_⟩
       ·obtain ⟨y1,y2⟩:=x1 (by simpa [under,dM] using hfl)
        exact ⟨by show cO ka d' (m.PD k1.flat m').fst q;rw [hm0.1];exact y1,y2⟩
       ·obtain ⟨y1,y2⟩:=x2 he (by simpa [under] using hfl)
        exact ⟨by show cO ka d' (m.PD k1.flat m').fst q;rw [hm0.1];exact y1,y2⟩
      |snd=>
       have hcg':cO kb d.2 m.snd q:=hcg
       have hcg2:cO kb d.2 (m.PD k1.flat m').snd q:=by rw [hm0.2];exact hcg'
       obtain ⟨_,_,_,hgp⟩:=jy q hcg'
       have hfr:=zU (w':=w') (base:=base.map fun x=>(x.1,x.2+ka.size)) q h2
        (fun b' hb'=>hw.other b' (by rintro rfl;exact hb'.elim hnb (fun h=>h.elim hbZ hbS))) ⟨Unit,(),fun _ _ _=>some (),by rw [hgp]⟩
       simp only [eU] at hlc ⊢
       rw [←l1,List.drop_left,l1] at hlc
       rw [←l3,List.drop_left,l3,hfr]
       exact ⟨fun _=>⟨hcg2,cs,hlc⟩,fun _ _=>⟨hcg2,hlc⟩⟩
      |idx i=>simp [K.at] at hk
    ·have hm:=hm0
     refine ⟨vs',v2,(fun x=>Fa x∨F1 x),Fb,rfl,fun x hx=>hx.imp (s1 _) id,fun x hx=>.inl (s2 _ hx),?_,by rw [hm.1];exact g3,by rw [hm.2];exact h2'⟩
     rintro x (hx|hx) hy
     ·exact dj _ hx hy
     ·exact hd _ hx (s2 _ hy)
    ·cases base with
     |none=>trivial
     |some bo=>
      obtain ⟨b0,o0⟩:=bo
      obtain ⟨c0,T0,f0,hc0,hs0,he0⟩:=hl
      obtain ⟨c1,T1,f1,hc1,hs1,he1⟩:=g4
      have he2:sub c0 (o0+v1.length) v2.length=v2:=by
       rw [List.length_append,abM] at he0
       have hlen:(sub c0 o0 v1.length).length=v1.length:=pG (by simp at hs0;omega)
       exact (List.append_inj he0 hlen).2
      have key:sub c1 (o0+v1.length) v2.length=v2∧c1.size=c0.size:=by
       by_cases hbb:b0=b
       ·obtain ⟨cc,T,fz,hc,hs,hc'⟩:=hw.here
        rw [hbb] at hc0 hc1
        rw [hc] at hc0;rw [hc'] at hc1
        simp only [Option.some.injEq,Obj.cells.injEq] at hc0 hc1
        obtain ⟨rfl,_,_⟩:=hc0
        obtain ⟨rfl,_,_⟩:=hc1
        refine ⟨?_,iC hs⟩
        rcases g6 with ⟨hFb,_⟩|⟨o1,ho,hr1,hr2⟩
        ·exact absurd (s1 _ (hbb ▸ hFb)) (hbF _ rfl)
        ·simp only [Option.some.injEq,Prod.mk.injEq] at ho
         rw [←ho.2] at hr2
         rw [Tt hs (by omega)];exact he2
       ·rw [hw.other b0 hbb,hc0] at hc1
        simp only [Option.some.injEq,Obj.cells.injEq] at hc1
        obtain ⟨rfl,_,_⟩:=hc1
        exact ⟨he2,rfl⟩
      refine ⟨c1,T1,f1,hc1,?_,?_⟩
      ·simp only [List.length_append] at hs0 ⊢;omega
      ·rw [List.length_append,abM,he1];rw [show o0+vs'.length=o0+v1.length by omega,key.1]
    ·intro q hq
     simp only [aS,List.mem_append] at hq
     rcases hq with hq|hq
     ·exact (g5 q hq).imp (fun x=>by simp [aS,x]) id
     ·exact .inl (by simp [aS,hq])
    ·rcases g6 with ⟨hFb,rfl⟩|⟨o1,ho,hr1,hr2⟩
     ·exact .inl ⟨s1 _ hFb,rfl⟩
     ·exact .inr ⟨o1,ho,hr1,by simp;omega⟩
   |_=>simp [FW] at h
  |snd=>
   cases k with
   |pair ka kb=>
    obtain ⟨v1,v2,Fa,Fb,rfl,s1,s2,dj,h1,h2⟩:=he
    have l1:=h1.len
    have l2:=h2.len
    have hl':Gc w v2 (base.map fun x=>(x.1,x.2+ka.size)):=by have:=hl.drop ka.size (by simp;omega);rw [←l1,List.drop_left] at this;rw [←l1];exact this
    simp only [eU] at hloc
    rw [←l1,List.drop_left,l1] at hloc
    obtain ⟨d',m',vs',g1,g2,g3,g4,g5,g6,g7⟩:=ih (k:=kb) h h2 hl' (by
      intro x hx hF
      cases base with
      |none=>simp at hx
      |some y=>simp only [Option.map_some,Option.some.injEq] at hx;subst hx;exact hbF y rfl (s2 _ hF)) (hd.sub (.refl _) s2) hloc
    have l3:=g3.len
    have hna:¬Fa b:=by
     rcases g6 with ⟨hFb,_⟩|⟨o0,hb,_⟩
     ·exact fun hx=>dj _ hx hFb
     ·cases base with
      |none=>simp at hb
      |some y=>simp only [Option.map_some,Option.some.injEq,Prod.mk.injEq] at hb;exact fun hx=>hbF y rfl (s1 _ (hb.1 ▸ hx))
    have h1':Enc w' θ Z S ka m.fst d.1 v1 Fa:=h1.mono (.refl _) (.refl _) (.refl _)
     (fun b' hb'=>hw.other b' (by rintro rfl;exact hb'.elim hna (fun h=>h.elim hbZ hbS))) (fun _ _=>rfl)
    have hm0:(m.PE k1.flat m').fst=m.fst∧(m.PE k1.flat m').snd=m':=by
     unfold Mask.PE Mask.Da
     cases hf:k1.flat
     ·exact ⟨mkPair_fst _ _,mkPair_snd _ _⟩
     ·exact ⟨rfl,(g2.2 hf).symm⟩
    refine ⟨(d.1,d'),m.PE k1.flat m',v1++vs',g1,⟨g2.1,fun hf=>by rw [hf];rfl⟩,?_,?_,?_,?_,?_⟩
    rotate_left 4
    ·intro q k' cs b1 hk hcg hlc
     cases q with
     |nil=>
      have hlc':some (v1++v2,base)=some (cs,b1):=hlc
      simp only [Option.some.injEq,Prod.mk.injEq] at hlc'
      refine ⟨fun _=>⟨trivial,v1++vs',by rw [←hlc'.2];rfl⟩,fun ⟨e,hke⟩=>?_⟩
      have:some (ka.pair kb)=some k':=hk
      rw [hke] at this;cases this
     |cons st q=>
      cases st with
      |snd=>
       simp only [eU] at hlc ⊢
       rw [←l1,List.drop_left,l1] at hlc
       rw [←l1,List.drop_left,l1]
       obtain ⟨x1,x2⟩:=g7 q k' cs b1 hk hcg hlc
       refine ⟨fun hfl=>?_,fun he hfl=>?_⟩
       ·obtain ⟨y1,y2⟩:=x1 (by simpa [under,dM] using hfl)
        exact ⟨by show cO kb d' (m.PE k1.flat m').snd q;rw [hm0.2];exact y1,y2⟩
       ·obtain ⟨y1,y2⟩:=x2 he (by simpa [under] using hfl)
        exact ⟨by show cO kb d' (m.PE k1.flat m').snd q;rw [hm0.2];exact y1,y2⟩
      |fst=>
       have hcg':cO ka d.1 m.fst q:=hcg
       have hcg2:cO ka d.1 (m.PE k1.flat m').fst q:=by rw [hm0.1];exact hcg'
       obtain ⟨_,_,_,hgp⟩:=jy q hcg'
       have hfr:=zU (w':=w') (base:=base) q h1
        (fun b' hb'=>hw.other b' (by rintro rfl;exact hb'.elim hna (fun h=>h.elim hbZ hbS))) ⟨Unit,(),fun _ _ _=>some (),by rw [hgp]⟩
       simp only [eU] at hlc ⊢
       rw [←l1,List.take_left] at hlc
       rw [←l1,List.take_left,hfr]
       exact ⟨fun _=>⟨hcg2,cs,hlc⟩,fun _ _=>⟨hcg2,hlc⟩⟩
      |idx i=>simp [K.at] at hk
    ·have hm:=hm0
     refine ⟨v1,vs',Fa,(fun x=>Fb x∨F1 x),rfl,fun x hx=>.inl (s1 _ hx),fun x hx=>hx.imp (s2 _) id,?_,by rw [hm.1];exact h1',by rw [hm.2];exact g3⟩
     rintro x hy (hx|hx)
     ·exact dj _ hy hx
     ·exact hd _ hx (s1 _ hy)
    ·cases base with
     |none=>trivial
     |some bo=>
      obtain ⟨b0,o0⟩:=bo
      obtain ⟨c0,T0,f0,hc0,hs0,he0⟩:=hl
      obtain ⟨c1,T1,f1,hc1,hs1,he1⟩:=g4
      have he2:sub c0 o0 v1.length=v1:=by
       rw [List.length_append,abM] at he0
       have hlen:(sub c0 o0 v1.length).length=v1.length:=pG (by simp at hs0;omega)
       exact (List.append_inj he0 hlen).1
      have key:sub c1 o0 v1.length=v1∧c1.size=c0.size:=by
       by_cases hbb:b0=b
       ·obtain ⟨cc,T,fz,hc,hs,hc'⟩:=hw.here
        rw [hbb] at hc0
        simp only [hbb] at hc1
        rw [hc] at hc0;rw [hc'] at hc1
        simp only [Option.some.injEq,Obj.cells.injEq] at hc0 hc1
        obtain ⟨rfl,_,_⟩:=hc0
        obtain ⟨rfl,_,_⟩:=hc1
        refine ⟨?_,iC hs⟩
        rcases g6 with ⟨hFb,_⟩|⟨o1,ho,hr1,hr2⟩
        ·exact absurd (s2 _ (hbb ▸ hFb)) (hbF _ rfl)
        ·simp only [Option.map_some,Option.some.injEq,Prod.mk.injEq] at ho
         rw [ME hs (by omega)];exact he2
       ·have hc1':w'.heap[b0]?=some (.cells c1 T1 f1):=hc1
        rw [hw.other b0 hbb,hc0] at hc1'
        simp only [Option.some.injEq,Obj.cells.injEq] at hc1'
        obtain ⟨rfl,_,_⟩:=hc1'
        exact ⟨he2,rfl⟩
      refine ⟨c1,T1,f1,hc1,?_,?_⟩
      ·simp only [List.length_append] at hs0 ⊢;omega
      ·rw [List.length_append,abM,key.1];rw [show o0+v1.length=o0+ka.size by omega,he1]
    ·intro q hq
     simp only [aS,List.mem_append] at hq
     rcases hq with hq|hq
     ·exact .inl (by simp [aS,hq])
     ·exact (g5 q hq).imp (fun x=>by simp [aS,x]) id
    ·rcases g6 with ⟨hFb,rfl⟩|⟨o1,ho,hr1,hr2⟩
     ·exact .inl ⟨s2 _ hFb,rfl⟩
     ·cases base with
      |none=>simp at ho
      |some y=>
       simp only [Option.map_some,Option.some.injEq,Prod.mk.injEq] at ho
       exact .inr ⟨y.2,by rw [←ho.1],by omega,by simp;omega⟩
   |_=>simp [FW] at h
  |idx i=>
   cases k with
   |sl e=>
    simp only [FW] at h
    split at h
    case h_2=>simp at h
    case h_1 x hx=>
    cases hown:m.dU with
    |false=>simp [hown] at h
    |true=>
    simp only [hown,cond_true] at h
    have hi:i<List.length d:=(List.getElem?_eq_some_iff.1 hx).1
    rcases he with ⟨rfl,_⟩|⟨_,rfl,_⟩|⟨hgone,b',off',cap,cs,T,fz,rfl,hc,hle,hs,hok,G,hG,hdj,hel⟩
    ·simp [Mask.dU] at hown
    ·simp at hx
    ·have hbF':F b'∧fz=(0,0):=by cases m<;>simp_all [Mask.dU,Og]
     have hsz:off'+i*e.size+e.size≤cs.size:=by
      have:(i+1)*e.size≤cap*e.size:=Nat.mul_le_mul_right _ (by omega)
      rw [Nat.add_mul,Nat.one_mul] at this;omega
     have hl':Gc w (sub cs (off'+i*e.size) e.size) (some (b',off'+i*e.size)):=
      ⟨cs,T,fz,hc,by rw [pG hsz];exact hsz,by rw [pG hsz]⟩
     simp only [eU,lM,hc] at hloc
     obtain ⟨x',m',vs',g1,g2,g3,g4,g5,g6,g7⟩:=ih (k:=e) h (hel i x hx) hl' (by rintro y hy;simp only [Option.some.injEq] at hy;subst hy;exact (hG i).2) (hd.sub (.refl _) (hG i).1) hloc
     split at g1
     case isFalse=>simp at g1
     case isTrue hmx=>
     have l3:=g3.len
     obtain ⟨c1,T1,f1,hc1,hs1,he1⟩:=g4
-- the block of the slice, as it is now
     have key:T1=T∧f1=fz∧c1.size=cs.size∧(∀j,j≠i→j<List.length d→sub c1 (off'+j*e.size) e.size=sub cs (off'+j*e.size) e.size):=by
      by_cases hbb:b'=b
      ·obtain ⟨cc,T2,fz2,hc2,hs2,hc2'⟩:=hw.here
       rw [hbb] at hc
       simp only [hbb] at hc1
       rw [hc2] at hc;rw [hc2'] at hc1
       simp only [Option.some.injEq,Obj.cells.injEq] at hc hc1
       obtain ⟨rfl,rfl,rfl⟩:=hc
       obtain ⟨rfl,rfl,rfl⟩:=hc1
       refine ⟨rfl,rfl,iC hs2,fun j hj hjl=>?_⟩
       rcases g6 with ⟨hFb,_⟩|⟨o1,ho,hr1,hr2⟩
       ·exact absurd (hbb ▸ hFb) (hG i).2
       ·simp only [Option.some.injEq,Prod.mk.injEq] at ho
        rw [pG hsz] at hr2
        rcases Nat.lt_or_gt_of_ne hj with hlt|hgt
        ·refine ME hs2 ?_
         have:(j+1)*e.size≤i*e.size:=Nat.mul_le_mul_right _ hlt
         rw [Nat.add_mul,Nat.one_mul] at this;omega
        ·refine Tt hs2 ?_
         have:(i+1)*e.size≤j*e.size:=Nat.mul_le_mul_right _ hgt
         rw [Nat.add_mul,Nat.one_mul] at this;omega
      ·have hc1':w'.heap[b']?=some (.cells c1 T1 f1):=hc1
       rw [hw.other b' hbb,hc] at hc1'
       simp only [Option.some.injEq,Obj.cells.injEq] at hc1'
       obtain ⟨rfl,rfl,rfl⟩:=hc1'
       exact ⟨rfl,rfl,rfl,fun _ _ _=>rfl⟩
     have hb2:F b∧(∀j,j≠i→¬G j b):=by
      rcases g6 with ⟨hFb,_⟩|⟨o1,ho,_⟩
      ·exact ⟨(hG i).1 _ hFb,fun j hj hx=>hdj j i hj _ hx hFb⟩
      ·simp only [Option.some.injEq,Prod.mk.injEq] at ho
       exact ⟨ho.1 ▸ hbF'.1,fun j _ hx=>(hG j).2 (ho.1 ▸ hx)⟩
     refine ⟨List.set d i x',m,[.slice (some ⟨b',off',none⟩) (List.length d) cap],g1,⟨g2.1,fun _=>rfl⟩,?_,?_,?_,.inl ⟨hb2.1,rfl⟩,?_⟩
     rotate_left 3
     ·intro q k' ccs b1 hk hcg hlc
      cases q with
      |nil=>exact ⟨fun _=>⟨trivial,_,hlc⟩,fun _ _=>⟨trivial,hlc⟩⟩
      |cons st q=>
       cases st with
       |idx j=>
        obtain ⟨hmg,y,hy,hcg'⟩:=hcg
        have hk':e.at q=some k':=hk
        have hc1':w'.heap[b']?=some (.cells c1 T1 f1):=hc1
        simp only [eU,lM,hc,hc1'] at hlc ⊢
        by_cases hj:j=i
        ·subst hj
         have hyx:y=x:=by rw [hx] at hy;exact (Option.some.inj hy).symm
         subst hyx
         have hcell:sub c1 (off'+j*e.size) e.size=vs':=by have h9:=he1;rw [l3] at h9;exact h9
         rw [hcell]
         obtain ⟨x1,x2⟩:=g7 q k' ccs b1 hk' hcg' hlc
         refine ⟨fun hfl=>?_,fun he hfl=>?_⟩
         ·obtain ⟨y1,y2⟩:=x1 (hfl.imp id (fun h=>by simp [under,dM] at h;simp [h]))
          exact ⟨⟨hmg,x',List.getElem?_set_self hi,by rw [←hmx];exact y1⟩,y2⟩
         ·obtain ⟨y1,y2⟩:=x2 he (by simpa [under] using hfl)
          exact ⟨⟨hmg,x',List.getElem?_set_self hi,by rw [←hmx];exact y1⟩,y2⟩
        ·have hcell:=key.2.2.2 j hj (List.getElem?_eq_some_iff.1 hy).1
         rw [hcell]
         obtain ⟨_,_,_,hgp⟩:=jy q hcg'
         have hfr:=zU (w':=w') (base:=some (b',off'+j*e.size)) q (hel j y hy)
          (fun b2 hb2'=>hw.other b2 (by rintro rfl;exact hb2'.elim (hb2.2 j hj) (fun h=>h.elim hbZ hbS))) ⟨Unit,(),fun _ _ _=>some (),by rw [hgp]⟩
         rw [hfr]
         have hcg2:cO (.sl e) (List.set d i x') m (.idx j::q):=⟨hmg,y,by rw [List.getElem?_set_ne (fun h=>hj h.symm)];exact hy,hcg'⟩
         exact ⟨fun _=>⟨hcg2,ccs,hlc⟩,fun _ _=>⟨hcg2,hlc⟩⟩
       |fst=>simp [K.at] at hk
       |snd=>simp [K.at] at hk
     ·refine .inr (.inr ⟨hgone,b',off',cap,c1,T1,f1,by simp,hc1,by simpa using hle,by rw [key.2.2.1];exact hs,?_,fun j=>if j=i then (fun y=>G i y∨F1 y) else G j,?_,?_,?_⟩)
      ·have:=agu (F':=fun x=>F x∨F1 x) (fun _ h=>.inl h) (.refl Z) (.refl S) hok
       rw [key.2.1];exact this
      ·intro j
       by_cases hj:j=i
       ·subst hj
        simp only [if_true]
        exact ⟨fun y hy=>hy.imp ((hG j).1 y) id,fun hy=>hy.elim (hG j).2 (fun hy=>hd _ hy hbF'.1)⟩
       ·simp only [if_neg hj]
        exact ⟨fun y hy=>.inl ((hG j).1 y hy),(hG j).2⟩
      ·intro j j' hjj
       by_cases hj:j=i
       ·have hj':j'≠i:=fun h=>hjj (hj.trans h.symm)
        simp only [if_pos hj,if_neg hj']
        rintro y (hy|hy) hy'
        ·exact hdj i j' (fun h=>hj' h.symm) y hy hy'
        ·exact hd _ hy ((hG j').1 _ hy')
       ·by_cases hj':j'=i
        ·simp only [if_neg hj,if_pos hj']
         rintro y hy' (hy|hy)
         ·exact hdj j i hj y hy' hy
         ·exact hd _ hy ((hG j).1 _ hy')
        ·simp only [if_neg hj,if_neg hj']
         exact hdj j j' hjj
      ·intro j y hy
       by_cases hj:j=i
       ·subst hj
        rw [List.getElem?_set_self hi] at hy
        simp only [Option.some.injEq] at hy
        subst hy
        simp only [if_true]
        rw [←hmx]
        have:sub c1 (off'+j*e.size) e.size=vs':=by have h9:=he1;rw [l3] at h9;exact h9
        rw [this];exact g3
       ·rw [List.getElem?_set_ne (fun h=>hj h.symm)] at hy
        simp only [if_neg hj]
        rw [key.2.2.2 j hj (List.getElem?_eq_some_iff.1 hy).1]
        exact (hel j y hy).mono (.refl _) (.refl _) (.refl _) (fun b2 hb2'=>hw.other b2 (by rintro rfl;exact hb2'.elim (hb2.2 j hj) (fun h=>h.elim hbZ hbS))) (fun _ _=>rfl)
     ·cases base with
      |none=>trivial
      |some bo=>
       obtain ⟨b0,o0⟩:=bo
       obtain ⟨c0,T0,f0,hc0,hs0,he0⟩:=hl
       have hne:b0≠b:=by rintro rfl;exact hbF _ rfl hb2.1
       exact ⟨c0,T0,f0,by rw [hw.other b0 hne];exact hc0,hs0,he0⟩
     ·intro q hq
      simp only [aS] at hq
      cases hp:e.plain with
      |true=>simp [hp] at hq
      |false=>
       simp only [hp,cond_false,List.mem_flatMap] at hq
       obtain ⟨y,hy,hq⟩:=hq
       rcases List.mem_or_eq_of_mem_set hy with hy|rfl
       ·exact .inl (vg hy hq)
       ·exact (g5 q hq).imp (vg (List.mem_of_getElem? hx)) id
   |_=>simp [FW] at h
 where
 mkPair_fst (a b:Mask):(Mask.zV a b).fst=a:=by
  cases a<;>cases b<;>first|rfl|(simp only [Mask.zV];split<;>simp_all [Mask.fst])
 mkPair_snd (a b:Mask):(Mask.zV a b).snd=b:=by
  cases a<;>cases b<;>first|rfl|(simp only [Mask.zV];split<;>simp_all [Mask.snd])
end Go.Abs
namespace Go.Abs
structure Ctx where
 θ:ay→Nat
 ρ:ay→List Value
 F:ay→BS
 Z:BS
 S:BS
def bK(C:Ctx)(r:ay)(x:Root):Option (Nat×Nat):=if x.mem=true then some (C.θ r,0) else none
def uz(w:World)(C:Ctx)(r:ay)(x:Root):Prop:=
 ∃G,Enc w C.θ C.Z C.S x.k x.m x.d (C.ρ r) G∧Sub G (C.F r) ∧
  (x.mem=true→¬G (C.θ r)∧C.F r (C.θ r)∧∃T,w.heap[C.θ r]?=some (.cells (C.ρ r).toArray T (0,0)))
structure Mem(w:World)(C:Ctx)(rs:RF):Prop where
 ok:∀r x,rs r=some x→uz w C r x
 disj:∀r r' x x',rs r=some x→rs r'=some x'→r≠r'→DI (C.F r) (C.F r')
 apart:∀r x b,rs r=some x→C.F r b→¬C.Z b∧¬C.S b∧b<w.heap.size
 ro:∀b,C.Z b∨C.S b→b<w.heap.size
 ptr:∀r x,rs r=some x→∀q∈aS x.k x.d,∀y,rs q=some y→y.mem=true
theorem uz.lies{w:World}{C:Ctx}{r:ay}{x:Root}(h:uz w C r x):Gc w (C.ρ r) (bK C r x):=by
 obtain ⟨G,he,hs,hm⟩:=h
 unfold bK
 split
 ·rename_i hx
  obtain ⟨_,_,T,hh⟩:=hm hx
  exact ⟨_,T,_,hh,by simp,by unfold sub;simp⟩
 ·trivial
def atc(sz:Nat)(v0:Value)(lo n:Nat)(v:Value):Prop:=
 ∃a N c a',v0=.slice a N c∧lo+n≤N∧N≤c∧v=.slice a' n (c-lo)∧(0<c-lo→a'=a.map (·.add (lo*sz)))
def AVC(w:World)(C:Ctx)(rs:RF):AV→List Value→Prop
 |.dead,_=>True
 |.imm z k d,vs=>k.plain=true∧Enc w C.θ C.Z C.S k (.imm z) d vs noB
 |.nil,vs=>vs=[.slice none 0 0]
 |.emp,vs=>∃a,vs=[.slice a 0 0]
 |.nilp,vs=>vs=[.pointer none]
 |.ptr r p,vs=>∃b off,vs=[.pointer (some ⟨b,off,none⟩)]∧(p=[]→b=C.θ r∧off=0) ∧
   ∀x,rs r=some x→∃k' cs,x.k.at p=some k'∧cO x.k x.d x.m p∧eU w x.k (C.ρ r) (bK C r x) p=some (cs,some (b,off))
 |.iptr z k d p,vs=>∃vs0 b off cs k',k.plain=true∧Enc w C.θ C.Z C.S k (.imm z) d vs0 noB∧k.at p=some k'∧cO k d (.imm z) p ∧
   dM p=true∧eU w k vs0 none p=some (cs,some (b,off))∧vs=[.pointer (some ⟨b,off,none⟩)]
 |.nn z e d,vs=>e.plain=true∧Enc w C.θ C.Z C.S (.sl e) (.imm z) d vs noB∧∃a n c,vs=[.slice (some a) n c]
 |.vw r p L,vs=>(∃b off,vs=[.pointer (some ⟨b,off,none⟩)]∧(p=[]→b=C.θ r∧off=0) ∧
   ∀x,rs r=some x→∃k' cs,x.k.at p=some k'∧cO x.k x.d x.m p∧eU w x.k (C.ρ r) (bK C r x) p=some (cs,some (b,off))) ∧
   ∀e∈L,∃u,(∃v,[u]=[v]∧∀x,rs r=some x→∃k base,x.k.at (p++e.1)=some (.sl k)∧cO x.k x.d x.m (p++e.1)∧eU w x.k (C.ρ r) (bK C r x) (p++e.1)=some ([v],base)) ∧
    ∃v,[u]=[v]∧∀x,rs (par e.2.1)=some x→∃k base,x.k.at e.2.2=some (.sl k)∧cO x.k x.d x.m e.2.2∧eU w x.k (C.ρ (par e.2.1)) (bK C (par e.2.1) x) e.2.2=some ([v],base)
 |.ref r p,vs=>∃v,vs=[v]∧∀x,rs r=some x→∃e base,x.k.at p=some (.sl e)∧cO x.k x.d x.m p∧eU w x.k (C.ρ r) (bK C r x) p=some ([v],base)
 |.slc r p lo n,vs=>∃v v0,vs=[v]∧∀x,rs r=some x→∃e base,x.k.at p=some (.sl e)∧cO x.k x.d x.m p ∧
   eU w x.k (C.ρ r) (bK C r x) p=some ([v0],base)∧atc e.size v0 lo n v
 |.pair a b,vs=>∃v1 v2,vs=v1++v2∧AVC w C rs a v1∧AVC w C rs b v2
 |.fn f caps,vs=>vs=[.func (.func f) #[] (DJ C.θ caps)]∧∀q∈caps,∀y,rs q=some y→y.mem=true
 |.tnil,_=>False
 |.tcons _ _,_=>False
def AV.agg:AV→Bool
 |.pair _ _=>true
 |.imm _ k _=>k.isAgg
 |_=>false
def GH(w:World)(C:Ctx)(rs:RF)(v:Value)(a:AV):Prop:=
 a=.dead∨(a.agg=true∧∃vs,v=.agg vs.toArray∧AVC w C rs a vs)∨(a.agg=false∧AVC w C rs a [v]∧v.cells = #[v])
def XT(w:World)(C:Ctx)(rs:RF):AV→List Value→Prop
 |.tnil,vs=>vs=[]
 |.tcons a b,vs=>∃v l,vs=v::l∧GH w C rs v a∧XT w C rs b l
 |_,_=>False
def bH(w:World)(C:Ctx)(rs:RF)(v:Value)(a:AV):Prop:=
 GH w C rs v a∨∃vs,v=.tuple vs.toArray∧XT w C rs a vs
structure Keeps(M0:BS)(w0 w:World):Prop where
 os:w.os=w0.os
 tape:w.tape=w0.tape
 output:w.output=w0.output
 size:w0.heap.size≤w.heap.size
 block:∀b,b<w0.heap.size→¬M0 b→w.heap[b]?=w0.heap[b]?
theorem Keeps.refl(M0:BS)(w:World):Keeps M0 w w:=⟨rfl,rfl,rfl,Nat.le_refl _,fun _ _ _=>rfl⟩
theorem Keeps.trans{M0 M1:BS}{a b c:World}(h:Keeps M0 a b)(k:Keeps M1 b c)(hs:∀x,x<a.heap.size→M1 x→M0 x):Keeps M0 a c:=
 ⟨k.os.trans h.os,k.tape.trans h.tape,k.output.trans h.output,Nat.le_trans h.size k.size,
  fun x hx hm=>(k.block x (Nat.lt_of_lt_of_le hx h.size) (fun h1=>hm (hs x hx h1))).trans (h.block x hx hm)⟩
structure Ext(C0 C:Ctx):Prop where
 Z:Sub C0.Z C.Z
 S:C.S=C0.S
 θ:∀i,C.θ (0,i)=C0.θ (0,i)
structure Rel(w0:World)(M0:BS)(n:Nat)(C0 C:Ctx)(s:St)(a:Act)(w:World):Prop where
 ext:Ext C0 C
 mem:Mem w C s.roots
 tm:∀t,bH w C s.roots (a.tmps.getD t undef) (s.tmps t)
 kept:Keeps M0 w0 w
 foot:∀r x b,s.roots r=some x→C.F r b→w0.heap.size≤b∨M0 b
 pins:∀r x,s.roots r=some x→∀q∈aS x.k x.d,1≤q.1→s.pins q.1=true
 defers:a.defers=[]
 room:a.tmps.size=n
 parρ:∀i x,s.roots (0,i)=some x→x.mem=false→C.ρ (0,i)=C0.ρ (0,i)
 zn:∀b,C.Z b→C0.Z b∨w0.heap.size≤b∨M0 b
def AV.dS:AV→Bool
 |.pair _ _=>false
 |.tcons _ _=>false
 |_=>true
theorem ap7(x:Kill)(r:ay)(p:Path):x.hits (.ptr r p)=x.amU r p:=by cases x<;>rfl
theorem ap8(x:Kill)(r:ay)(p:Path):x.hits (.ref r p)=x.amV r p:=by cases x<;>rfl
theorem amW(x:Kill)(r:ay)(p:Path)(L:List (Path×Nat×Path)):x.hits (.vw r p L)=(x.hits (.ptr r p)||L.any fun e=>x.hits (.ref r (p++e.1))||x.hits (.ref (par e.2.1) e.2.2)):=by
 simp only [ap7,ap8]
 cases x<;>rfl
theorem auM{xs:List Kill}{r:ay}{p:Path}{L:List (Path×Nat×Path)}(h:hit xs (.vw r p L)=false) :
  hit xs (.ptr r p)=false∧∀e∈L,hit xs (.ref r (p++e.1))=false∧hit xs (.ref (par e.2.1) e.2.2)=false:=by
 unfold hit at h ⊢
 simp only [List.any_eq_false,amW,Bool.or_eq_true,not_or,List.any_eq_true,not_exists,not_and] at h ⊢
 exact ⟨fun x hx=>(h x hx).1,fun e he=>⟨fun x hx=>((h x hx).2 e he).1,fun x hx=>((h x hx).2 e he).2⟩⟩
def AV.Wi:AV→Bool
 |.vw ..=>true
 |_=>false
theorem AVC.avP{w:World}{C:Ctx}{rs:RF}{r:ay}{p:Path}{L:List (Path×Nat×Path)}{vs:List Value} :
  AVC w C rs (.vw r p L) vs↔AVC w C rs (.ptr r p) vs∧∀e∈L,∃v,AVC w C rs (.ref r (p++e.1)) [v]∧AVC w C rs (.ref (par e.2.1) e.2.2) [v]:=Iff.rfl
theorem AVC.aip{w w':World}{C C':Ctx}{rs rs':RF}{r:ay}{p:Path}{L:List (Path×Nat×Path)}{vs:List Value}(hp:AVC w C rs (.ptr r p) vs→AVC w' C' rs' (.ptr r p) vs)
  (hr:∀e∈L,∀v,(AVC w C rs (.ref r (p++e.1)) [v]→AVC w' C' rs' (.ref r (p++e.1)) [v])∧(AVC w C rs (.ref (par e.2.1) e.2.2) [v]→AVC w' C' rs' (.ref (par e.2.1) e.2.2) [v]))
  (h:AVC w C rs (.vw r p L) vs):AVC w' C' rs' (.vw r p L) vs:=by
 rw [AVC.avP] at h ⊢
 exact ⟨hp h.1,fun e he=>by obtain ⟨v,h1,h2⟩:=h.2 e he;exact ⟨v,(hr e he v).1 h1,(hr e he v).2 h2⟩⟩
theorem Wp{w w':World}{C C':Ctx}{rs rs':RF}{xs:List Kill}
  (h:∀a vs,a.Wi=false→a.dS=true→hit xs a=false→AVC w C rs a vs→AVC w' C' rs' a vs) (a:AV) (vs:List Value) (hl:a.dS=true) (hx:hit xs a=false) (hv:AVC w C rs a vs):AVC w' C' rs' a vs:=by
 cases a with
 |vw r p L=>
  have hh:=auM hx
  exact AVC.aip (fun h1=>h _ _ rfl rfl hh.1 h1) (fun e he v=>⟨fun h1=>h _ _ rfl rfl (hh.2 e he).1 h1,fun h1=>h _ _ rfl rfl (hh.2 e he).2 h1⟩) hv
 |_=>exact h _ _ rfl hl hx hv
theorem j6(xs:List Kill)(a b:AV):AV.kills xs (.pair a b)=.pair (AV.kills xs a) (AV.kills xs b):=by
 induction xs generalizing a b with
 |nil=>rfl
 |cons x l ih=>simp only [AV.kills,AV.kill];exact ih _ _
theorem kL(xs:List Kill)(a b:AV):AV.kills xs (.tcons a b)=.tcons (AV.kills xs a) (AV.kills xs b):=by
 induction xs generalizing a b with
 |nil=>rfl
 |cons x l ih=>simp only [AV.kills,AV.kill];exact ih _ _
theorem rA(xs:List Kill):AV.kills xs .dead=.dead:=by
 induction xs with
 |nil=>rfl
 |cons x l ih=>simp only [AV.kills,AV.kill];rw [show x.hits .dead=false by cases x<;>rfl];exact ih
theorem fK(xs:List Kill)(a:AV)(h:a.dS=true):AV.kills xs a=bif hit xs a then .dead else a:=by
 induction xs with
 |nil=>simp [AV.kills,hit]
 |cons x l ih=>
  have hk:a.kill x=bif x.hits a then .dead else a:=by cases a<;>first|rfl|simp [AV.dS] at h
  simp only [AV.kills,hk,hit,List.any_cons]
  cases hx:x.hits a with
  |true=>simp only [cond_true,Bool.true_or];exact rA l
  |false=>simp only [cond_false,Bool.false_or];exact ih
theorem AVC.step{w w':World}{C C':Ctx}{rs rs':RF}{xs:List Kill}
  (h:∀a vs,a.dS=true→hit xs a=false→AVC w C rs a vs→AVC w' C' rs' a vs):∀(a:AV)(vs:List Value),AVC w C rs a vs→AVC w' C' rs' (AV.kills xs a) vs:=by
 intro a
 induction a with
 |pair a b iha ihb=>
  intro vs hv
  obtain ⟨v1,v2,rfl,h1,h2⟩:=hv
  rw [j6]
  exact ⟨v1,v2,rfl,iha _ h1,ihb _ h2⟩
 |tcons a b=>intro vs hv;exact hv.elim
 |_=>
  intro vs hv
  rw [fK _ _ rfl]
  cases hx:hit xs _ with
  |true=>trivial
  |false=>exact h _ _ rfl hx hv
theorem GH.step{w w':World}{C C':Ctx}{rs rs':RF}{xs:List Kill}
  (h:∀a vs,a.dS=true→hit xs a=false→AVC w C rs a vs→AVC w' C' rs' a vs) {v:Value} {a:AV} (hv:GH w C rs v a):GH w' C' rs' v (AV.kills xs a):=by
 rcases hv with rfl|⟨ha,vs,rfl,hv⟩|⟨ha,hv,hc⟩
 ·left;exact rA xs
 ·right;left
  refine ⟨?_,vs,rfl,AVC.step h _ _ hv⟩
  cases a with
  |pair a b=>rw [j6];rfl
  |imm z k d=>
   rw [fK _ _ rfl]
   have:hit xs (.imm z k d)=false:=by simp only [hit,List.any_eq_false];intro x _;cases x<;>simp [Kill.hits]
   rw [this];exact ha
  |_=>simp [AV.agg] at ha
 ·have hl:a.dS=true:=by cases a<;>first|rfl|exact hv.elim|(simp [AV.agg] at ha;done)
  rw [fK _ _ hl]
  cases hx:hit xs a with
  |true=>left;rfl
  |false=>right;right;exact ⟨ha,h _ _ hl hx hv,hc⟩
theorem XT.step{w w':World}{C C':Ctx}{rs rs':RF}{xs:List Kill}
  (h:∀a vs,a.dS=true→hit xs a=false→AVC w C rs a vs→AVC w' C' rs' a vs):∀(a:AV)(vs:List Value),XT w C rs a vs→XT w' C' rs' (AV.kills xs a) vs:=by
 intro a
 induction a with
 |tcons a b _ ihb=>
  intro vs hv
  obtain ⟨v,l,rfl,h1,h2⟩:=hv
  rw [kL]
  exact ⟨v,l,rfl,h1.step h,ihb _ h2⟩
 |tnil=>
  intro vs hv
  rw [fK _ _ rfl]
  have:hit xs .tnil=false:=by simp only [hit,List.any_eq_false];intro x _;cases x<;>simp [Kill.hits]
  rw [this];exact hv
 |_=>intro vs hv;exact hv.elim
theorem bH.step{w w':World}{C C':Ctx}{rs rs':RF}{xs:List Kill}
  (h:∀a vs,a.dS=true→hit xs a=false→AVC w C rs a vs→AVC w' C' rs' a vs) {v:Value} {a:AV} (hv:bH w C rs v a):bH w' C' rs' v (AV.kills xs a):=
 hv.imp (fun x=>x.step h) fun ⟨vs,e,x⟩=>⟨vs,e,x.step h⟩
theorem acn{a:Act}{d t:Nat}{v:Value}(hd:d<a.tmps.size):(a.put (some d) v).tmps.getD t undef=if t=d then v else a.tmps.getD t undef:=by
 simp only [Act.put,Array.getD_eq_getD_getElem?,Array.getElem?_setIfInBounds]
 by_cases h:t=d
 ·subst h;simp [hd]
 ·rw [if_neg (fun h'=>h h'.symm),if_neg h]
theorem QY(a:AV):AV.kills [] a=a:=rfl
theorem Rel.put{w0:World}{M0:BS}{n:Nat}{C0 C C':Ctx}{s:St}{a:Act}{w w':World}{x:Del}{dst:Option Nat}{v:Value}
  (R:Rel w0 M0 n C0 C s a w) (hd:∀d,dst=some d→d<n) (hren:x.ren=none) (he:Ext C0 C')
  (hm:Mem w' C' (s.after dst x).roots)
  (hl:∀b vs,b.dS=true→hit (dK (dst.getD 0) x) b=false→AVC w C s.roots b vs→AVC w' C' (s.after dst x).roots b vs)
  (hv:∀d,dst=some d→bH w' C' (s.after dst x).roots v x.v)
  (hk:Keeps M0 w0 w')
  (hf:∀r y b,(s.after dst x).roots r=some y→C'.F r b→w0.heap.size≤b∨M0 b)
  (hp:∀r y,(s.after dst x).roots r=some y→∀q∈aS y.k y.d,1≤q.1→(s.after dst x).pins q.1=true)
  (hρ:∀i y,(s.after dst x).roots (0,i)=some y→y.mem=false→C'.ρ (0,i)=C0.ρ (0,i))
  (hz:∀b,C'.Z b→C0.Z b∨w0.heap.size≤b∨M0 b) :
  Rel w0 M0 n C0 C' (s.after dst x) (a.put dst v) w' where
 ext:=he
 mem:=hm
 tm:=by
  intro t
  cases dst with
  |none=>
   show bH w' C' _ ((a.put none v).tmps.getD t undef) (bif false then x.v else mV x.ren (AV.kills (dK _ x) (s.tmps t)))
   simp only [cond_false,hren,mV]
   exact (R.tm t).step hl
  |some d=>
   show bH w' C' _ ((a.put (some d) v).tmps.getD t undef) (bif Nat.beq t d then x.v else mV x.ren (AV.kills (dK _ x) (s.tmps t)))
   rw [acn (by rw [R.room];exact hd d rfl)]
   by_cases h:t=d
   ·rw [if_pos h,show Nat.beq t d=true from by rw [h];exact Nat.beq_refl d];exact hv d rfl
   ·rw [if_neg h,show Nat.beq t d=false from by rw [Bool.eq_false_iff];intro h';exact h (Nat.eq_of_beq_eq_true h')]
    simp only [cond_false,hren,mV]
    exact (R.tm t).step hl
 kept:=hk
 foot:=hf
 pins:=hp
 defers:=by cases dst<;>exact R.defers
 room:=by cases dst<;>simp [Act.put,R.room]
 parρ:=hρ
 zn:=hz
theorem iD(s:St)(dst:Option Nat)(v:AV)(rd:List ay):(s.after dst (dz v rd)).roots=s.roots:=by
 funext r;simp [St.after,dz,dn]
theorem XU(s:St)(dst:Option Nat)(v:AV)(rd:List ay):(s.after dst (dz v rd)).pins=s.pins:=by
 funext r;simp [St.after,dz]
theorem Rel.plain{w0:World}{M0:BS}{n:Nat}{C0 C:Ctx}{s:St}{a:Act}{w:World}{av:AV}{rd:List ay}{dst:Option Nat}{v:Value}
  (R:Rel w0 M0 n C0 C s a w) (hd:∀d,dst=some d→d<n) (hv:bH w C s.roots v av):Rel w0 M0 n C0 C (s.after dst (dz av rd)) (a.put dst v) w:=by
 refine R.put hd rfl R.ext ?_ ?_ ?_ R.kept ?_ ?_ ?_ R.zn
 ·rw [iD];exact R.mem
 ·intro b vs _ _ h;rw [iD];exact h
 ·intro d _;rw [iD];exact hv
 ·rw [iD];exact R.foot
 ·rw [iD,XU];exact R.pins
 ·rw [iD];exact R.parρ
theorem at_nil(k:K):k.at []=some k:=by cases k<;>rfl
theorem dP(k:K)(d:k.den)(m:Mask):cO k d m []:=by cases k<;>trivial
theorem cZ(w:World)(k:K)(vs:List Value)(base:Option (Nat×Nat)):eU w k vs base []=some (vs,base):=by cases k<;>rfl
theorem OB{R:Type}:∀(p q:Path){k:K}{d:k.den}{m:Mask}(c:(k':K)→k'.den→Mask→Option R),
  iF k d m (p++q) c=iF k d m p fun k1 d1 m1=>iF k1 d1 m1 q c:=by
 intro p
 induction p with
 |nil=>intro q k d m c;cases k<;>rfl
 |cons s p ih=>
  intro q k d m c
  cases s with
  |fst=>
   cases k with
   |pair a b=>exact ih q (k:=a) c
   |_=>rfl
  |snd=>
   cases k with
   |pair a b=>exact ih q (k:=b) c
   |_=>rfl
  |idx i=>
   cases k with
   |sl e=>
    simp only [List.cons_append,iF]
    split
    ·cases m<;>first|rfl|exact ih q (k:=e) c
    ·rfl
   |_=>rfl
theorem lY{w:World}:∀(p q:Path){k k1:K}{vs vs1:List Value}{base b1:Option (Nat×Nat)},k.at p=some k1 →
  eU w k vs base p=some (vs1,b1)→eU w k vs base (p++q)=eU w k1 vs1 b1 q:=by
 intro p
 induction p with
 |nil=>
  intro q k k1 vs vs1 base b1 hk h
  have h1:some k=some k1:=by rw [←hk];cases k<;>rfl
  have h2:some (vs,base)=some (vs1,b1):=by rw [←h];cases k<;>rfl
  cases h1;cases h2;rfl
 |cons s p ih=>
  intro q k k1 vs vs1 base b1 hk h
  cases s with
  |fst=>
   cases k with
   |pair a b=>exact ih q (k:=a) hk h
   |_=>simp [K.at] at hk
  |snd=>
   cases k with
   |pair a b=>exact ih q (k:=b) hk h
   |_=>simp [K.at] at hk
  |idx i=>
   cases k with
   |sl e=>
    simp only [List.cons_append,eU] at h ⊢
    split at h
    ·exact ih q (k:=e) hk h
    ·simp at h
   |_=>simp [K.at] at hk
structure Place(w:World)(C:Ctx)(r:ay)(x:Root)(p:Path)(k:K)(d:k.den)(m:Mask)(vs:List Value)(b1:Option (Nat×Nat)):Prop where
 at_:x.k.at p=some k
 get:∀(R:Type)(c:(k':K)→k'.den→Mask→Option R),iF x.k x.d x.m p c=c k d m
 lc:eU w x.k (C.ρ r) (bK C r x) p=some (vs,b1)
 enc:∃F,Enc w C.θ C.Z C.S k m d vs F
 lies:Gc w vs b1
 ptrs:∀q∈aS k d,q∈aS x.k x.d
theorem Place.can{w:World}{C:Ctx}{r:ay}{x:Root}{p:Path}{k:K}{d:k.den}{m:Mask}{vs:List Value}{b1:Option (Nat×Nat)}
  (h:Place w C r x p k d m vs b1):cO x.k x.d x.m p:=
 Bj (r:=()) (c:=fun _ _ _=>some ()) p (h.get _ _)
theorem Py{w:World}{C:Ctx}{r:ay}{x:Root}(h:uz w C r x){p:Path}(hg:cO x.k x.d x.m p) :
  ∃k d m vs b1,Place w C r x p k d m vs b1:=by
 obtain ⟨k,d,m,hc⟩:=jy p hg
 have hl:=h.lies
 obtain ⟨G,he,_⟩:=h
 have h1:=hc (R:=(Σ k:K,k.den)×Mask) (fun k d m=>some (⟨k,d⟩,m))
 obtain ⟨k',d',m',vs,b1,F',g1,g2,g3,g4,g5,g6,g7,g8⟩:=TT p h1 he hl
 simp only [Option.some.injEq,Prod.mk.injEq,Sigma.mk.injEq] at g1
 obtain ⟨⟨rfl,h2⟩,rfl⟩:=g1
 cases h2
 exact ⟨_,_,_,vs,b1,g2,fun R c=>hc c,g3,⟨F',g4⟩,g6,g7⟩
theorem iw{w:World}{C:Ctx}{r:ay}{x:Root}(h:uz w C r x){p:Path}{R:Type}{r':R}{c:(k':K)→k'.den→Mask→Option R}
  (hg:iF x.k x.d x.m p c=some r'):∃k d m vs b1,Place w C r x p k d m vs b1∧c k d m=some r':=by
 obtain ⟨k,d,m,vs,b1,hp⟩:=Py h (Bj p hg)
 exact ⟨k,d,m,vs,b1,hp,by have h2:=hp.get _ c;rw [hg] at h2;exact h2.symm⟩
theorem Place.fst{w:World}{C:Ctx}{r:ay}{x:Root}{p:Path}{a b:K}{d:(K.pair a b).den}{m:Mask}{vs:List Value}{b1:Option (Nat×Nat)}
  (h:Place w C r x p (.pair a b) d m vs b1):Place w C r x (p++[.fst]) a d.1 m.fst (vs.take a.size) b1 where
 at_:=by rw [K.lG,h.at_];show a.at []=_;cases a<;>rfl
 get:=fun R c=>by rw [OB,h.get];show iF a d.1 m.fst [] c=_;cases a<;>rfl
 lc:=by rw [lY _ _ h.at_ h.lc];show eU w a _ _ []=_;cases a<;>rfl
 enc:=by
  obtain ⟨F,v1,v2,F1,F2,rfl,s1,s2,dj,h1,h2⟩:=h.enc
  exact ⟨F1,by rw [←h1.len,List.take_left];exact h1⟩
 lies:=h.lies.take _ (by obtain ⟨F,v1,v2,F1,F2,rfl,s1,s2,dj,h1,h2⟩:=h.enc;simp [h1.len])
 ptrs:=fun q hq=>h.ptrs q (by simp [aS,hq])
theorem Place.snd{w:World}{C:Ctx}{r:ay}{x:Root}{p:Path}{a b:K}{d:(K.pair a b).den}{m:Mask}{vs:List Value}{b1:Option (Nat×Nat)}
  (h:Place w C r x p (.pair a b) d m vs b1):Place w C r x (p++[.snd]) b d.2 m.snd (vs.drop a.size) (b1.map fun x=>(x.1,x.2+a.size)) where
 at_:=by rw [K.lG,h.at_];show b.at []=_;cases b<;>rfl
 get:=fun R c=>by rw [OB,h.get];show iF b d.2 m.snd [] c=_;cases b<;>rfl
 lc:=by rw [lY _ _ h.at_ h.lc];show eU w b _ _ []=_;cases b<;>rfl
 enc:=by
  obtain ⟨F,v1,v2,F1,F2,rfl,s1,s2,dj,h1,h2⟩:=h.enc
  exact ⟨F2,by rw [←h1.len,List.drop_left];exact h2⟩
 lies:=h.lies.drop _ (by obtain ⟨F,v1,v2,F1,F2,rfl,s1,s2,dj,h1,h2⟩:=h.enc;simp [h1.len])
 ptrs:=fun q hq=>h.ptrs q (by simp [aS,hq])
theorem Enc.ro{w:World}{θ:ay→Nat}{Z S:BS}{z:Bool}(z':Bool):∀{k:K}{d:k.den}{vs:List Value}{F G:BS},Enc w θ Z S k (.imm z) d vs F→Enc w θ Z S k (.imm (z&&z')) d vs G:=by
 intro k
 induction k with
 |pair a b iha ihb=>
  intro d vs F G h
  obtain ⟨v1,v2,F1,F2,rfl,s1,s2,dj,h1,h2⟩:=h
  exact ⟨v1,v2,noB,noB,rfl,fun _ x=>x.elim,fun _ x=>x.elim,fun _ x=>x.elim,iha h1,ihb h2⟩
 |sl e ih=>
  intro d vs F G h
  rcases h with ⟨hg,_⟩|⟨_,h⟩|⟨hm,b,off,cap,c,T,fz,rfl,hc,hle,hs,hok,G',hG,hd,he⟩
  ·cases hg
  ·exact .inr (.inl ⟨by simp,h⟩)
  ·refine .inr (.inr ⟨by simp,b,off,cap,c,T,fz,rfl,hc,hle,hs,?_,fun _=>noB,fun _=>⟨fun _ x=>x.elim,fun x=>x⟩,fun _ _ _ _ x=>x.elim,fun i x hx=>ih (he i x hx)⟩)
   exact hok.imp id (fun ⟨h1,h2⟩=>⟨by simp [h1],h2⟩)
 |_=>intro d vs F G h;exact h
theorem AVC.flatten{w:World}{C:Ctx}{rs:RF}{a b:AV}{v1 v2:List Value}(h1:AVC w C rs a v1)(h2:AVC w C rs b v2):AVC w C rs (AV.flatten a b) (v1++v2):=by
 unfold AV.flatten
 split
 ·rename_i z k d z' k' d'
  refine ⟨by simp [K.plain,h1.1,h2.1],v1,v2,noB,noB,rfl,fun _ x=>x.elim,fun _ x=>x.elim,fun _ x=>x.elim,?_⟩
  cases hf':k'.flat with
  |true=>exact ⟨h1.2,h2.2.flat hf'⟩
  |false=>
   cases hf:k.flat with
   |true=>exact ⟨h1.2.flat hf,h2.2⟩
   |false=>
    refine ⟨h1.2.ro z',?_⟩
    have:=h2.2.ro (G:=noB) z
    rw [Bool.and_comm] at this;exact this
 ·exact ⟨v1,v2,rfl,h1,h2⟩
theorem GL(a b:AV):(AV.flatten a b).agg=true:=by unfold AV.flatten;split<;>rfl
theorem abY{w:World}{C:Ctx}{rs:RF}(hM:Mem w C rs){r:ay}{x:Root}(hr:rs r=some x):∀{k:K}{p:Path}{d:k.den}{m:Mask}{vs:List Value}{b1:Option (Nat×Nat)},
  Place w C r x p k d m vs b1→AVC w C rs (TK r k p d m) vs∧(TK r k p d m=.dead∨(TK r k p d m).agg=k.isAgg):=by
 intro k
 induction k with
 |ptr=>
  intro p d m vs b1 h
  obtain ⟨F,he⟩:=h.enc
  simp only [Enc] at he
  subst he
  cases d with
  |none=>exact ⟨rfl,.inr rfl⟩
  |some q=>
   refine ⟨⟨C.θ q,0,rfl,fun _=>⟨rfl,rfl⟩,fun y hy=>?_⟩,.inr rfl⟩
   have hm:=hM.ptr r x hr q (h.ptrs q (by simp [aS])) y hy
   refine ⟨y.k,C.ρ q,at_nil _,dP _ _ _,?_⟩
   have:bK C q y=some (C.θ q,0):=by unfold bK;rw [if_pos hm]
   rw [this];exact cZ _ _ _ _
 |fn=>
  intro p d m vs b1 h
  obtain ⟨F,he⟩:=h.enc
  simp only [Enc] at he
  subst he
  cases d with
  |none=>exact ⟨trivial,.inl rfl⟩
  |some q=>exact ⟨⟨rfl,fun q' hq y hy=>hM.ptr r x hr q' (h.ptrs q' (by simpa [aS] using hq)) y hy⟩,.inr rfl⟩
 |sl e ih=>
  intro p d m vs b1 h
  obtain ⟨F,he⟩:=h.enc
  have hl:=he.len
  obtain ⟨v,rfl⟩:∃v,vs=[v]:=by
   match vs,hl with
   |[v],_=>exact ⟨v,rfl⟩
  have href:AVC w C rs (.ref r p) [v]:=⟨v,rfl,fun y hy=>by
   rw [hr] at hy;cases hy
   exact ⟨e,b1,h.at_,h.can,h.lc⟩⟩
  simp only [TK]
  cases m with
  |own=>exact ⟨href,.inr rfl⟩
  |sl m'=>exact ⟨href,.inr rfl⟩
  |imm z=>
   cases hp:e.plain with
   |true=>
    refine ⟨⟨by simp [K.plain,hp],?_⟩,.inr rfl⟩
    have:=he.ro (G:=noB) z
    simpa using this
   |false=>exact ⟨trivial,.inl rfl⟩
  |gone=>exact ⟨trivial,.inl rfl⟩
  |pair a b=>exact ⟨trivial,.inl rfl⟩
 |pair a b iha ihb=>
  intro p d m vs b1 h
  have h1:=iha h.fst
  have h2:=ihb h.snd
  have:=AVC.flatten h1.1 h2.1
  rw [List.take_append_drop] at this
  exact ⟨this,.inr (GL _ _)⟩
 |int ik=>
  intro p d m vs b1 h
  obtain ⟨F,he⟩:=h.enc
  exact ⟨⟨rfl,he⟩,.inr rfl⟩
 |_=>
  intro p d m vs b1 h
  obtain ⟨F,he⟩:=h.enc
  exact ⟨⟨rfl,he⟩,.inr rfl⟩
end Go.Abs
namespace Go.Abs
def aiu(P:Program)(t:TypeId):Option Bool:=match P.underlying t with
 |some (.struct _)=>some true
 |some (.array _ _)=>some true
 |some _=>some false
 |none=>none
def uJ(P:Program):List Field→K→Nat→Prop
 |[],.unit,_=>True
 |f::fs,.pair a b,off=>f.offset=off∧a.size≠0∧(∃i,P.info? f.type=some i∧i.size=a.size∧aiu P f.type=some a.isAgg)∧uJ P fs b (off+a.size)
 |_,_,_=>False
def DOK(P:Program)(V:Env)(ti:TI)(d:TypeDesc):Prop:=match ti.k with
 |.int ik=>d=.int ik
 |.bool=>d=.bool
 |.str=>d=.string
 |.ptr=>∃e,d=.pointer e
 |.fn=>∃p r v,d=.func p r v
 |.sl e=>d=.slice ti.elem∧∃te,V.ti ti.elem=some te∧te.k=e∧te.k.size≠0
 |k=>∃fs,d=.struct fs∧uJ P fs.toList k 0
def EqF(P:Program):List Field→K→Nat→Prop
 |[],.unit,_=>True
 |f::fs,.pair (.int k) b,off=>f.name ≠"_" ∧ f.offset=off∧P.underlying f.type=some (.int k)∧EqF P fs b (off+1)
 |_,_,_=>False
structure atM(P:Program)(T:TypeId)(k:K):Prop where
 fields:∃fs,P.underlying T=some (.struct fs)∧EqF P fs.toList k 0
 held:P.stoodInHeld T=false
 guard:P.eqGuardType P.depth T=false
structure abQ(P:Program)(V:Env)(T:TypeId)(ti:TI):Prop where
 info:∃i z,P.info? T=some i∧i.size=ti.k.size∧i.bytes=ti.bytes∧i.zero=some z∧z.cells.toList=ti.k.zeroCells
 desc:∃d,P.underlying T=some d∧DOK P V ti d
 eqs:ti.k.ints=true→atM P T ti.k
structure gq(P:Program)(V:Env):Prop where
 ty:∀T ti,V.ti T=some ti→abQ P V T ti
 mixed:P.follows .mixedOrders=true
theorem Env.wz{V:Env}{T:Nat}{k:K}(h:V.k T=some k):∃ti,V.ti T=some ti∧ti.k=k:=by
 unfold Env.k at h
 cases hti:V.ti T with
 |none=>simp [hti] at h
 |some ti=>exact ⟨ti,rfl,by simpa [hti] using h⟩
section
variable {P : Program} {V : Env} {w : World}
theorem bO{T:TypeId}{d:TypeDesc}(h:P.underlying T=some d):(underlying T).run P w=.ok d w:=by simp [underlying,h]
theorem pY{T:TypeId}{i:TypeInfo}(h:P.info? T=some i):(sizeOf T).run P w=.ok i.size w:=by simp [sizeOf,typeInfo,h]
theorem Kk{T:TypeId}{i:TypeInfo}{z:Value}(h:P.info? T=some i)(hz:i.zero=some z):(zeroValue T).run P w=.ok z w:=by simp [zeroValue,typeInfo,h,hz]
theorem abQ.isAgg{T:TypeId}{ti:TI}(h:abQ P V T ti):(isAgg T).run P w=.ok ti.k.isAgg w:=by
 obtain ⟨d,hd,hk⟩:=h.desc
 unfold Go.isAgg
 simp only [Sem.run_bind,bO hd,Result.andThen_ok]
 unfold DOK at hk
 cases hti:ti.k<;>simp only [hti] at hk
 case pair a b=>obtain ⟨fs,rfl,_⟩:=hk;rfl
 case unit=>obtain ⟨fs,rfl,_⟩:=hk;rfl
 case sl e=>rw [hk.1];rfl
 case ptr=>obtain ⟨e,rfl⟩:=hk;rfl
 case fn=>obtain ⟨p,r,v,rfl⟩:=hk;rfl
 all_goals subst hk;rfl
theorem abQ.size{T:TypeId}{ti:TI}(h:abQ P V T ti):(sizeOf T).run P w=.ok ti.k.size w:=by
 obtain ⟨i,z,hi,hs,_⟩:=h.info
 rw [pY hi,hs]
end
section
variable {w : World} {C : Ctx} {rs : RF} {v : Value}
theorem bH.cell{a:AV}(h:bH w C rs v a)(hd:a≠.dead)(hg:a.agg=false)(ht:a≠.tnil)(hc:∀x y,a≠.tcons x y):AVC w C rs a [v]∧v.cells = #[v]:=by
 rcases h with (rfl|⟨hg',_⟩|⟨_,h⟩)|⟨vs,_,ht'⟩
 ·exact absurd rfl hd
 ·rw [hg] at hg';cases hg'
 ·exact h
 ·cases a<;>first|exact ht'.elim|exact absurd rfl ht|exact absurd rfl (hc _ _)
theorem bH.mk{a:AV}(h:AVC w C rs a [v])(hg:a.agg=false)(hc:v.cells = #[v]):bH w C rs v a:=.inl (.inr (.inr ⟨hg,h,hc⟩))
theorem bH.dead:bH w C rs v .dead:=.inl (.inl rfl)
theorem bH.int{z:Bool}{k:IntKind}{n:Int}(h:bH w C rs v (.imm z (.int k) n)):v=.int k n:=by
 obtain ⟨h,_⟩:=h.cell (by simp) rfl (by simp) (by simp)
 have:=h.2
 simp only [Enc,List.cons.injEq,and_true] at this
 exact this
theorem bH.bool{z b:Bool}(h:bH w C rs v (.imm z .bool b)):v=.bool b:=by
 obtain ⟨h,_⟩:=h.cell (by simp) rfl (by simp) (by simp)
 have:=h.2
 simp only [Enc,List.cons.injEq,and_true] at this
 exact this
theorem bH.str{z:Bool}{b:ByteArray}(h:bH w C rs v (.imm z .str b)):v=.string b:=by
 obtain ⟨h,_⟩:=h.cell (by simp) rfl (by simp) (by simp)
 have:=h.2
 simp only [Enc,List.cons.injEq,and_true] at this
 exact this
theorem bH.fn{f:Nat}{caps:List ay}(h:bH w C rs v (.fn f caps)):v=.func (.func f) #[] (DJ C.θ caps):=by
 obtain ⟨h,_⟩:=h.cell (by simp) rfl (by simp) (by simp)
 simp only [AVC,List.cons.injEq,and_true] at h
 exact h.1
theorem bH.nil(h:bH w C rs v .nil):v=.slice none 0 0:=by
 obtain ⟨h,_⟩:=h.cell (by simp) rfl (by simp) (by simp)
 simp only [AVC,List.cons.injEq,and_true] at h
 exact h
theorem bH.emp(h:bH w C rs v .emp):∃a,v=.slice a 0 0:=by
 obtain ⟨h,_⟩:=h.cell (by simp) rfl (by simp) (by simp)
 simp only [AVC,List.cons.injEq,and_true] at h
 exact h
theorem bH.mkInt{z:Bool}(k:IntKind)(n:Int):bH w C rs (.int k n) (.imm z (.int k) n):=bH.mk ⟨rfl,rfl⟩ rfl rfl
theorem bH.mQ{z:Bool}(b:Bool):bH w C rs (.bool b) (.imm z .bool b):=bH.mk ⟨rfl,rfl⟩ rfl rfl
theorem bH.mkStr{z:Bool}(b:ByteArray):bH w C rs (.string b) (.imm z .str b):=bH.mk ⟨rfl,rfl⟩ rfl rfl
end
section
variable {P : Program} {V : Env} {w0 : World} {M0 : BS} {n : Nat} {C0 C : Ctx} {s : St} {a : Act} {w : World}
theorem Rel.eval(R:Rel w0 M0 n C0 C s a w)(x:Operand):bH w C s.roots (a.eval x) (bf s.tmps x):=by
 cases x with
 |tmp t=>exact R.tm t
 |const v=>
  show bH w C s.roots v (DK v)
  unfold DK
  split
  ·exact bH.mkInt _ _
  ·exact bH.mQ _
  ·exact bH.mkStr _
  ·exact bH.mk rfl rfl rfl
  ·exact bH.mk rfl rfl rfl
  ·exact bH.dead
 |global g=>exact bH.dead
 |func f=>exact bH.mk ⟨rfl,fun q hq=>by cases hq⟩ rfl rfl
def Does(P:Program)(w0:World)(M0:BS)(n:Nat)(C0:Ctx)(s:St)(a:Act)(w:World)(o:Oper)(x:Del):Prop:=
 (∀d,o.dst=some d→d<n)→allowed s o.dst x=true→∀(next:Act→World→Prop)(Q:Exit→Act→World→Prop),
  (∀a' w' C',Rel w0 M0 n C0 C' (s.after o.dst x) a' w'→next a' w')→o.wp P a w next Q
theorem Does.plain{o:Oper}{av:AV}{rd:List ay}{v:Value}(R:Rel w0 M0 n C0 C s a w)(hr:(execOp a.eval o).run P w=.ok (.value v) w)(hv:bH w C s.roots v av) :
  Does P w0 M0 n C0 s a w o (dz av rd):=by
 intro hd _ next Q hn
 unfold Oper.wp
 rw [hr]
 exact hn _ _ _ (R.plain hd hv)
def Calm(P:Program)(C:Ctx)(s:St)(a:Act)(w:World)(o:Oper)(x:Del):Prop:=
 ∃v av rd,x=dz av rd∧(∀w':World,(execOp a.eval o).run P w'=.ok (.value v) w')∧bH w C s.roots v av
theorem Calm.plain{o:Oper}{av:AV}{rd:List ay}{v:Value}(hr:∀w':World,(execOp a.eval o).run P w'=.ok (.value v) w')(hv:bH w C s.roots v av):Calm P C s a w o (dz av rd):=⟨v,av,rd,rfl,hr,hv⟩
theorem Calm.does{o:Oper}{x:Del}(R:Rel w0 M0 n C0 C s a w)(h:Calm P C s a w o x):Does P w0 M0 n C0 s a w o x:=by
 obtain ⟨v,av,rd,rfl,hr,hv⟩:=h
 exact Does.plain R (hr w) hv
variable {R' : Type} {r : R'} {c : Del → Option R'} {o : Oper}
theorem zH(R:Rel w0 M0 n C0 C s a w)(h:∃x,c x=some r∧Calm P C s a w o x):∃x,c x=some r∧Does P w0 M0 n C0 s a w o x:=by
 obtain ⟨x,h1,h2⟩:=h
 exact ⟨x,h1,h2.does R⟩
theorem afN(R:Rel w0 M0 n C0 C s a w){x:Operand}(ho:o.op=.move x)(h:bC V o s.tmps s.roots c=some r) :
  ∃x,c x=some r∧Calm P C s a w o x:=by
 simp only [bC,ho] at h
 exact ⟨_,h,Calm.plain (v:=a.eval x) (fun w=>by simp [execOp,ho]) (R.eval x)⟩
theorem anZ(R:Rel w0 M0 n C0 C s a w){x:Operand}(ho:o.op=.move x)(h:bC V o s.tmps s.roots c=some r) :
  ∃x,c x=some r∧Does P w0 M0 n C0 s a w o x:=zH R (afN R ho h)
theorem afO(R:Rel w0 M0 n C0 C s a w){x y z:Operand}(ho:o.op=.pick x y z)(h:bC V o s.tmps s.roots c=some r) :
  ∃x,c x=some r∧Calm P C s a w o x:=by
 simp only [bC,ho] at h
 split at h
 case h_2=>simp at h
 case h_1 b t he=>
 have hx:=R.eval x
 rw [he] at hx
 have hx:=hx.bool
 cases t with
 |true=>exact ⟨_,h,Calm.plain (v:=a.eval y) (fun w=>by simp [execOp,ho,hx,asBool]) (R.eval y)⟩
 |false=>exact ⟨_,h,Calm.plain (v:=a.eval z) (fun w=>by simp [execOp,ho,hx,asBool]) (R.eval z)⟩
theorem an0(R:Rel w0 M0 n C0 C s a w){x y z:Operand}(ho:o.op=.pick x y z)(h:bC V o s.tmps s.roots c=some r) :
  ∃x,c x=some r∧Does P w0 M0 n C0 s a w o x:=zH R (afO R ho h)
theorem aa8{op:BinOp}{t:TypeId}{x y:Operand}{k k':IntKind}{m n:Int}:(eqGuard op t x y (.int k m) (.int k' n)).run P w=.ok () w:=by
 unfold eqGuard;cases op<;>rfl
theorem Kj{op:BinOp}{t:TypeId}{x y:Operand}{m n:Bool}:(eqGuard op t x y (.bool m) (.bool n)).run P w=.ok () w:=by
 unfold eqGuard;cases op<;>rfl
theorem CP{op:BinOp}{t:TypeId}{x y:Operand}{m n:ByteArray}:(eqGuard op t x y (.string m) (.string n)).run P w=.ok () w:=by
 unfold eqGuard;cases op<;>rfl
theorem jS{op:BinOp}{t:TypeId}{x y:Operand}{a a':Option Addr}{m m' c c':Nat}:(eqGuard op t x y (.slice a m c) (.slice a' m' c')).run P w=.ok () w:=by
 unfold eqGuard;cases op<;>rfl
theorem Jd{t e:TypeId}(h:P.underlying t=some (.slice e)){a:Option Addr}{l c:Nat}:(binOp .eql t (.slice a l c) (.slice none 0 0)).run P w=.ok (.bool a.isNone) w:=by
 simp only [binOp]
 simp [run_equal_slice_nil w t e a l c h]
theorem Je{t e:TypeId}(h:P.underlying t=some (.slice e)){a:Option Addr}{l c:Nat}:(binOp .neq t (.slice a l c) (.slice none 0 0)).run P w=.ok (.bool (!a.isNone)) w:=by
 simp only [binOp]
 simp [run_equal_slice_nil w t e a l c h]
theorem amX(x y:Int):(x == y)=decide (x=y):=by rw [Bool.eq_iff_iff];simp
theorem aiz{op:BinOp}{k:IntKind}{x y:Int}{c:AV→Option R'}(h:arith op k x y c=some r){t:TypeId}{k':IntKind}(hk:QX op=true∨k=k') :
  ∃v av,c av=some r∧(∀w,(binOp op t (.int k x) (.int k' y)).run P w=.ok v w)∧(∀C rs,bH w C rs v av):=by
 have hkk:QX op=false→k=k':=fun h=>hk.resolve_left (by simp [h])
 cases op<;>simp only [arith] at h
 case add=>obtain rfl:=hkk rfl;exact ⟨_,_,h,fun w=>by simp [Go.binOp,Op.intArith];rfl,fun _ _=>bH.mkInt _ _⟩
 case sub=>obtain rfl:=hkk rfl;exact ⟨_,_,h,fun w=>by simp [Go.binOp,Op.intArith];rfl,fun _ _=>bH.mkInt _ _⟩
 case mul=>obtain rfl:=hkk rfl;exact ⟨_,_,h,fun w=>by simp [Go.binOp,Op.intArith];rfl,fun _ _=>bH.mkInt _ _⟩
 case quo=>
  obtain rfl:=hkk rfl
  split at h
  ·simp at h
  ·rename_i hy
   exact ⟨_,_,h,fun w=>by simp [Go.binOp,Op.intDiv,hy];rfl,fun _ _=>bH.mkInt _ _⟩
 case rem=>
  obtain rfl:=hkk rfl
  split at h
  ·simp at h
  ·rename_i hy
   exact ⟨_,_,h,fun w=>by simp [Go.binOp,Op.intDiv,hy],fun _ _=>bH.mkInt _ _⟩
 case and=>obtain rfl:=hkk rfl;exact ⟨_,_,h,fun w=>by simp only [Go.binOp,Op.intBits,ne_eq,not_true_eq_false,if_false];rfl,fun _ _=>bH.mkInt _ _⟩
 case or=>obtain rfl:=hkk rfl;exact ⟨_,_,h,fun w=>by simp only [Go.binOp,Op.intBits,ne_eq,not_true_eq_false,if_false];rfl,fun _ _=>bH.mkInt _ _⟩
 case xor=>obtain rfl:=hkk rfl;exact ⟨_,_,h,fun w=>by simp only [Go.binOp,Op.intBits,ne_eq,not_true_eq_false,if_false];rfl,fun _ _=>bH.mkInt _ _⟩
 case andNot=>obtain rfl:=hkk rfl;exact ⟨_,_,h,fun w=>by simp only [Go.binOp,Op.intBits,ne_eq,not_true_eq_false,if_false];rfl,fun _ _=>bH.mkInt _ _⟩
 case shl=>
  split at h
  ·rename_i hy
   exact ⟨_,_,h,fun w=>by simp [Go.binOp,Op.shift,show ¬y<0 by omega];rfl,fun _ _=>bH.mkInt _ _⟩
  ·simp at h
 case shr=>
  split at h
  ·rename_i hy
   exact ⟨_,_,h,fun w=>by simp [Go.binOp,Op.shift,show ¬y<0 by omega];rfl,fun _ _=>bH.mkInt _ _⟩
  ·simp at h
 case eql=>obtain rfl:=hkk rfl;exact ⟨.bool (decide (x=y)),_,h,fun w=>by simp [Go.binOp,Op.intCmp,amX],fun _ _=>bH.mQ _⟩
 case neq=>obtain rfl:=hkk rfl;exact ⟨.bool (!decide (x=y)),_,h,fun w=>by simp [Go.binOp,Op.intCmp,bne,amX],fun _ _=>bH.mQ _⟩
 case lss=>obtain rfl:=hkk rfl;exact ⟨_,_,h,fun w=>by simp [Go.binOp,Op.intCmp],fun _ _=>bH.mQ _⟩
 case leq=>obtain rfl:=hkk rfl;exact ⟨_,_,h,fun w=>by simp [Go.binOp,Op.intCmp],fun _ _=>bH.mQ _⟩
 case gtr=>obtain rfl:=hkk rfl;exact ⟨.bool (decide (x>y)),_,h,fun w=>by simp [Go.binOp,Op.intCmp],fun _ _=>bH.mQ _⟩
 case geq=>obtain rfl:=hkk rfl;exact ⟨.bool (decide (x ≥ y)),_,h,fun w=>by simp [Go.binOp,Op.intCmp],fun _ _=>bH.mQ _⟩
theorem ahK{d:Nat}:∀(fs:List Field){k:K}{off:Nat}{x y:k.den}{m m':Mask}{F F':BS}{xs ys:Array Value},EqF P fs k off →
  Enc w C.θ C.Z C.S k m x (xs.toList.drop off) F→Enc w C.θ C.Z C.S k m' y (ys.toList.drop off) F'→(Op.eqFields (d+1) xs ys fs).run P w=.ok (k.beq x y) w:=by
 intro fs
 induction fs with
 |nil=>
  intro k off x y m m' F F' xs ys h _ _
  cases k<;>first|(exact h.elim)|skip
  rfl
 |cons f fs ih=>
  intro k off x y m m' F F' xs ys h hx hy
  cases k<;>first|(exact h.elim)|skip
  rename_i ka kb
  cases ka<;>first|(exact h.elim)|skip
  rename_i ik
  obtain ⟨hn,ho,ht,hb⟩:=h
  obtain ⟨v1,v2,F1,F2,e,_,_,_,hx1,hx2⟩:=hx
  obtain ⟨u1,u2,G1,G2,e',_,_,_,hy1,hy2⟩:=hy
  obtain rfl:v1=[.int ik x.1]:=hx1
  obtain rfl:u1=[.int ik y.1]:=hy1
  have hxa:xs[off]?=some (.int ik x.1):=by rw [←Array.getElem?_toList,←List.head?_drop,e];rfl
  have hya:ys[off]?=some (.int ik y.1):=by rw [←Array.getElem?_toList,←List.head?_drop,e'];rfl
  have hxr:xs.toList.drop (off+1)=v2:=by rw [←List.drop_drop,e];rfl
  have hyr:ys.toList.drop (off+1)=u2:=by rw [←List.drop_drop,e'];rfl
  have hag:(Go.isAgg f.type).run P w=.ok false w:=by unfold Go.isAgg;simp only [Sem.run_bind,bO ht,Result.andThen_ok];rfl
  have hpx:(Go.part f.type xs off).run P w=.ok (.int ik x.1) w:=by
   unfold Go.part;simp [hag,hxa]
  have hpy:(Go.part f.type ys off).run P w=.ok (.int ik y.1) w:=by
   unfold Go.part;simp [hag,hya]
  have hih:=ih (xs:=xs) (ys:=ys) hb (by rw [hxr];exact hx2) (by rw [hyr];exact hy2)
  simp only [Op.eqFields,ne_eq,hn,not_false_eq_true,if_true,ho,Sem.run_bind,hpx,hpy,Result.andThen_ok,run_equalIn_int _ _ _ _ _ _ _ ht]
  show (if (!(x.1 == y.1))=true then (pure false:Sem Bool) else Op.eqFields (d+1) xs ys fs).run P w=.ok (decide ((show Int from x.1)=y.1)&&kb.beq x.2 y.2) w
  by_cases h:(show Int from x.1)=y.1
  ·rw [if_neg (by simpa using h),hih,decide_eq_true h,Bool.true_and]
  ·rw [if_pos (by simpa using h),decide_eq_false h,Bool.false_and];rfl
theorem bH.agg{v:Value}{rs:RF}{z:Bool}{k1 k2:K}{d:(K.pair k1 k2).den}(h:bH w C rs v (.imm z (.pair k1 k2) d)):∃(xs:Array Value) (F:BS),v=.agg xs∧Enc w C.θ C.Z C.S (.pair k1 k2) (.imm z) d xs.toList F:=by
 rcases h with (h|⟨_,vs,rfl,h⟩|⟨h,_⟩)|⟨_,_,h⟩
 ·cases h
 ·exact ⟨_,noB,rfl,h.2⟩
 ·cases h
 ·exact h.elim
theorem K.af4:∀{k:K},k.ints=true→k.flat=true:=by
 intro k
 induction k with
 |pair a b _ ihb=>
  intro h
  cases a with
  |int ik=>cases b<;>first|rfl|exact ihb h|(simp [K.ints] at h;done)
  |_=>simp [K.ints] at h
 |_=>intro h;first|rfl|simp [K.ints] at h
theorem afn{t:TypeId}{k1 k2:K}(h:atM P t (.pair k1 k2)){x y:(K.pair k1 k2).den}{m m':Mask}{F F':BS}{xs ys:Array Value}
  (hx:Enc w C.θ C.Z C.S (.pair k1 k2) m x xs.toList F) (hy:Enc w C.θ C.Z C.S (.pair k1 k2) m' y ys.toList F'):(Op.equalIn 10000 t (.agg xs) (.agg ys)).run P w=.ok ((K.pair k1 k2).beq x y) w:=by
 obtain ⟨fs,hu,hf⟩:=h.fields
 have hof:P.fieldsOf t=fs:=by simp [Program.fieldsOf,hu]
 rw [run_equalIn_struct w 9999 t xs ys (by rw [hof,hu]) h.held,hof]
 exact ahK fs.toList hf hx hy
theorem ab0(hT:gq P V)(R:Rel w0 M0 n C0 C s a w){op:BinOp}{t ty:TypeId}{x y:Operand}(ho:o.op=.binOp op t x y ty)(h:bC V o s.tmps s.roots c=some r) :
  ∃x,c x=some r∧Calm P C s a w o x:=by
 simp only [bC,ho] at h
 have hx:=R.eval x
 have hy:=R.eval y
 unfold Vw at h
 split at h
 ·rename_i z k m z' k' m' e1 e2
  rw [e1] at hx;rw [e2] at hy
  have hx:=hx.int;have hy:=hy.int
  have h':arith op k m m' (fun v=>c (dz v []))=some r∧(QX op=true∨k=k'):=by
   cases hs:QX op with
   |true=>simp only [hs,cond_true] at h;exact ⟨h,.inl rfl⟩
   |false=>
    simp only [hs,cond_false] at h
    split at h
    ·rename_i hk;exact ⟨h,.inr hk⟩
    ·simp at h
  obtain ⟨v,av,g1,g2,g3⟩:=aiz (P:=P) (w:=w) h'.1 (t:=t) h'.2
  exact ⟨_,g1,Calm.plain (v:=v) (fun w=>by simp [execOp,ho,hx,hy,aa8,g2]) (g3 _ _)⟩
 ·rename_i z m z' m' e1 e2
  rw [e1] at hx;rw [e2] at hy
  have hx:=hx.bool;have hy:=hy.bool
  have hb:V.k t=some .bool→P.underlying t=some .bool:=fun hk=>by
   obtain ⟨ti,hti,hk'⟩:=Env.wz hk
   obtain ⟨d,hd,hD⟩:=(hT.ty _ _ hti).desc
   simp only [DOK,hk'] at hD
   rw [hd,hD]
  split at h
  ·rename_i hk
   exact ⟨_,h,Calm.plain (v:=.bool (m == m')) (fun w=>by
    simp only [execOp,ho,hx,hy,Sem.run_bind,Kj,Result.andThen_ok,run_eql_bool w t m m' (hb hk)];rfl) (bH.mQ _)⟩
  ·rename_i hk
   exact ⟨_,h,Calm.plain (v:=.bool (!(m == m'))) (fun w=>by
    simp only [execOp,ho,hx,hy,Sem.run_bind,Kj,Result.andThen_ok,run_neq_bool w t m m' (hb hk)];rfl) (bH.mQ _)⟩
  ·simp at h
 ·rename_i z m z' m' e1 e2
  rw [e1] at hx;rw [e2] at hy
  have hx:=hx.str;have hy:=hy.str
  split at h
  ·exact ⟨_,h,Calm.plain (v:=.bool (m.toList == m'.toList)) (fun w=>by simp [execOp,ho,hx,hy,CP,Go.binOp,Op.stringOp]) (bH.mQ _)⟩
  ·exact ⟨_,h,Calm.plain (v:=.bool (!(m.toList == m'.toList))) (fun w=>by simp [execOp,ho,hx,hy,CP,Go.binOp,Op.stringOp]) (bH.mQ _)⟩
  ·split at h
   ·rename_i hsz
    exact ⟨_,h,Calm.plain (v:=.string (m++m')) (fun w=>by
     have:¬((m.size+m'.size:Nat):Int)>IntKind.i64.max:=by simp [IntKind.max,IntKind.signed,IntKind.bits];omega
     simp only [execOp,ho,hx,hy,Sem.run_bind,CP,Result.andThen_ok,Go.binOp,Op.stringOp,if_neg this,Sem.run_pure]) (bH.mkStr _)⟩
   ·simp at h
  ·simp at h
 ·rename_i zz ee dd e1 e2
  rw [e1] at hx;rw [e2] at hy
  obtain ⟨⟨_,_,a0,n0,c0,hx⟩,_⟩:=hx.cell (by simp) rfl (by simp) (by simp)
  simp only [List.cons.injEq,and_true] at hx
  have hy:=hy.nil
  have hs:∀e,V.k t=some (.sl e)→∃e',P.underlying t=some (.slice e'):=fun e hk=>by
   obtain ⟨ti,hti,hk'⟩:=Env.wz hk
   obtain ⟨d,hd,hD⟩:=(hT.ty _ _ hti).desc
   simp only [DOK,hk'] at hD
   exact ⟨_,by rw [hd,hD.1]⟩
  split at h
  ·rename_i hk
   obtain ⟨e',he'⟩:=hs _ hk
   exact ⟨_,h,Calm.plain (v:=.bool false) (fun w=>by
    simp only [execOp,ho,hx,hy,Sem.run_bind,jS,Result.andThen_ok,Jd he'];rfl) (bH.mQ _)⟩
  ·rename_i hk
   obtain ⟨e',he'⟩:=hs _ hk
   exact ⟨_,h,Calm.plain (v:=.bool true) (fun w=>by
    simp only [execOp,ho,hx,hy,Sem.run_bind,jS,Result.andThen_ok,Je he'];rfl) (bH.mQ _)⟩
  ·simp at h
 ·rename_i e1 e2
  rw [e1] at hx;rw [e2] at hy
  have hx:=hx.nil
  have hy:=hy.nil
  have hs:∀e,V.k t=some (.sl e)→∃e',P.underlying t=some (.slice e'):=fun e hk=>by
   obtain ⟨ti,hti,hk'⟩:=Env.wz hk
   obtain ⟨d,hd,hD⟩:=(hT.ty _ _ hti).desc
   simp only [DOK,hk'] at hD
   exact ⟨_,by rw [hd,hD.1]⟩
  split at h
  ·rename_i hk
   obtain ⟨e',he'⟩:=hs _ hk
   exact ⟨_,h,Calm.plain (v:=.bool true) (fun w=>by
    simp only [execOp,ho,hx,hy,Sem.run_bind,jS,Result.andThen_ok,Jd he'];rfl) (bH.mQ _)⟩
  ·rename_i hk
   obtain ⟨e',he'⟩:=hs _ hk
   exact ⟨_,h,Calm.plain (v:=.bool false) (fun w=>by
    simp only [execOp,ho,hx,hy,Sem.run_bind,jS,Result.andThen_ok,Je he'];rfl) (bH.mQ _)⟩
  ·simp at h
 ·rename_i zz ee dd e1 e2
  rw [e1] at hx;rw [e2] at hy
  have hx:0<(show List ee.den from dd).length→∃b off n0 c0,a.eval x=.slice (some ⟨b,off,none⟩) n0 c0:=by
   intro hl
   obtain ⟨hA,_⟩:=hx.cell (by simp) rfl (by simp) (by simp)
   rcases hA.2 with ⟨h,_⟩|⟨_,h,_⟩|⟨_,b,off,cap,cs,T,fz,h,_⟩
   ·simp at h
   ·have h:(show List ee.den from dd)=[]:=h
    rw [h] at hl;simp at hl
   ·simp only [List.cons.injEq,and_true] at h
    exact ⟨b,off,_,cap,h⟩
  have hy:=hy.nil
  have hs:∀e,V.k t=some (.sl e)→∃e',P.underlying t=some (.slice e'):=fun e hk=>by
   obtain ⟨ti,hti,hk'⟩:=Env.wz hk
   obtain ⟨d,hd,hD⟩:=(hT.ty _ _ hti).desc
   simp only [DOK,hk'] at hD
   exact ⟨_,by rw [hd,hD.1]⟩
  split at h
  ·rename_i hk
   split at h
   case isFalse=>simp at h
   case isTrue hl=>
   obtain ⟨b,off,n0,c0,hx⟩:=hx hl
   obtain ⟨e',he'⟩:=hs _ hk
   exact ⟨_,h,Calm.plain (v:=.bool false) (fun w=>by
    simp only [execOp,ho,hx,hy,Sem.run_bind,jS,Result.andThen_ok,Jd he'];rfl) (bH.mQ _)⟩
  ·rename_i hk
   split at h
   case isFalse=>simp at h
   case isTrue hl=>
   obtain ⟨b,off,n0,c0,hx⟩:=hx hl
   obtain ⟨e',he'⟩:=hs _ hk
   exact ⟨_,h,Calm.plain (v:=.bool true) (fun w=>by
    simp only [execOp,ho,hx,hy,Sem.run_bind,jS,Result.andThen_ok,Je he'];rfl) (bH.mQ _)⟩
  ·simp at h
 ·rename_i z k1 k2 m z' k' m' e1 e2
  rw [e1] at hx;rw [e2] at hy
  split at h
  ·rename_i hk
   subst hk
   cases hc:((K.pair k1 k2).ints&&decide (V.k t=some (.pair k1 k2))) with
   |false=>rw [hc] at h;simp at h
   |true=>
    rw [hc,cond_true] at h
    rw [Bool.and_eq_true,decide_eq_true_eq] at hc
    obtain ⟨hi,hkt⟩:=hc
    obtain ⟨ti,hti,hk'⟩:=Env.wz hkt
    have hE:=(hT.ty _ _ hti).eqs (by rw [hk'];exact hi)
    rw [hk'] at hE
    obtain ⟨xs,F,ex,hx⟩:=hx.agg
    obtain ⟨ys,F',ey,hy⟩:=hy.agg
    have hr:=fun w':World=>afn (w:=w') (m:=.own) (m':=.own) hE (hx.flat (F':=F) (K.af4 hi)) (hy.flat (F':=F') (K.af4 hi))
    split at h
    ·exact ⟨_,h,Calm.plain (v:=.bool ((K.pair k1 k2).beq m m')) (fun w=>by
      simp only [execOp,ho,ex,ey,Sem.run_bind,run_eqGuard_agg _ _ _ _ _ _ _ hE.guard,Result.andThen_ok,run_eql_struct,hr];rfl) (bH.mQ _)⟩
    ·exact ⟨_,h,Calm.plain (v:=.bool (!(K.pair k1 k2).beq m m')) (fun w=>by
      simp only [execOp,ho,ex,ey,Sem.run_bind,run_eqGuard_agg _ _ _ _ _ _ _ hE.guard,Result.andThen_ok,run_neq_struct,hr];rfl) (bH.mQ _)⟩
    ·simp at h
  ·simp at h
 ·simp at h
theorem alc(hT:gq P V)(R:Rel w0 M0 n C0 C s a w){op:BinOp}{t ty:TypeId}{x y:Operand}(ho:o.op=.binOp op t x y ty)(h:bC V o s.tmps s.roots c=some r) :
  ∃x,c x=some r∧Does P w0 M0 n C0 s a w o x:=zH R (ab0 hT R ho h)
theorem afP(R:Rel w0 M0 n C0 C s a w){op:UnOp}{t:TypeId}{x:Operand}(ho:o.op=.unOp op t x)(h:bC V o s.tmps s.roots c=some r) :
  ∃x,c x=some r∧Calm P C s a w o x:=by
 simp only [bC,ho] at h
 have hx:=R.eval x
 unfold ain at h
 split at h
 ·rename_i z k m e1
  rw [e1] at hx
  have hx:=hx.int
  exact ⟨_,h,Calm.plain (v:=.int k (k.wrap (0-m))) (fun w=>by simp [execOp,ho,hx,Op.unary,Op.intArith]) (bH.mkInt _ _)⟩
 ·rename_i z m e1
  rw [e1] at hx
  have hx:=hx.bool
  exact ⟨_,h,Calm.plain (v:=.bool (!m)) (fun w=>by simp [execOp,ho,hx,Op.unary]) (bH.mQ _)⟩
 ·simp at h
theorem an1(R:Rel w0 M0 n C0 C s a w){op:UnOp}{t:TypeId}{x:Operand}(ho:o.op=.unOp op t x)(h:bC V o s.tmps s.roots c=some r) :
  ∃x,c x=some r∧Does P w0 M0 n C0 s a w o x:=zH R (afP R ho h)
theorem Vx(hT:gq P V)(R:Rel w0 M0 n C0 C s a w){t1 t2:TypeId}{x:Operand}(ho:o.op=.convert t1 t2 x)(h:bC V o s.tmps s.roots c=some r) :
  ∃x,c x=some r∧Calm P C s a w o x:=by
 simp only [bC,ho] at h
 have hx:=R.eval x
 unfold KT at h
 split at h
 ·rename_i k1 k2 z k3 m e1 e2 e3
  rw [e3] at hx
  have hx:=hx.int
  obtain ⟨ti1,h1,hk1⟩:=Env.wz e1
  obtain ⟨ti2,h2,hk2⟩:=Env.wz e2
  obtain ⟨d1,hd1,hD1⟩:=(hT.ty _ _ h1).desc
  obtain ⟨d2,hd2,hD2⟩:=(hT.ty _ _ h2).desc
  simp only [DOK,hk1] at hD1
  simp only [DOK,hk2] at hD2
  subst hD1 hD2
  exact ⟨_,h,Calm.plain (v:=.int k2 (k2.wrap m)) (fun w=>by simp [execOp,ho,hx,Go.convert,bO hd1,bO hd2,Conv.intToInt]) (bH.mkInt _ _)⟩
 ·rename_i z m e1 e2 e3
  rw [e3] at hx
  have hx:=hx.str
  obtain ⟨ti1,h1,hk1⟩:=Env.wz e1
  obtain ⟨ti2,h2,hk2⟩:=Env.wz e2
  obtain ⟨d1,hd1,hD1⟩:=(hT.ty _ _ h1).desc
  obtain ⟨d2,hd2,hD2⟩:=(hT.ty _ _ h2).desc
  simp only [DOK,hk1] at hD1
  simp only [DOK,hk2] at hD2
  subst hD1 hD2
  exact ⟨_,h,Calm.plain (v:=.string m) (fun w=>by simp [execOp,ho,hx,Go.convert,bO hd1,bO hd2]) (bH.mkStr _)⟩
 ·simp at h
theorem agL(hT:gq P V)(R:Rel w0 M0 n C0 C s a w){t1 t2:TypeId}{x:Operand}(ho:o.op=.convert t1 t2 x)(h:bC V o s.tmps s.roots c=some r) :
  ∃x,c x=some r∧Does P w0 M0 n C0 s a w o x:=zH R (Vx hT R ho h)
theorem addr_add(b off k:Nat):(⟨b,off,none⟩:Addr).add k=⟨b,off+k,none⟩:=by
 unfold Addr.add;split
 ·rename_i h;subst h;rfl
 ·rfl
theorem YI{vs:List Value}{b off:Nat}(h:Gc w vs (some (b,off))){j:Nat}{v:Value}(hj:vs[j]?=some v):w.cell? ⟨b,off+j,none⟩=some v:=by
 obtain ⟨c,T,fz,hc,hs,he⟩:=h
 simp only [World.cell?,hc]
 rw [←he] at hj
 unfold sub at hj
 rw [List.getElem?_take] at hj
 split at hj
 ·rw [List.getElem?_drop] at hj
  simpa using hj
 ·simp at hj
theorem EY{T:TypeId}{ti:TI}(h:abQ P V T ti){vs:List Value}{b off:Nat}(hl:Gc w vs (some (b,off)))(hlen:vs.length=ti.k.size){v:Value}
  (hv:v=(if ti.k.isAgg then .agg vs.toArray else v)∧(ti.k.isAgg=false→vs=[v])):(Instr.loadAt T (.pointer (some ⟨b,off,none⟩))).run P w=.ok v w:=by
 unfold Instr.loadAt Instr.sureAddr loadVar
 simp only [Sem.run_bind,Sem.run_pure,Result.andThen_ok,h.isAgg]
 cases hg:ti.k.isAgg with
 |true=>
  simp only [hg,if_true] at hv
  simp only [if_true,Sem.run_bind,h.size,Result.andThen_ok]
  rw [←hlen,run_loadCells_list _ _ vs (fun j u hj=>by rw [addr_add];exact YI hl hj)]
  simp only [Result.andThen_ok,Sem.run_pure]
  rw [←hv.1]
 |false=>
  have hvs:=hv.2 hg
  have:=YI hl (j:=0) (v:=v) (by rw [hvs];rfl)
  simp only [Nat.add_zero] at this
  simp [this]
theorem K.aqN:∀(p:Path){k k':K},k.plain=true→k.at p=some k'→k'.plain=true:=by
 intro p
 induction p with
 |nil=>intro k k' h hk;rw [at_nil] at hk;cases hk;exact h
 |cons s p ih=>
  intro k k' h hk
  cases s<;>cases k<;>first
   | (simp [K.at] at hk;done)
   | (simp only [K.plain,Bool.and_eq_true] at h;exact ih h.1 hk)
   | (simp only [K.plain,Bool.and_eq_true] at h;exact ih h.2 hk)
   |exact ih (by simpa [K.plain] using h) hk
theorem ap5{z:Bool}{R:Type}:∀(p:Path){k:K}{d:k.den}{c:(k':K)→k'.den→Mask→Option R},
  iF k d (.imm z) p c=iF k d (.imm z) p fun k' d' _=>c k' d' (.imm z):=by
 intro p
 induction p with
 |nil=>intro k d c;cases k<;>rfl
 |cons s p ih=>
  intro k d c
  cases s<;>cases k<;>first
   |rfl
   |exact ih
   | (simp only [iF];split<;>first|rfl|exact ih)
theorem adx{vs:List Value}(h:vs.length=1):∃v,vs=[v]:=by
 match vs,h with
 |[v],_=>exact ⟨v,rfl⟩
theorem K.aeo{k:K}(h:k.isAgg=false):k.size=1:=by cases k<;>first|rfl|simp [K.isAgg] at h
theorem af5{θ:ay→Nat}{Z S:BS}{z:Bool}{k:K}{d:k.den}{vs0:List Value}{p:Path}(he:Enc w θ Z S k (.imm z) d vs0 noB)(hg:cO k d (.imm z) p) :
  ∃k' d' vs b1 F,k.at p=some k'∧(∀(R:Type)(c:(k':K)→k'.den→Mask→Option R),iF k d (.imm z) p c=c k' d' (.imm z)) ∧
   eU w k vs0 none p=some (vs,b1)∧Enc w θ Z S k' (.imm z) d' vs F∧Gc w vs b1:=by
 obtain ⟨k',d',m',hc⟩:=jy p hg
 have hc':∀(R:Type)(c:(k':K)→k'.den→Mask→Option R),iF k d (.imm z) p c=c k' d' (.imm z):=fun R c=>by rw [ap5,hc]
 have h1:=hc' ((Σ k:K,k.den)×Mask) (fun k d m=>some (⟨k,d⟩,m))
 obtain ⟨k2,d2,m2,vs,b1,F',g1,g2,g3,g4,g5,g6,g7,g8⟩:=TT p h1 he (base:=none) trivial
 simp only [Option.some.injEq,Prod.mk.injEq,Sigma.mk.injEq] at g1
 obtain ⟨⟨rfl,h2⟩,rfl⟩:=g1
 cases h2
 exact ⟨_,_,vs,b1,F',g2,hc',g3,g4,g6⟩
def valOf(k:K)(vs:List Value):Value:=if k.isAgg then .agg vs.toArray else vs.headD undef
theorem sj{k:K}{vs:List Value}(h:vs.length=k.size):(valOf k vs=if k.isAgg then .agg vs.toArray else valOf k vs)∧(k.isAgg=false→vs=[valOf k vs]):=by
 unfold valOf
 cases hg:k.isAgg with
 |true=>exact ⟨rfl,by simp⟩
 |false=>
  refine ⟨rfl,fun _=>?_⟩
  obtain ⟨v,rfl⟩:=adx (h.trans (K.aeo hg))
  rfl
theorem Enc.cellV{θ:ay→Nat}{Z S:BS}{k:K}{m:Mask}{d:k.den}{vs:List Value}{F:BS}(h:Enc w θ Z S k m d vs F)(hm:∀e,k=.sl e→m≠.gone)(hg:k.isAgg=false):(valOf k vs).cells = #[valOf k vs]:=by
 unfold valOf
 rw [hg]
 cases k with
 |sl e=>
  rcases h with ⟨h,_⟩|⟨_,_,a,rfl⟩|⟨_,_,_,_,_,_,_,rfl,_⟩
  ·exact absurd h (hm e rfl)
  ·rfl
  ·rfl
 |ptr=>simp only [Enc] at h;subst h;cases d<;>rfl
 |fn=>simp only [Enc] at h;subst h;cases d<;>rfl
 |unit=>simp [K.isAgg] at hg
 |pair a b=>simp [K.isAgg] at hg
 |_=>simp only [Enc] at h;subst h;rfl
theorem bH.val{rs:RF}{k:K}{vs:List Value}{av:AV}(h:AVC w C rs av vs)(hlen:vs.length=k.size)(ha:av=.dead∨av.agg=k.isAgg)(hc:k.isAgg=false→av≠.dead→(valOf k vs).cells = #[valOf k vs]) :
  bH w C rs (valOf k vs) av:=by
 rcases ha with rfl|ha
 ·exact bH.dead
 ·cases hg:k.isAgg with
  |true=>
   refine .inl (.inr (.inl ⟨by rw [ha,hg],vs,?_,h⟩))
   unfold valOf;rw [hg];rfl
  |false=>
   by_cases hd:av=.dead
   ·rw [hd];exact bH.dead
   ·refine .inl (.inr (.inr ⟨by rw [ha,hg],?_,hc hg hd⟩))
    rw [←(sj hlen).2 hg];exact h
theorem XY{q:ay}{p:Path}{kk:K}{d:kk.den}{m:Mask}(hd:TK q kk p d m≠.dead):∀e,kk=.sl e→m≠.gone:=by
 rintro e rfl rfl;exact hd rfl
theorem akG:∀{q l x:Path},Zw q l=some x→l=q++x:=by
 intro q
 induction q with
 |nil=>intro l x h;simp only [Zw,Option.some.injEq] at h;rw [h];rfl
 |cons s q ih=>
  intro l x h
  cases l with
  |nil=>simp [Zw] at h
  |cons s' l=>
   simp only [Zw] at h
   split at h
   ·rename_i hs;rw [hs,ih h];rfl
   ·cases h
theorem ajw{q:Path}{e:Path×Nat×Path}:∀{L:List (Path×Nat×Path)},e∈Wq q L→∃e0∈L,e0.1=q++e.1∧e0.2=e.2:=by
 intro L
 induction L with
 |nil=>intro h;cases h
 |cons a l ih=>
  intro h
  simp only [Wq] at h
  split at h
  ·rename_i x hx
   rcases List.mem_cons.1 h with rfl|h
   ·exact ⟨a,.head _,akG hx,rfl⟩
   ·obtain ⟨e0,h0,h1⟩:=ih h;exact ⟨e0,.tail _ h0,h1⟩
  ·obtain ⟨e0,h0,h1⟩:=ih h;exact ⟨e0,.tail _ h0,h1⟩
theorem anY(hT:gq P V)(R:Rel w0 M0 n C0 C s a w){t:TypeId}{x:Operand}(ho:o.op=.load t x)(h:bC V o s.tmps s.roots c=some r) :
  ∃x,c x=some r∧Does P w0 M0 n C0 s a w o x:=by
 simp only [bC,ho] at h
 have hx:=R.eval x
 split at h
 case h_1=>simp at h
 case h_2 k hk=>
 obtain ⟨ti,hti,rfl⟩:=Env.wz hk
 have hty:=hT.ty _ _ hti
 split at h
 ·rename_i q p e1
  rw [e1] at hx
  obtain ⟨⟨b,off,hv,_,hroot⟩,_⟩:=hx.cell (by simp) rfl (by simp) (by simp)
  simp only [List.cons.injEq,and_true] at hv
  split at h
  case h_1=>simp at h
  case h_2 y hy=>
  obtain ⟨k',d,m,vs,b1,hp,hc⟩:=iw (R.mem.ok _ _ hy) h
  obtain ⟨k2,cs,g1,g2,g3⟩:=hroot y hy
  rw [hp.lc] at g3
  simp only [Option.some.injEq,Prod.mk.injEq] at g3
  obtain ⟨rfl,rfl⟩:=g3
  split at hc
  case isFalse=>simp at hc
  case isTrue hkk=>
  subst hkk
  obtain ⟨F,he⟩:=hp.enc
  have hr:=abY R.mem hy hp
  have hm:ti.k.isAgg=false→TK q ti.k p d m≠.dead→(valOf ti.k vs).cells = #[valOf ti.k vs]:=fun hg hd=>he.cellV (XY hd) hg
  exact ⟨_,hc,Does.plain R (v:=valOf ti.k vs) (by
   simp only [execOp,ho,hv,Sem.run_bind,EY hty hp.lies he.len (sj he.len),Result.andThen_ok,Sem.run_pure]) (bH.val hr.1 he.len hr.2 hm)⟩
 ·rename_i z k0 d0 p e1
  rw [e1] at hx
  obtain ⟨⟨vs0,b,off,cs,k',hpl,henc,hat,hcg,hidx,hlc,hv⟩,_⟩:=hx.cell (by simp) rfl (by simp) (by simp)
  simp only [List.cons.injEq,and_true] at hv
  have hro:Mask.ro k0 z=.imm z:=by
   unfold Mask.ro
   cases hf:k0.flat with
   |true=>have:=(K.VB p hf hat).2;rw [hidx] at this;cases this
   |false=>rfl
  rw [hro] at h
  obtain ⟨k2,d2,vs,b1,F,g1,g2,g3,g4,g5⟩:=af5 henc hcg
  rw [hat] at g1
  simp only [Option.some.injEq] at g1
  subst g1
  rw [hlc] at g3
  simp only [Option.some.injEq,Prod.mk.injEq] at g3
  obtain ⟨rfl,rfl⟩:=g3
  rw [g2] at h
  split at h
  case isFalse=>simp at h
  case isTrue hkk=>
  subst hkk
  have hAVC:AVC w C s.roots (.imm (bif ti.k.flat then true else z) ti.k d2) cs:=by
   refine ⟨K.aqN p hpl hat,?_⟩
   cases hf:ti.k.flat with
   |true=>exact Enc.flat hf g4
   |false=>have:=g4.ro (G:=noB) z;simpa using this
  exact ⟨_,h,Does.plain R (v:=valOf ti.k cs) (by
   simp only [execOp,ho,hv,Sem.run_bind,EY hty g5 g4.len (sj g4.len),Result.andThen_ok,Sem.run_pure])
   (bH.val hAVC g4.len (.inr rfl) (fun hg _=>g4.cellV (fun _ _=>by simp) hg))⟩
 ·rename_i q p L e1
  rw [e1] at hx
  obtain ⟨⟨⟨b,off,hv,_,hroot⟩,hL⟩,_⟩:=hx.cell (by simp) rfl (by simp) (by simp)
  simp only [List.cons.injEq,and_true] at hv
  split at h
  case h_1=>simp at h
  case h_2 y hy=>
  split at h
  ·obtain ⟨k',d,m,vs,b1,hp,hc⟩:=iw (R.mem.ok _ _ hy) h
   obtain ⟨k2,cs,g1,g2,g3⟩:=hroot y hy
   rw [hp.lc] at g3
   simp only [Option.some.injEq,Prod.mk.injEq] at g3
   obtain ⟨rfl,rfl⟩:=g3
   split at hc
   case isFalse=>simp at hc
   case isTrue hkk=>
   subst hkk
   obtain ⟨F,he⟩:=hp.enc
   have hr:=abY R.mem hy hp
   have hm:ti.k.isAgg=false→TK q ti.k p d m≠.dead→(valOf ti.k vs).cells = #[valOf ti.k vs]:=fun hg hd=>he.cellV (XY hd) hg
   exact ⟨_,hc,Does.plain R (v:=valOf ti.k vs) (by
    simp only [execOp,ho,hv,Sem.run_bind,EY hty hp.lies he.len (sj he.len),Result.andThen_ok,Sem.run_pure]) (bH.val hr.1 he.len hr.2 hm)⟩
  ·rename_i e L'
   split at h
   case h_1=>simp at h
   case h_2 y2 hy2=>
   split at h
   case isFalse=>simp at h
   case isTrue hcond=>
   obtain ⟨he1,hsl,hat⟩:=hcond
   obtain ⟨k',d,m,vs,b1,hp,hc⟩:=iw (R.mem.ok _ _ hy2) h
   split at hc
   case isFalse=>simp at hc
   case isTrue hkk=>
   subst hkk
   cases hlv:m.live with
   |false=>rw [hlv] at hc;simp at hc
   |true=>
   rw [hlv] at hc
   obtain ⟨u,⟨u1,hu1,hr1⟩,hu2⟩:=hL e (.head _)
   have hu2':=hu2
   obtain ⟨u2,hu2,hr2⟩:=hu2
   obtain ⟨ke1,base1,j1,j2,j3⟩:=hr1 y hy
   obtain ⟨ke2,base2,l1,l2,l3⟩:=hr2 y2 hy2
   rw [hp.lc] at l3
   simp only [Option.some.injEq,Prod.mk.injEq] at l3
   simp only [List.cons.injEq,and_true] at hu1 hu2
   subst hu1 hu2
   obtain ⟨k2,cs,g1,g2,g3⟩:=hroot y hy
   rw [he1,List.append_nil,g3] at j3
   simp only [Option.some.injEq,Prod.mk.injEq] at j3
   obtain ⟨rfl,rfl⟩:=j3
   obtain ⟨k3,d3,m3,vs3,b3,hp3⟩:=Py (R.mem.ok _ _ hy) g2
   have hk3:k3=ti.k:=by have:=hp3.at_;rw [hat] at this;exact (Option.some.inj this).symm
   subst hk3
   have hlc:=hp3.lc
   rw [g3] at hlc
   simp only [Option.some.injEq,Prod.mk.injEq] at hlc
   obtain ⟨rfl,rfl⟩:=hlc
   obtain ⟨F3,he3⟩:=hp3.enc
   obtain ⟨F,he⟩:=hp.enc
   rw [l3.1] at he
   have hg:ti.k.isAgg=false:=by cases hk:ti.k<;>rw [hk] at hsl<;>first|rfl|cases hsl
   have hcell:=he.cellV (fun e _ hm=>by rw [hm] at hlv;cases hlv) hg
   have hval:valOf ti.k [u]=u:=by
    have:=(sj he3.len).2 hg
    simpa using this.symm
   rw [hval] at hcell
   exact ⟨_,hc,Does.plain R (v:=valOf ti.k [u]) (by
    simp only [execOp,ho,hv,Sem.run_bind,EY hty hp3.lies he3.len (sj he3.len),Result.andThen_ok,Sem.run_pure]) (by
    rw [hval]
    exact .inl (.inr (.inr ⟨rfl,hu2',hcell⟩)))⟩
 ·simp at h
theorem aeP(R:Rel w0 M0 n C0 C s a w){x:Operand}(ho:o.op=.nilCheck x)(h:bC V o s.tmps s.roots c=some r) :
  ∃x,c x=some r∧Does P w0 M0 n C0 s a w o x:=by
 simp only [bC,ho] at h
 have hx:=R.eval x
 split at h
 ·rename_i q p e1
  rw [e1] at hx
  obtain ⟨⟨b,off,hv,_,_⟩,_⟩:=hx.cell (by simp) rfl (by simp) (by simp)
  simp only [List.cons.injEq,and_true] at hv
  exact ⟨_,h,Does.plain R (v:=a.eval x) (by simp [execOp,ho,hv]) hx⟩
 ·rename_i z k d p e1
  rw [e1] at hx
  obtain ⟨⟨_,_,_,_,_,_,_,_,_,_,_,hv⟩,_⟩:=hx.cell (by simp) rfl (by simp) (by simp)
  simp only [List.cons.injEq,and_true] at hv
  exact ⟨_,h,Does.plain R (v:=a.eval x) (by simp [execOp,ho,hv]) hx⟩
 ·rename_i f caps e1
  rw [e1] at hx
  exact ⟨_,h,Does.plain R (v:=a.eval x) (by simp [execOp,ho,hx.fn]) hx⟩
 ·simp at h
theorem aqF{rs:RF}:∀(av:AV)(vs:List Value)(i:Nat),XT w C rs av vs→RO av i≠.dead→∃v,vs[i]?=some v∧bH w C rs v (RO av i):=by
 intro av
 induction av with
 |tcons a b _ ihb=>
  intro vs i h hd
  obtain ⟨v,l,rfl,h1,h2⟩:=h
  cases i with
  |zero=>exact ⟨v,rfl,.inl h1⟩
  |succ i=>exact ihb l i h2 hd
 |_=>intro vs i h hd;cases i<;>exact absurd rfl hd
theorem Vy(R:Rel w0 M0 n C0 C s a w){x:Operand}{i:Nat}(ho:o.op=.extract x i)(h:bC V o s.tmps s.roots c=some r) :
  ∃x,c x=some r∧Calm P C s a w o x:=by
 simp only [bC,ho] at h
 cases hdd:(RO (bf s.tmps x) i).alU with
 |true=>rw [hdd] at h;simp at h
 |false=>
 rw [hdd] at h
 simp only [cond_false] at h
 have hd:RO (bf s.tmps x) i≠.dead:=by intro h';rw [h'] at hdd;cases hdd
 refine ⟨_,h,?_⟩
 have hx:=R.eval x
 rcases hx with hx|⟨vs,hv,hx⟩
 ·cases hh:bf s.tmps x<;>rw [hh] at hd hx<;>first
   | (cases i<;>exact absurd rfl hd)
   |skip
  all_goals
   rcases hx with hx|⟨hx,_⟩|⟨_,hx,_⟩
   ·cases hx
   ·simp [AV.agg] at hx
   ·exact hx.elim
 ·obtain ⟨v,hvi,hr⟩:=aqF _ vs i hx hd
  exact Calm.plain (v:=v) (fun w=>by simp [execOp,ho,hv,Instr.extract,hvi]) hr
theorem agM(R:Rel w0 M0 n C0 C s a w){x:Operand}{i:Nat}(ho:o.op=.extract x i)(h:bC V o s.tmps s.roots c=some r) :
  ∃x,c x=some r∧Does P w0 M0 n C0 s a w o x:=zH R (Vy R ho h)
theorem aeO(R:Rel w0 M0 n C0 C s a w){fn:Fn}{f1 caps:Array Operand}(ho:o.op=.makeFunc fn f1 caps)(h:bC V o s.tmps s.roots c=some r) :
  ∃x,c x=some r∧Does P w0 M0 n C0 s a w o x:=by
 cases fn with
 |func f=>
  simp only [bC,ho] at h
  split at h
  case h_2=>simp at h
  case h_1 l e1 e2=>
  have hf1:f1 = #[]:=by cases f1;simp_all
  have hcaps:∀(l1:List Operand)(l:List ay),X3 (l1.map (bf s.tmps))=some l →
    l1.map a.eval=l.map (fun r=>Value.pointer (some ⟨C.θ r,0,none⟩))∧∀q∈l,∀y,s.roots q=some y→y.mem=true:=by
   intro l1
   induction l1 with
   |nil=>intro l h;simp only [List.map_nil,X3,Option.some.injEq] at h;subst h;exact ⟨rfl,fun q hq=>by cases hq⟩
   |cons x l1 ih=>
    intro l h
    have hx:=R.eval x
    simp only [List.map_cons] at h
    unfold X3 at h
    split at h
    ·rename_i heq;cases heq
    ·rename_i q rest heq
     simp only [List.cons.injEq] at heq
     obtain ⟨e1,rfl⟩:=heq
     cases hcc:X3 (l1.map (bf s.tmps)) with
     |none=>simp [hcc] at h
     |some l2=>
      simp only [hcc,Option.map_some,Option.some.injEq] at h
      subst h
      obtain ⟨i1,i2⟩:=ih l2 hcc
      rw [e1] at hx
      obtain ⟨⟨b,off,hv,h0,hroot⟩,_⟩:=hx.cell (by simp) rfl (by simp) (by simp)
      simp only [List.cons.injEq,and_true] at hv
      obtain ⟨rfl,rfl⟩:=h0 rfl
      refine ⟨by simp [i1,hv],fun q' hq' y hy=>?_⟩
      simp only [List.mem_cons] at hq'
      rcases hq' with rfl|hq'
      ·obtain ⟨k',cs,_,_,g3⟩:=hroot y hy
       rw [cZ] at g3
       simp only [Option.some.injEq,Prod.mk.injEq] at g3
       have:=g3.2
       unfold bK at this
       split at this
       ·assumption
       ·cases this
      ·exact i2 q' hq' y hy
    ·simp at h
  obtain ⟨h1,h2⟩:=hcaps caps.toList l e2
  refine ⟨_,h,Does.plain R (v:=.func (.func f) #[] (DJ C.θ l)) ?_ (bH.mk ⟨rfl,h2⟩ rfl rfl)⟩
  have:caps.map a.eval=DJ C.θ l:=by
   unfold DJ;rw [←h1];apply Array.ext';simp
  simp [execOp,ho,hf1,Instr.makeFunc,this]
 |_=>simp [bC,ho] at h
theorem uL{k k1:K}{d:k.den}{d1:k1.den}{m m1:Mask}{p q:Path}(hg:∀(R:Type)(c:(k':K)→k'.den→Mask→Option R),iF k d m p c=c k1 d1 m1)
  (h:cO k1 d1 m1 q):cO k d m (p++q):=by
 obtain ⟨k2,d2,m2,hc⟩:=jy q h
 refine Bj (r:=()) (c:=fun _ _ _=>some ()) _ ?_
 rw [OB,hg,hc]
theorem Ye{k1:K}:∀(f:Nat){k:K}{fs:List Field}{off0:Nat},uJ P fs k off0→k.at (y8 f)=some k1 →
  ∃fd i o,fs[f]?=some fd∧fd.offset=off0+o∧P.info? fd.type=some i∧i.size=k1.size∧i.size≠0∧dM (y8 f)=false ∧
   ∀(w:World)(vs:List Value)(base:Option (Nat×Nat)),eU w k vs base (y8 f)=some (((vs.drop o).take k1.size),base.map fun x=>(x.1,x.2+o)):=by
 intro f
 induction f with
 |zero=>
  intro k fs off0 h hk
  cases k<;>first|(simp [y8,K.at] at hk;done)|skip
  rename_i ka kb
  cases fs with
  |nil=>exact h.elim
  |cons fd fs=>
   obtain ⟨h1,h2,⟨i,h3,h4,_⟩,h5⟩:=h
   have hk':ka.at []=some k1:=hk
   rw [at_nil] at hk'
   obtain rfl:ka=k1:=Option.some.inj hk'
   refine ⟨fd,i,0,rfl,h1,h3,h4,by rw [h4];exact h2,rfl,fun w vs base=>?_⟩
   show eU w ka (vs.take ka.size) base []=_
   rw [cZ]
   cases base<;>simp
 |succ f ih=>
  intro k fs off0 h hk
  cases k<;>first|(simp [y8,K.at] at hk;done)|skip
  rename_i ka kb
  cases fs with
  |nil=>exact h.elim
  |cons fd fs=>
   obtain ⟨h1,h2,h3,h5⟩:=h
   obtain ⟨fd',i,o,g1,g2,g3,g4,g5,g6,g7⟩:=ih (k:=kb) h5 hk
   refine ⟨fd',i,ka.size+o,g1,by omega,g3,g4,g5,g6,fun w vs base=>?_⟩
   show eU w kb (vs.drop ka.size) (base.map fun x=>(x.1,x.2+ka.size)) (y8 f)=_
   rw [g7,List.drop_drop]
   cases base<;>simp [Nat.add_assoc]
theorem DOK.struct{ti:TI}{d:TypeDesc}(h:DOK P V ti d){k1:K}{f:Nat}(hk:ti.k.at (y8 f)=some k1):∃fs,d=.struct fs∧uJ P fs.toList ti.k 0:=by
 unfold DOK at h
 cases hti:ti.k<;>simp only [hti] at h hk
 case pair a b=>exact h
 case unit=>exact h
 all_goals (cases f<;>simp [y8,K.at] at hk)
theorem PN{t:TypeId}{f:Nat}{fs:Array Field}(hu:P.underlying t=some (.struct fs)){fd:Field}(hf:fs.toList[f]?=some fd){i:TypeInfo}(hi:P.info? fd.type=some i)(hs:i.size≠0)(b off:Nat) :
  (Instr.fieldAt t (.pointer (some ⟨b,off,none⟩)) f).run P w=.ok (.pointer (some ⟨b,off+fd.offset,none⟩)) w:=by
 have hf':fs[f]?=some fd:=by rw [←hf];simp
 unfold Instr.fieldAt Instr.sureAddr fieldPlace
 simp only [Sem.run_bind,bO hu,Result.andThen_ok,hf',Sem.run_pure,pY hi]
 rw [if_neg hs]
 simp [addr_add]
theorem ab5(hT:gq P V)(R:Rel w0 M0 n C0 C s a w){t:TypeId}{x:Operand}{f:Nat}(ho:o.op=.fieldAddr t x f)(h:bC V o s.tmps s.roots c=some r) :
  ∃x,c x=some r∧Does P w0 M0 n C0 s a w o x:=by
 simp only [bC,ho] at h
 have hx:=R.eval x
 split at h
 ·rename_i _ _ k q p ek e1
  rw [e1] at hx
  obtain ⟨ti,hti,rfl⟩:=Env.wz ek
  obtain ⟨d,hd,hD⟩:=(hT.ty _ _ hti).desc
  obtain ⟨⟨b,off,hv,_,hroot⟩,_⟩:=hx.cell (by simp) rfl (by simp) (by simp)
  simp only [List.cons.injEq,and_true] at hv
  split at h
  case h_1=>simp at h
  case h_2 y hy=>
  split at h
  case isFalse=>simp at h
  case isTrue hc1=>
  obtain ⟨hkp,hks⟩:=hc1
  obtain ⟨k1,hk1⟩:=Option.isSome_iff_exists.1 hks
  obtain ⟨fs,rfl,hF⟩:=hD.struct hk1
  obtain ⟨fd,i,o1,g1,g2,g3,g4,g5,g6,g7⟩:=Ye f hF hk1
  obtain ⟨k2,cs,e2,e3,e4⟩:=hroot y hy
  obtain ⟨k3,d3,m3,vs,b1,hp⟩:=Py (R.mem.ok _ _ hy) e3
  have hk3:k3=ti.k:=by have:=hp.at_;rw [hkp] at this;exact (Option.some.inj this).symm
  subst hk3
  have hlc:=hp.lc
  rw [e4] at hlc
  simp only [Option.some.injEq,Prod.mk.injEq] at hlc
  obtain ⟨rfl,rfl⟩:=hlc
  refine ⟨_,h,Does.plain R (v:=.pointer (some ⟨b,off+fd.offset,none⟩)) (by
   simp only [execOp,ho,hv,Sem.run_bind,PN hd g1 g3 g5,Result.andThen_ok,Sem.run_pure]) (bH.mk ⟨b,off+fd.offset,rfl,?_,fun y' hy'=>?_⟩ rfl rfl)⟩
  ·intro hp0;cases p<;>cases f<;>simp [y8] at hp0
  ·rw [hy] at hy';cases hy'
   refine ⟨k1,(cs.drop o1).take k1.size,by rw [K.lG,hkp];exact hk1,uL hp.get (sF _ g6 hk1),?_⟩
   rw [lY _ _ hkp e4,g7,g2]
   simp
 ·rename_i _ _ k z k0 d0 p ek e1
  rw [e1] at hx
  obtain ⟨ti,hti,rfl⟩:=Env.wz ek
  obtain ⟨d,hd,hD⟩:=(hT.ty _ _ hti).desc
  obtain ⟨⟨vs0,b,off,cs,k',hpl,henc,hat,hcg,hidx,hlc,hv⟩,_⟩:=hx.cell (by simp) rfl (by simp) (by simp)
  simp only [List.cons.injEq,and_true] at hv
  split at h
  case isFalse=>simp at h
  case isTrue hc1=>
  obtain ⟨hkp,hks⟩:=hc1
  obtain ⟨k1,hk1⟩:=Option.isSome_iff_exists.1 hks
  obtain ⟨fs,rfl,hF⟩:=hD.struct hk1
  obtain ⟨fd,i,o1,g1,g2,g3,g4,g5,g6,g7⟩:=Ye f hF hk1
  rw [hat] at hkp
  simp only [Option.some.injEq] at hkp
  subst hkp
  obtain ⟨k2,d2,vs,b1,F,f1,f2,f3,f4,f5⟩:=af5 henc hcg
  rw [hat] at f1;simp only [Option.some.injEq] at f1;subst f1
  have hii:∀(p q:Path),dM p=true→dM (p++q)=true:=by
   intro p q;induction p with
   |nil=>simp [dM]
   |cons s p ih=>cases s<;>simp_all [dM]
  refine ⟨_,h,Does.plain R (v:=.pointer (some ⟨b,off+fd.offset,none⟩)) (by
   simp only [execOp,ho,hv,Sem.run_bind,PN hd g1 g3 g5,Result.andThen_ok,Sem.run_pure]) (bH.mk ⟨vs0,b,off+fd.offset,(cs.drop o1).take k1.size,k1,hpl,henc,?_,?_,hii _ _ hidx,?_,rfl⟩ rfl rfl)⟩
  ·rw [K.lG,hat];exact hk1
  ·exact uL f2 (sF _ g6 hk1)
  ·rw [lY _ _ hat hlc,g7,g2];simp
 ·rename_i _ _ k q p L ek e1
  rw [e1] at hx
  obtain ⟨ti,hti,rfl⟩:=Env.wz ek
  obtain ⟨d,hd,hD⟩:=(hT.ty _ _ hti).desc
  obtain ⟨⟨⟨b,off,hv,_,hroot⟩,hL⟩,_⟩:=hx.cell (by simp) rfl (by simp) (by simp)
  simp only [List.cons.injEq,and_true] at hv
  split at h
  case h_1=>simp at h
  case h_2 y hy=>
  split at h
  case isFalse=>simp at h
  case isTrue hc1=>
  obtain ⟨hkp,hks⟩:=hc1
  obtain ⟨k1,hk1⟩:=Option.isSome_iff_exists.1 hks
  obtain ⟨fs,rfl,hF⟩:=hD.struct hk1
  obtain ⟨fd,i,o1,g1,g2,g3,g4,g5,g6,g7⟩:=Ye f hF hk1
  obtain ⟨k2,cs,e2,e3,e4⟩:=hroot y hy
  obtain ⟨k3,d3,m3,vs,b1,hp⟩:=Py (R.mem.ok _ _ hy) e3
  have hk3:k3=ti.k:=by have:=hp.at_;rw [hkp] at this;exact (Option.some.inj this).symm
  subst hk3
  have hlc:=hp.lc
  rw [e4] at hlc
  simp only [Option.some.injEq,Prod.mk.injEq] at hlc
  obtain ⟨rfl,rfl⟩:=hlc
  refine ⟨_,h,Does.plain R (v:=.pointer (some ⟨b,off+fd.offset,none⟩)) (by
   simp only [execOp,ho,hv,Sem.run_bind,PN hd g1 g3 g5,Result.andThen_ok,Sem.run_pure]) (bH.mk ⟨⟨b,off+fd.offset,rfl,?_,fun y' hy'=>?_⟩,fun e he=>?_⟩ rfl rfl)⟩
  ·intro hp0;cases p<;>cases f<;>simp [y8] at hp0
  ·rw [hy] at hy';cases hy'
   refine ⟨k1,(cs.drop o1).take k1.size,by rw [K.lG,hkp];exact hk1,uL hp.get (sF _ g6 hk1),?_⟩
   rw [lY _ _ hkp e4,g7,g2]
   simp
  ·obtain ⟨e0,he0,h1,h2⟩:=ajw he
   rw [List.append_assoc,←h1,←h2]
   exact hL e0 he0
 ·simp at h
end
end Go.Abs
namespace Go.Abs
section
variable {P : Program} {V : Env} {w0 w : World} {M0 : BS} {n : Nat} {C0 C : Ctx} {s : St} {a : Act}
variable {R' : Type} {r : R'} {c : Del → Option R'} {o : Oper}
theorem Mask.qD{m:Mask}(h:m.live=true):m≠.gone:=by rintro rfl;simp [Mask.live] at h
theorem yX{θ:ay→Nat}{Z S:BS}{e:K}{m:Mask}{xs:List e.den}{v:Value}{F:BS}(h:Enc w θ Z S (.sl e) m xs [v] F)(hm:m≠.gone) :
  ∃a cap,v=.slice a xs.length cap∧xs.length≤cap∧(0<cap→∃b off,a=some ⟨b,off,none⟩):=by
 rcases h with ⟨h,_⟩|⟨_,rfl,a,h⟩|⟨_,b,off,cap,cs,T,fz,h,hc,hle,_⟩
 ·exact absurd h hm
 ·simp only [List.cons.injEq,and_true] at h
  exact ⟨a,0,h,Nat.le_refl _,fun h=>absurd h (by simp)⟩
 ·simp only [List.cons.injEq,and_true] at h
  exact ⟨_,cap,h,hle,fun _=>⟨b,off,rfl⟩⟩
theorem PI(R:Rel w0 M0 n C0 C s a w){e:K}{av:AV}{v:Value}(hv:bH w C s.roots v av){R':Type}{r:R'}{c:List e.den→Mask→Option R'}
  (h:iB s.roots [] e av c=some r):∃xs m,c xs m=some r∧∃a cap,v=.slice a xs.length cap∧xs.length≤cap:=by
 unfold iB at h
 split at h
 ·exact ⟨_,_,h,none,0,hv.nil,Nat.le_refl _⟩
 ·obtain ⟨a,hv⟩:=hv.emp
  exact ⟨_,_,h,a,0,hv,Nat.le_refl _⟩
 ·split at h
  case isFalse=>simp at h
  case isTrue hk=>
  subst hk
  obtain ⟨hA,_⟩:=hv.cell (by simp) rfl (by simp) (by simp)
  obtain ⟨a',cap,h1,h2,_⟩:=yX hA.2 (by simp)
  exact ⟨_,_,h,a',cap,h1,h2⟩
 ·split at h
  case isFalse=>simp at h
  case isTrue hk=>
  subst hk
  obtain ⟨hA,_⟩:=hv.cell (by simp) rfl (by simp) (by simp)
  obtain ⟨a',cap,h1,h2,_⟩:=yX hA.2.1 (by simp)
  exact ⟨_,_,h,a',cap,h1,h2⟩
 ·rename_i q p
  obtain ⟨⟨v',hvv,hroot⟩,_⟩:=hv.cell (by simp) rfl (by simp) (by simp)
  simp only [List.cons.injEq,and_true] at hvv
  subst hvv
  split at h
  case h_1=>simp at h
  case h_2 x hx=>
  have hx:s.roots q=some x:=hx
  obtain ⟨k',d,m,vs,b1,hp,hc⟩:=iw (R.mem.ok _ _ hx) h
  obtain ⟨e',base,g1,g2,g3⟩:=hroot x hx
  split at hc
  case isFalse=>simp at hc
  case isTrue hk=>
  subst hk
  cases hl:m.live with
  |false=>simp [hl] at hc
  |true=>
  simp only [hl,cond_true] at hc
  have:=hp.lc;rw [g3] at this
  simp only [Option.some.injEq,Prod.mk.injEq] at this
  obtain ⟨rfl,rfl⟩:=this
  obtain ⟨F,henc⟩:=hp.enc
  obtain ⟨a',cap,h1,h2,_⟩:=yX henc (Mask.qD hl)
  exact ⟨_,_,hc,a',cap,h1,h2⟩
 ·rename_i q p lo nn
  obtain ⟨⟨v',v0,hvv,hroot⟩,_⟩:=hv.cell (by simp) rfl (by simp) (by simp)
  simp only [List.cons.injEq,and_true] at hvv
  subst hvv
  split at h
  case h_1=>simp at h
  case h_2 x hx=>
  have hx:s.roots q=some x:=hx
  obtain ⟨k',d,m,vs,b1,hp,hc⟩:=iw (R.mem.ok _ _ hx) h
  obtain ⟨e',base,g1,g2,g3,g4⟩:=hroot x hx
  split at hc
  case isFalse=>simp at hc
  case isTrue hk=>
  subst hk
  cases hl:m.live with
  |false=>simp [hl] at hc
  |true=>
  simp only [hl,cond_true] at hc
  have:=hp.lc;rw [g3] at this
  simp only [Option.some.injEq,Prod.mk.injEq] at this
  obtain ⟨rfl,rfl⟩:=this
  obtain ⟨F,henc⟩:=hp.enc
  obtain ⟨a',cap,h1,h2,_⟩:=yX henc (Mask.qD hl)
  obtain ⟨aa,N,cc,a'',h5,h6,h7,h8,h9⟩:=g4
  rw [h1] at h5
  simp only [Value.slice.injEq] at h5
  obtain ⟨rfl,rfl,rfl⟩:=h5
  refine ⟨_,_,hc,a'',cap-lo,?_,?_⟩
  ·rw [h8];simp only [List.length_take,List.length_drop];congr 1;omega
  ·simp only [List.length_take,List.length_drop];omega
 ·simp at h
theorem asA{t t2:TypeId}{a':Option Addr}{len cap:Nat}{el:TypeId}(hu:P.underlying t=some (.slice el))(ts:Array TypeId)(ht:ts[0]?=some t) :
  (Builtin.len_ ts t2 #[.slice a' len cap]).run P w=.ok (.int .i64 len) w:=by
 simp [Builtin.len_,ht,bO hu,goInt]
theorem nY{args:Array Operand}{l:List Value}(h:args.toList.map a.eval=l):args.map a.eval=l.toArray:=by
 rw [←h];apply Array.ext';simp
theorem apB(hT:gq P V)(R:Rel w0 M0 n C0 C s a w){args:Array Operand}{ts:Array TypeId}(ho:o.op=.call { callee:=.builtin .len,args:=args,argTypes:=ts })
  (h:bC V o s.tmps s.roots c=some r):∃x,c x=some r∧Does P w0 M0 n C0 s a w o x:=by
 simp only [bC,ho] at h
 unfold fH at h
 split at h
 case h_1 x e1 e2=>
  obtain ⟨y,hy1,hy2⟩:∃y,args.toList=[y]∧bf s.tmps y=x:=by
   match hh:args.toList,e2 with
   |[y],e2=>exact ⟨y,rfl,by simpa using e2⟩
  have hx:=R.eval y
  rw [hy2] at hx
  have hargs:args.map a.eval = #[a.eval y]:=nY (by rw [hy1];rfl)
  split at h
  ·rename_i e hk
   obtain ⟨t,ht,hk⟩:∃t,ts[0]?=some t∧V.k t=some (.sl e):=by
    cases hh:ts[0]? with
    |none=>simp [hh] at hk
    |some t=>exact ⟨t,rfl,by simpa [hh] using hk⟩
   obtain ⟨ti,hti,hk'⟩:=Env.wz hk
   obtain ⟨d,hd,hD⟩:=(hT.ty _ _ hti).desc
   simp only [DOK,hk'] at hD
   obtain ⟨rfl,_⟩:=hD
   have key:∀(a':Option Addr)(len cap:Nat),a.eval y=.slice a' len cap→(execOp a.eval o).run P w=.ok (.value (.int .i64 len)) w:=by
    intro a' len cap hv
    simp only [execOp,ho,resolve,Sem.run_bind,Sem.run_pure,Result.andThen_ok,invoke,builtin,hargs,hv,asA hd ts ht]
   unfold SS at h
   split at h
   ·rename_i q p lo nn
    obtain ⟨⟨v',v0,hvv,hroot⟩,_⟩:=hx.cell (by simp) rfl (by simp) (by simp)
    simp only [List.cons.injEq,and_true] at hvv
-- the value's own length: of a part of a slice it is known only where the root is there
    split at h
    case h_2=>simp at h
    case h_1 xx hxx=>
    obtain ⟨e',base,g1,g2,g3,g4⟩:=hroot xx hxx
    obtain ⟨aa,N,cc,a'',h5,h6,h7,h8,h9⟩:=g4
    exact ⟨_,h,Does.plain R (key _ _ _ (hvv.trans h8)) (bH.mkInt _ _)⟩
   ·obtain ⟨xs,m,g1,a',cap,g2,_⟩:=PI R hx h
    exact ⟨_,g1,Does.plain R (key _ _ _ g2) (bH.mkInt _ _)⟩
  ·rename_i hk
   obtain ⟨t,ht,hk⟩:∃t,ts[0]?=some t∧V.k t=some .str:=by
    cases hh:ts[0]? with
    |none=>simp [hh] at hk
    |some t=>exact ⟨t,rfl,by simpa [hh] using hk⟩
   obtain ⟨ti,hti,hk'⟩:=Env.wz hk
   obtain ⟨d,hd,hD⟩:=(hT.ty _ _ hti).desc
   simp only [DOK,hk'] at hD
   subst hD
   split at h
   ·rename_i z str
    have hx:=hx.str
    exact ⟨_,h,Does.plain R (v:=.int .i64 (str.size:Int)) (by
     simp only [execOp,ho,resolve,Sem.run_bind,Sem.run_pure,Result.andThen_ok,invoke,builtin,hargs,hx]
     simp [Builtin.len_,ht,bO hd,goInt]) (bH.mkInt _ _)⟩
   ·simp at h
  ·simp at h
 all_goals simp_all
theorem apD(R:Rel w0 M0 n C0 C s a w){args:Array Operand}{ts:Array TypeId}(ho:o.op=.call { callee:=.builtin .min,args:=args,argTypes:=ts })
  (h:bC V o s.tmps s.roots c=some r):∃x,c x=some r∧Does P w0 M0 n C0 s a w o x:=by
 simp only [bC,ho] at h
 unfold fH at h
 split at h
 case h_4 z1 k x z2 k' y e1 e2=>
  obtain ⟨o1,o2,hy1,hx1,hx2⟩:∃o1 o2,args.toList=[o1,o2]∧bf s.tmps o1=.imm z1 (.int k) x∧bf s.tmps o2=.imm z2 (.int k') y:=by
   generalize args.toList=L at e2
   cases L with
   |nil=>simp at e2
   |cons o1 L=>cases L with
    |nil=>simp at e2
    |cons o2 L=>cases L with
     |nil=>simp only [List.map_cons,List.map_nil,List.cons.injEq,and_true] at e2;exact ⟨o1,o2,rfl,e2.1,e2.2⟩
     |cons _ _=>simp at e2
  split at h
  case isFalse=>simp at h
  case isTrue hk=>
  subst hk
  have hv1:=R.eval o1
  have hv2:=R.eval o2
  rw [hx1] at hv1
  rw [hx2] at hv2
  have hargs:args.map a.eval = #[a.eval o1,a.eval o2]:=nY (by rw [hy1];rfl)
  refine ⟨_,h,Does.plain R (v:=.int k (if (show Int from y)<(show Int from x) then (show Int from y) else (show Int from x))) ?_ (bH.mkInt _ _)⟩
  simp only [execOp,ho,resolve,Sem.run_bind,Sem.run_pure,Result.andThen_ok,invoke,builtin,hargs,hv1.int,hv2.int]
  simp [Builtin.min_,Builtin.min2]
 all_goals simp_all
theorem apC(R:Rel w0 M0 n C0 C s a w){args:Array Operand}{ts:Array TypeId}(ho:o.op=.call { callee:=.builtin .max,args:=args,argTypes:=ts })
  (h:bC V o s.tmps s.roots c=some r):∃x,c x=some r∧Does P w0 M0 n C0 s a w o x:=by
 simp only [bC,ho] at h
 unfold fH at h
 split at h
 case h_5 z1 k x z2 k' y e1 e2=>
  obtain ⟨o1,o2,hy1,hx1,hx2⟩:∃o1 o2,args.toList=[o1,o2]∧bf s.tmps o1=.imm z1 (.int k) x∧bf s.tmps o2=.imm z2 (.int k') y:=by
   generalize args.toList=L at e2
   cases L with
   |nil=>simp at e2
   |cons o1 L=>cases L with
    |nil=>simp at e2
    |cons o2 L=>cases L with
     |nil=>simp only [List.map_cons,List.map_nil,List.cons.injEq,and_true] at e2;exact ⟨o1,o2,rfl,e2.1,e2.2⟩
     |cons _ _=>simp at e2
  split at h
  case isFalse=>simp at h
  case isTrue hk=>
  subst hk
  have hv1:=R.eval o1
  have hv2:=R.eval o2
  rw [hx1] at hv1
  rw [hx2] at hv2
  have hargs:args.map a.eval = #[a.eval o1,a.eval o2]:=nY (by rw [hy1];rfl)
  refine ⟨_,h,Does.plain R (v:=.int k (if (show Int from x)<(show Int from y) then (show Int from y) else (show Int from x))) ?_ (bH.mkInt _ _)⟩
  simp only [execOp,ho,resolve,Sem.run_bind,Sem.run_pure,Result.andThen_ok,invoke,builtin,hargs,hv1.int,hv2.int]
  simp [Builtin.max_,Builtin.max2]
 all_goals simp_all
theorem apA(hT:gq P V)(R:Rel w0 M0 n C0 C s a w){args:Array Operand}{ts:Array TypeId}(ho:o.op=.call { callee:=.builtin .cap,args:=args,argTypes:=ts })
  (h:bC V o s.tmps s.roots c=some r):∃x,c x=some r∧Does P w0 M0 n C0 s a w o x:=by
 simp only [bC,ho] at h
 unfold fH at h
 split at h
 case h_3 e1 e2=>
  obtain ⟨y,hy1,hy2⟩:∃y,args.toList=[y]∧bf s.tmps y=.nil:=by
   generalize args.toList=L at e2
   cases L with
   |nil=>simp at e2
   |cons y L=>cases L with
    |nil=>exact ⟨y,rfl,by simpa using e2⟩
    |cons _ _=>simp at e2
  have hx:=R.eval y
  rw [hy2] at hx
  have hargs:args.map a.eval = #[a.eval y]:=nY (by rw [hy1];rfl)
  obtain ⟨hvv,_⟩:=hx.cell (by simp) rfl (by simp) (by simp)
  have hvv:[a.eval y]=[.slice none 0 0]:=hvv
  have hv:a.eval y=.slice none 0 0:=by simpa using hvv
  split at h
  ·rename_i e hk
   obtain ⟨t,ht,hk⟩:∃t,ts[0]?=some t∧V.k t=some (.sl e):=by
    cases hh:ts[0]? with
    |none=>simp [hh] at hk
    |some t=>exact ⟨t,rfl,by simpa [hh] using hk⟩
   obtain ⟨ti,hti,hk'⟩:=Env.wz hk
   obtain ⟨d,hd,hD⟩:=(hT.ty _ _ hti).desc
   simp only [DOK,hk'] at hD
   obtain ⟨rfl,_⟩:=hD
   exact ⟨_,h,Does.plain R (v:=.int .i64 0) (by
    simp only [execOp,ho,resolve,Sem.run_bind,Sem.run_pure,Result.andThen_ok,invoke,builtin,hargs,hv]
    simp [Builtin.cap_,ht,bO hd,goInt]) (bH.mkInt _ _)⟩
  ·simp at h
 all_goals simp_all
theorem run_indexAt{t el:TypeId}{i:TypeInfo}{b off len cap:Nat}{k:IntKind}{j:Int}(hu:P.underlying t=some (.slice el))(hi:P.info? el=some i)
  (h0:0≤j) (h1:j<len):(Instr.indexAt t (.slice (some ⟨b,off,none⟩) len cap) (.int k j)).run P w=.ok (.pointer (some ⟨b,off+j.toNat*i.size,none⟩)) w:=by
 unfold Instr.indexAt
 simp only [asIntOf,Sem.run_bind,Sem.run_pure,Result.andThen_ok,bO hu]
 rw [if_pos ⟨h0,h1⟩]
 simp only [Sem.run_bind,pY hi,Result.andThen_ok,Sem.run_pure,addr_add]
theorem Vr{θ:ay→Nat}{Z S:BS}{e:K}{m:Mask}{xs:List e.den}{v:Value}{F:BS}(h:Enc w θ Z S (.sl e) m xs [v] F)(hm:m≠.gone){i:Nat}(hi:i<xs.length) :
  ∃b off cap cs T fz,v=.slice (some ⟨b,off,none⟩) xs.length cap∧w.heap[b]?=some (.cells cs T fz)∧xs.length≤cap:=by
 rcases h with ⟨h,_⟩|⟨_,rfl,a,h⟩|⟨_,b,off,cap,cs,T,fz,h,hc,hle,_⟩
 ·exact absurd h hm
 ·simp at hi
 ·simp only [List.cons.injEq,and_true] at h
  exact ⟨b,off,cap,cs,T,fz,h,hc,hle⟩
theorem Oo(hT:gq P V)(R:Rel w0 M0 n C0 C s a w){t:TypeId}{x y:Operand}(ho:o.op=.indexAddr t x y)
  (h:bC V o s.tmps s.roots c=some r):∃x,c x=some r∧Calm P C s a w o x:=by
 simp only [bC,ho] at h
 have hx:=R.eval x
 have hy:=R.eval y
 split at h
 case h_2=>simp at h
 case h_1 _ _ e z ik j ek ey=>
 rw [ey] at hy
 have hy:=hy.int
 obtain ⟨ti,hti,hk⟩:=Env.wz ek
 obtain ⟨d,hd,hD⟩:=(hT.ty _ _ hti).desc
 simp only [DOK,hk] at hD
 obtain ⟨rfl,te,hte,rfl,hsz⟩:=hD
 obtain ⟨i,zv,hi,his,_⟩:=(hT.ty _ _ hte).info
 have key:∀(b off len cap:Nat),a.eval x=.slice (some ⟨b,off,none⟩) len cap→0≤j→j<len →
   ∀w:World,(execOp a.eval o).run P w=.ok (.value (.pointer (some ⟨b,off+j.toNat*te.k.size,none⟩))) w:=by
  intro b off len cap hv h0 h1 w
  simp only [execOp,ho,hv,hy,Sem.run_bind,run_indexAt hd hi h0 h1,Result.andThen_ok,Sem.run_pure,his]
 unfold yB at h
 split at h
 ·rename_i z k' xs e1
  rw [e1] at hx
  split at h
  case isFalse=>simp at h
  case isTrue hk'=>
  subst hk'
  split at h
  case isFalse=>simp at h
  case isTrue hb=>
  obtain ⟨hA,_⟩:=hx.cell (by simp) rfl (by simp) (by simp)
  have hlt:j.toNat<List.length xs:=(Int.toNat_lt hb.1).2 hb.2
  obtain ⟨b,off,cap,cs,T,fz,g1,g2,g3⟩:=Vr hA.2 (by simp) hlt
  refine ⟨_,h,Calm.plain (key b off _ cap g1 hb.1 hb.2) (bH.mk ⟨[a.eval x],b,off+j.toNat*te.k.size,lM w b (off+j.toNat*te.k.size) te.k.size,te.k,hA.1,hA.2,?_,?_,rfl,?_,rfl⟩ rfl rfl)⟩
  ·show te.k.at []=_;exact at_nil _
  ·exact ⟨by simp,_,List.getElem?_eq_getElem hlt,dP _ _ _⟩
  ·rw [g1];show eU w te.k _ _ []=_;exact cZ _ _ _ _
 ·rename_i q p e1
  rw [e1] at hx
  obtain ⟨⟨v',hvv,hroot⟩,_⟩:=hx.cell (by simp) rfl (by simp) (by simp)
  simp only [List.cons.injEq,and_true] at hvv
  subst hvv
  unfold iB at h
  simp only at h
  split at h
  case h_1=>simp at h
  case h_2 xr hxr=>
  have hxr:s.roots q=some xr:=hxr
  obtain ⟨k',d,m,vs,b1,hp,hc⟩:=iw (R.mem.ok _ _ hxr) h
  obtain ⟨e',base,g1,g2,g3⟩:=hroot xr hxr
  split at hc
  case isFalse=>simp at hc
  case isTrue hk'=>
  subst hk'
  cases hl:m.live with
  |false=>simp [hl] at hc
  |true=>
  simp only [hl,cond_true] at hc
  have hlc:=hp.lc;rw [g3] at hlc
  simp only [Option.some.injEq,Prod.mk.injEq] at hlc
  obtain ⟨rfl,rfl⟩:=hlc
  obtain ⟨F,henc⟩:=hp.enc
  split at hc
  case isFalse=>simp at hc
  case isTrue hb=>
  have hlt:j.toNat<List.length d:=(Int.toNat_lt hb.1).2 hb.2
  obtain ⟨b,off,cap,cs,T,fz,f1,f2,f3⟩:=Vr henc (Mask.qD hl) hlt
  refine ⟨_,hc,Calm.plain (key b off _ cap f1 hb.1 hb.2) (bH.mk ⟨b,off+j.toNat*te.k.size,rfl,fun hp0=>by simp at hp0,fun y' hy'=>?_⟩ rfl rfl)⟩
  rw [hxr] at hy';cases hy'
  refine ⟨te.k,lM w b (off+j.toNat*te.k.size) te.k.size,by rw [K.lG,hp.at_];exact at_nil _,uL hp.get ⟨Mask.qD hl,_,List.getElem?_eq_getElem hlt,dP _ _ _⟩,?_⟩
  rw [lY _ _ hp.at_ hp.lc,f1]
  show eU w te.k _ _ []=_
  exact cZ _ _ _ _
 ·rename_i q p lo nn e1
  rw [e1] at hx
  obtain ⟨⟨v',v0,hvv,hroot⟩,_⟩:=hx.cell (by simp) rfl (by simp) (by simp)
  simp only [List.cons.injEq,and_true] at hvv
  subst hvv
  unfold iB at h
  simp only at h
  split at h
  case h_1=>simp at h
  case h_2 xr hxr=>
  have hxr:s.roots q=some xr:=hxr
  obtain ⟨k',d,m,vs,b1,hp,hc⟩:=iw (R.mem.ok _ _ hxr) h
  obtain ⟨e',base,g1,g2,g3,g4⟩:=hroot xr hxr
  split at hc
  case isFalse=>simp at hc
  case isTrue hk'=>
  subst hk'
  cases hl:m.live with
  |false=>simp [hl] at hc
  |true=>
  simp only [hl,cond_true] at hc
  have hlc:=hp.lc;rw [g3] at hlc
  simp only [Option.some.injEq,Prod.mk.injEq] at hlc
  obtain ⟨rfl,rfl⟩:=hlc
  obtain ⟨F,henc⟩:=hp.enc
  split at hc
  case isFalse=>simp at hc
  case isTrue hb=>
  have hee:e'=te.k:=by have:=hp.at_;rw [g1] at this;simpa using this
  subst hee
  obtain ⟨aa,N,cc,a'',h5,h6,h7,h8,h9⟩:=g4
  have hN:N=List.length d:=by
   obtain ⟨a',cap,f1,_⟩:=yX henc (Mask.qD hl)
   rw [h5] at f1;simp only [Value.slice.injEq] at f1;exact f1.2.1
  have hlt:lo+j.toNat<List.length d:=by omega
  obtain ⟨b,off,cap,cs,T,fz,f1,f2,f3⟩:=Vr henc (Mask.qD hl) hlt
  rw [h5] at f1
  simp only [Value.slice.injEq] at f1
  obtain ⟨rfl,rfl,rfl⟩:=f1
  have ha'':=h9 (by omega)
  simp only [Option.map_some,addr_add] at ha''
  rw [ha''] at h8
  have e3:off+lo*te.k.size+j.toNat*te.k.size=off+(lo+j.toNat)*te.k.size:=by rw [Nat.add_mul];omega
  refine ⟨_,hc,Calm.plain (key b (off+lo*te.k.size) _ _ h8 hb.1 hb.2) (bH.mk ⟨b,off+(lo+j.toNat)*te.k.size,by rw [e3],fun hp0=>by simp at hp0,fun y' hy'=>?_⟩ rfl rfl)⟩
  rw [hxr] at hy';cases hy'
  refine ⟨te.k,lM w b (off+(lo+j.toNat)*te.k.size) te.k.size,by rw [K.lG,hp.at_];exact at_nil _,uL hp.get ⟨Mask.qD hl,_,List.getElem?_eq_getElem hlt,dP _ _ _⟩,?_⟩
  rw [lY _ _ hp.at_ hp.lc,h5]
  show eU w te.k _ _ []=_
  exact cZ _ _ _ _
 ·simp at h
theorem ab6(hT:gq P V)(R:Rel w0 M0 n C0 C s a w){t:TypeId}{x y:Operand}(ho:o.op=.indexAddr t x y)
  (h:bC V o s.tmps s.roots c=some r):∃x,c x=some r∧Does P w0 M0 n C0 s a w o x:=zH R (Oo hT R ho h)
theorem alg(hT:gq P V)(R:Rel w0 M0 n C0 C s a w){t:TypeId}{x y:Operand}(ho:o.op=.index t x y)
  (h:bC V o s.tmps s.roots c=some r):∃x,c x=some r∧Does P w0 M0 n C0 s a w o x:=by
 simp only [bC,ho] at h
 have hx:=R.eval x
 have hy:=R.eval y
 split at h
 case h_2=>simp at h
 case h_1 _ _ _ z str z' ik j ek ex ey=>
 rw [ey] at hy
 have hy:=hy.int
 rw [ex] at hx
 have hx:=hx.str
 obtain ⟨ti,hti,hk⟩:=Env.wz ek
 obtain ⟨d,hd,hD⟩:=(hT.ty _ _ hti).desc
 simp only [DOK,hk] at hD
 subst hD
 split at h
 case isFalse=>simp at h
 case isTrue h0=>
 split at h
 case h_2=>simp at h
 case h_1 b hb=>
 exact ⟨_,h,Does.plain R (v:=.int .u8 (b.toNat:Int)) (by
  simp only [execOp,ho,hx,hy,Instr.index,asIntOf,Sem.run_bind,Sem.run_pure,Result.andThen_ok,bO hd,if_pos h0,hb]) (bH.mkInt _ _)⟩
theorem sU{x:Value}{k:IntKind}{i:Int}{y:Nat}{code:BoundsCode}(hx:x=.int k i)(h0:0≤i)(h1:i≤y):(Instr.sliceBound x y code).run P w=.ok i.toNat w:=by
 subst hx
 unfold Instr.sliceBound
 simp only [asIntOf,Sem.run_bind,Sem.run_pure,Result.andThen_ok,if_pos (And.intro h0 h1)]
theorem jq(R:Rel w0 M0 n C0 C s a w){x:Option Operand}{dflt:Int}{R':Type}{r:R'}{c:Int→Option R'}(h:nX (x.map (bf s.tmps)) dflt c=some r) :
  ∃i,c i=some r∧((x=none∧i=dflt)∨∃y k,x=some y∧a.eval y=.int k i):=by
 cases x with
 |none=>exact ⟨_,h,.inl ⟨rfl,rfl⟩⟩
 |some y=>
  simp only [Option.map_some] at h
  unfold nX at h
  split at h
  ·rename_i heq;cases heq
  ·rename_i z k i heq
   simp only [Option.some.injEq] at heq
   have hy:=R.eval y
   rw [heq] at hy
   exact ⟨i,h,.inr ⟨y,k,rfl,hy.int⟩⟩
  ·simp at h
theorem M9{isSlice:Bool}{len cap:Nat}{lo hi:Option Operand}{l h:Int}
  (hl:(lo=none∧l=0)∨∃y k,lo=some y∧a.eval y=.int k l) (hh:(hi=none∧h=len)∨∃y k,hi=some y∧a.eval y=.int k h)
  (h0:0≤l) (h1:l≤h) (h2:h≤len) (h3:len≤cap) :
  (Instr.sliceBounds isSlice len cap (lo.map a.eval) (hi.map a.eval) none).run P w=.ok (l.toNat,h.toNat,cap) w:=by
 unfold Instr.sliceBounds
 rcases hh with ⟨rfl,rfl⟩|⟨y,k,rfl,hy⟩<;>rcases hl with ⟨rfl,rfl⟩|⟨y',k',rfl,hy'⟩
 ·simp
 ·simp only [Option.map_none,Option.map_some,Sem.run_bind,Sem.run_pure,Result.andThen_ok,sU hy' h0 h1];simp
 ·simp only [Option.map_none,Option.map_some,Sem.run_bind,Sem.run_pure,Result.andThen_ok]
  rw [sU hy (by omega) (by omega)];simp
 ·simp only [Option.map_some,Sem.run_bind,Sem.run_pure,Result.andThen_ok]
  rw [sU hy (by omega) (by omega)]
  simp only [Result.andThen_ok,Option.isSome_none,sU (y:=h.toNat) hy' h0 (by omega)]
theorem adM{t el:TypeId}{i:TypeInfo}{a':Option Addr}{len cap:Nat}{lo hi:Option Operand}{l h:Int}(hu:P.underlying t=some (.slice el))(hi':P.info? el=some i)
  (hl:(lo=none∧l=0)∨∃y k,lo=some y∧a.eval y=.int k l) (hh:(hi=none∧h=len)∨∃y k,hi=some y∧a.eval y=.int k h)
  (h0:0≤l) (h1:l≤h) (h2:h≤len) (h3:len≤cap) :
  (Instr.sliceAt t (.slice a' len cap) (lo.map a.eval) (hi.map a.eval) none).run P w =
   .ok (.slice (if cap=l.toNat then a' else a'.map (·.add (l.toNat*i.size))) (h.toNat-l.toNat) (cap-l.toNat)) w:=by
 unfold Instr.sliceAt Instr.slice
 simp only [Sem.run_bind,bO hu,Result.andThen_ok,M9 hl hh h0 h1 h2 h3,pY hi',Sem.run_pure]
theorem alh(hT:gq P V)(R:Rel w0 M0 n C0 C s a w){t:TypeId}{x:Operand}{lo hi mx:Option Operand}(ho:o.op=.slice t x lo hi mx)
  (h:bC V o s.tmps s.roots c=some r):∃x,c x=some r∧Does P w0 M0 n C0 s a w o x:=by
 simp only [bC,ho] at h
 have hx:=R.eval x
 unfold A9 at h
 cases mx with
 |some m=>
  simp only [Option.map_some] at h
  split at h
  case h_3 heq=>cases heq
  case h_2=>simp at h
  case h_1 zm km m' heq=>
  simp only [Option.some.injEq] at heq
  have hm:=R.eval m
  rw [heq] at hm
  have hm:=hm.int
  split at h
  case h_3=>simp at h
  case h_2 zl kl l' zh kh h' e1 e2=>
   cases lo with
   |none=>cases e1
   |some ll=>
   cases hi with
   |none=>cases e2
   |some hh=>
   simp only [Option.map_some,Option.some.injEq] at e1 e2
   have hll:=R.eval ll
   rw [e1] at hll
   have hll:=hll.int
   have hhh:=R.eval hh
   rw [e2] at hhh
   have hhh:=hhh.int
   split at h
   case h_2=>simp at h
   case h_1 e ek=>
   obtain ⟨ti,hti,hk⟩:=Env.wz ek
   obtain ⟨d,hd,hD⟩:=(hT.ty _ _ hti).desc
   simp only [DOK,hk] at hD
   obtain ⟨rfl,te,hte,rfl,hsz⟩:=hD
   obtain ⟨i,zv,hii,his,_⟩:=(hT.ty _ _ hte).info
   obtain ⟨xs,mm,g1,a',cap,g2,g3⟩:=PI R hx h
   split at g1
   case isFalse=>simp at g1
   case isTrue hz=>
   have key:∀(l2 h2 m2:Int),a.eval ll=.int kl l2→a.eval hh=.int kh h2→a.eval m=.int km m2→0≤l2→l2≤h2→h2≤m2→m2≤(xs.length:Int) →
     (execOp a.eval o).run P w=.ok (.value (.slice (if m2.toNat=l2.toNat then a' else a'.map (·.add (l2.toNat*i.size))) (h2.toNat-l2.toNat) (m2.toNat-l2.toNat))) w:=by
    intro l2 h2 m2 q1 q2 q3 i0 i1 i2 i3
    simp only [execOp,ho,g2,Instr.sliceAt,Instr.slice,Instr.sliceBounds,Option.map_some,Sem.run_bind,bO hd,Result.andThen_ok,
     sU (y:=cap) q3 (by omega) (by omega)]
    rw [sU q2 (by omega) (by omega)]
    simp only [Result.andThen_ok]
    rw [sU q1 (by omega) (by omega)]
    simp [pY hii]
   exact ⟨_,g1,Does.plain R (key _ _ _ hll hhh hm hz.1 hz.2.1 hz.2.2.1 hz.2.2.2) bH.dead⟩
  case h_1 zh kh h' e1 e2=>
  cases lo with
  |some _=>cases e1
  |none=>
  cases hi with
  |none=>cases e2
  |some hh=>
  simp only [Option.map_some,Option.some.injEq] at e2
  have hhh:=R.eval hh
  rw [e2] at hhh
  have hhh:=hhh.int
  split at h
  case h_2=>simp at h
  case h_1 e ek=>
  obtain ⟨ti,hti,hk⟩:=Env.wz ek
  obtain ⟨d,hd,hD⟩:=(hT.ty _ _ hti).desc
  simp only [DOK,hk] at hD
  obtain ⟨rfl,te,hte,rfl,hsz⟩:=hD
  obtain ⟨i,zv,hii,his,_⟩:=(hT.ty _ _ hte).info
  obtain ⟨xs,mm,g1,a',cap,g2,g3⟩:=PI R hx h
  split at g1
  case isFalse=>simp at g1
  case isTrue hz=>
  obtain ⟨rfl,rfl⟩:=hz
  refine ⟨_,g1,Does.plain R (v:=.slice a' 0 0) ?_ (bH.mk ⟨a',rfl⟩ rfl rfl)⟩
  simp only [execOp,ho,g2,Instr.sliceAt,Instr.slice,Instr.sliceBounds,Option.map_some,Option.map_none,Sem.run_bind,bO hd,Result.andThen_ok,
   sU hm (Int.le_refl 0) (Int.natCast_nonneg _),Int.toNat_zero]
  rw [sU hhh (Int.le_refl 0) (Int.le_refl 0)]
  simp [pY hii]
 |none=>
  simp only [Option.map_none] at h
  split at h
  case h_3=>simp at h
  ·rename_i ek
   obtain ⟨ti,hti,hk⟩:=Env.wz ek
   obtain ⟨d,hd,hD⟩:=(hT.ty _ _ hti).desc
   simp only [DOK,hk] at hD
   subst hD
   split at h
   case h_2=>simp at h
   case h_1 z str e1=>
   rw [e1] at hx
   have hx:=hx.str
   obtain ⟨l,hA1,hl⟩:=jq R h
   obtain ⟨hh,hA2,hhh⟩:=jq R hA1
   split at hA2
   case isFalse=>simp at hA2
   case isTrue hb=>
   obtain ⟨h0,h1,h2⟩:=hb
   refine ⟨_,hA2,Does.plain R (v:=.string (str.extract l.toNat hh.toNat)) ?_ (bH.mkStr _)⟩
   simp only [execOp,ho,hx,Instr.sliceAt,Instr.slice,Option.map_none,Option.isSome_none,Bool.false_eq_true,if_false,Sem.run_bind,bO hd,Result.andThen_ok,
    M9 (isSlice:=false) (cap:=str.size) hl hhh h0 h1 h2 (Nat.le_refl _),Sem.run_pure]
  ·rename_i e ek
   obtain ⟨ti,hti,hk⟩:=Env.wz ek
   obtain ⟨d,hd,hD⟩:=(hT.ty _ _ hti).desc
   simp only [DOK,hk] at hD
   obtain ⟨rfl,te,hte,rfl,hsz⟩:=hD
   obtain ⟨i,zv,hii,his,_⟩:=(hT.ty _ _ hte).info
   have key:∀{a':Option Addr}{len cap:Nat}{l hh:Int},a.eval x=.slice a' len cap →
     ((lo=none∧l=0)∨∃y k,lo=some y∧a.eval y=.int k l)→((hi=none∧hh=len)∨∃y k,hi=some y∧a.eval y=.int k hh) →
     0≤l→l≤hh→hh≤len→len≤cap→(execOp a.eval o).run P w=.ok (.value (.slice (if cap=l.toNat then a' else a'.map (·.add (l.toNat*te.k.size))) (hh.toNat-l.toNat) (cap-l.toNat))) w:=by
    intro a' len cap l hh hv hl hhh h0 h1 h2 h3
    simp only [execOp,ho,hv,Option.map_none,Sem.run_bind,adM hd hii hl hhh h0 h1 h2 h3,Result.andThen_ok,Sem.run_pure,his]
   split at h
   ·rename_i e1
    rw [e1] at hx
    obtain ⟨l,hA1,hl⟩:=jq R h
    obtain ⟨hh,hA2,hhh⟩:=jq R hA1
    split at hA2
    case isFalse=>simp at hA2
    case isTrue hb=>
    obtain ⟨rfl,rfl⟩:=hb
    refine ⟨_,hA2,Does.plain R (key hx.nil hl (by simpa using hhh) (Int.le_refl _) (Int.le_refl _) (Int.le_refl _) (Nat.le_refl _)) (bH.mk rfl rfl rfl)⟩
   ·rename_i z k xs e1
    rw [e1] at hx
    split at h
    case isFalse=>simp at h
    case isTrue hk'=>
    subst hk'
    obtain ⟨l,hA1,hl⟩:=jq R h
    obtain ⟨hh,hA2,hhh⟩:=jq R hA1
    split at hA2
    case isFalse=>simp at hA2
    case isTrue hb=>
    obtain ⟨h0,h1,h2⟩:=hb
    have h2:hh≤(List.length xs:Int):=h2
    have hhh:(hi=none∧hh=(List.length xs:Int))∨∃y k,hi=some y∧a.eval y=.int k hh:=hhh
    obtain ⟨hA,_⟩:=hx.cell (by simp) rfl (by simp) (by simp)
    obtain ⟨a',cap,f1,f2,f3⟩:=yX hA.2 (by simp)
    refine ⟨_,hA2,Does.plain R (key f1 hl hhh h0 h1 h2 f2) (bH.mk ⟨hA.1,?_⟩ rfl rfl)⟩
    have hlen:(List.take (hh-l).toNat (List.drop l.toNat xs)).length=hh.toNat-l.toNat:=by
     simp only [List.length_take,List.length_drop];omega
    have hE:=hA.2
    rcases hE with ⟨hg,_⟩|⟨_,rfl,aa,hv⟩|⟨hm,b,off,cap',cs,T,fz,hv,hc,hle,hs,hok,G,hG,hd',hel⟩
    ·cases hg
    ·have hl0:l=0:=by simp at h2;omega
     have hh0:hh=0:=by simp at h2;omega
     subst hl0 hh0
     simp only [List.cons.injEq,and_true] at hv
     rw [hv] at f1;simp only [Value.slice.injEq] at f1
     obtain ⟨rfl,_,rfl⟩:=f1
     exact .inr (.inl ⟨by simp,by simp,_,by simp;rfl⟩)
    ·simp only [List.cons.injEq,and_true] at hv
     rw [hv] at f1;simp only [Value.slice.injEq] at f1
     obtain ⟨rfl,_,rfl⟩:=f1
     by_cases hcl:cap'=l.toNat
     ·have:List.take (hh-l).toNat (List.drop l.toNat xs)=[]:=by
       apply List.eq_nil_of_length_eq_zero;rw [hlen];omega
      refine .inr (.inl ⟨by simp,this,some ⟨b,off,none⟩,?_⟩)
      rw [if_pos hcl,show hh.toNat-l.toNat=0 by omega,show cap'-l.toNat=0 by omega]
     ·refine .inr (.inr ⟨by simp,b,off+l.toNat*te.k.size,cap'-l.toNat,cs,T,fz,?_,hc,by rw [hlen];omega,?_,hok,fun _=>noB,fun _=>⟨fun _ x=>x.elim,fun x=>x⟩,fun _ _ _ _ x=>x.elim,fun i' y hy=>?_⟩)
      ·rw [if_neg hcl,hlen];simp [addr_add]
      ·have:l.toNat*te.k.size+(cap'-l.toNat)*te.k.size=cap'*te.k.size:=by rw [←Nat.add_mul];congr 1;omega
       omega
      ·rw [List.getElem?_take] at hy
       split at hy
       ·rw [List.getElem?_drop] at hy
        have:=hel _ _ hy
        rw [show off+l.toNat*te.k.size+i'*te.k.size=off+(l.toNat+i')*te.k.size by rw [Nat.add_mul];omega]
        have h9:=Enc.ro (G:=noB) z this
        rw [Bool.and_self] at h9;exact h9
       ·simp at hy
   ·rename_i q p e1
    rw [e1] at hx
    obtain ⟨⟨v',hvv,hroot⟩,_⟩:=hx.cell (by simp) rfl (by simp) (by simp)
    simp only [List.cons.injEq,and_true] at hvv
    subst hvv
    unfold iB at h
    simp only at h
    split at h
    case h_1=>simp at h
    case h_2 xr hxr=>
    have hxr:s.roots q=some xr:=hxr
    obtain ⟨k',d,m,vs,b1,hp,hc⟩:=iw (R.mem.ok _ _ hxr) h
    obtain ⟨e',base,g1,g2,g3⟩:=hroot xr hxr
    split at hc
    case isFalse=>simp at hc
    case isTrue hk'=>
    subst hk'
    cases hl':m.live with
    |false=>simp [hl'] at hc
    |true=>
    simp only [hl',cond_true] at hc
    have hlc:=hp.lc;rw [g3] at hlc
    simp only [Option.some.injEq,Prod.mk.injEq] at hlc
    obtain ⟨rfl,rfl⟩:=hlc
    obtain ⟨F,henc⟩:=hp.enc
    obtain ⟨l,hA1,hl⟩:=jq R hc
    obtain ⟨hh,hA2,hhh⟩:=jq R hA1
    split at hA2
    case isFalse=>simp at hA2
    case isTrue hb=>
    obtain ⟨h0,h1,h2⟩:=hb
    obtain ⟨a',cap,f1,f2,f3⟩:=yX henc (Mask.qD hl')
    refine ⟨_,hA2,Does.plain R (key f1 hl hhh h0 h1 h2 f2) (bH.mk ⟨_,a.eval x,rfl,fun y' hy'=>?_⟩ rfl rfl)⟩
    rw [hxr] at hy';cases hy'
    refine ⟨te.k,base,hp.at_,hp.can,hp.lc,a',_,cap,_,f1,by omega,f2,by congr 1;omega,fun hpos=>?_⟩
    rw [if_neg (by omega)]
   ·rename_i q p lo0 nn e1
    rw [e1] at hx
    obtain ⟨⟨v',v0,hvv,hroot⟩,_⟩:=hx.cell (by simp) rfl (by simp) (by simp)
    simp only [List.cons.injEq,and_true] at hvv
    subst hvv
    unfold iB at h
    simp only at h
    split at h
    case h_1=>simp at h
    case h_2 xr hxr=>
    have hxr:s.roots q=some xr:=hxr
    obtain ⟨k',d,m,vs,b1,hp,hc⟩:=iw (R.mem.ok _ _ hxr) h
    obtain ⟨e',base,g1,g2,g3,g4⟩:=hroot xr hxr
    split at hc
    case isFalse=>simp at hc
    case isTrue hk'=>
    subst hk'
    cases hl':m.live with
    |false=>simp [hl'] at hc
    |true=>
    simp only [hl',cond_true] at hc
    have hlc:=hp.lc;rw [g3] at hlc
    simp only [Option.some.injEq,Prod.mk.injEq] at hlc
    obtain ⟨rfl,rfl⟩:=hlc
    obtain ⟨l,hA1,hl⟩:=jq R hc
    obtain ⟨hh,hA2,hhh⟩:=jq R hA1
    split at hA2
    case isFalse=>simp at hA2
    case isTrue hb=>
    obtain ⟨h0,h1,h2⟩:=hb
    have hee:e'=te.k:=by have:=hp.at_;rw [g1] at this;simpa using this
    subst hee
    obtain ⟨aa,N,cc,a'',h5,h6,h7,h8,h9⟩:=g4
    refine ⟨_,hA2,Does.plain R (key h8 hl hhh h0 h1 h2 (by omega)) (bH.mk ⟨_,v0,rfl,fun y' hy'=>?_⟩ rfl rfl)⟩
    rw [hxr] at hy';cases hy'
    refine ⟨te.k,base,hp.at_,hp.can,hp.lc,aa,N,cc,(if cc-lo0=l.toNat then a'' else a''.map (·.add (l.toNat*te.k.size))),h5,by omega,h7,?_,fun hpos=>?_⟩
    ·rw [show (hh-l).toNat=hh.toNat-l.toNat by omega,show cc-lo0-l.toNat=cc-(lo0+l.toNat) by omega]
    ·rw [if_neg (by omega),h9 (by omega)]
     cases aa with
     |none=>rfl
     |some ad=>
      simp only [Option.map_some,Option.some.injEq]
      unfold Addr.add
      rw [Nat.add_mul]
      by_cases hz1:lo0*te.k.size=0<;>by_cases hz2:l.toNat*te.k.size=0
      ·rw [if_pos hz1,if_pos hz2,if_pos (by omega)]
      ·rw [if_pos hz1,if_neg hz2,if_neg (by omega),hz1];simp
      ·rw [if_neg hz1,if_pos hz2,if_neg (by omega),hz2];simp
      ·rw [if_neg hz1,if_neg hz2,if_neg (by omega)];simp [Nat.add_assoc]
   ·simp at h
end
end Go.Abs
namespace Go.Abs
section
variable {P : Program} {V : Env} {w0 w : World} {M0 : BS} {n : Nat} {C0 C : Ctx} {s : St} {a : Act}
variable {R' : Type} {r : R'} {c : Del → Option R'} {o : Oper}
theorem AVC.size{rs:RF}:∀{av:AV}{vs:List Value}{n:Nat},AVC w C rs av vs→av.size=some n→vs.length=n:=by
 intro av
 induction av with
 |pair a b iha ihb=>
  intro vs n h hs
  obtain ⟨v1,v2,rfl,h1,h2⟩:=h
  simp only [AV.size] at hs
  cases ha:a.size with
  |none=>simp [ha] at hs
  |some m=>
   cases hb:b.size with
   |none=>simp [ha,hb] at hs
   |some n'=>
    simp only [ha,hb,Option.some.injEq] at hs
    simp [iha h1 ha,ihb h2 hb,hs]
 |imm z k d=>intro vs n h hs;simp only [AV.size,Option.some.injEq] at hs;rw [h.2.len,hs]
 |dead=>intro vs n h hs;simp [AV.size] at hs
 |tnil=>intro vs n h hs;simp [AV.size] at hs
 |tcons a b=>intro vs n h hs;simp [AV.size] at hs
 |nil=>intro vs n h hs;simp only [AV.size,Option.some.injEq] at hs;simp only [AVC] at h;subst h;subst hs;rfl
 |emp=>intro vs n h hs;simp only [AV.size,Option.some.injEq] at hs;obtain ⟨_,rfl⟩:=h;subst hs;rfl
 |nilp=>intro vs n h hs;simp only [AV.size,Option.some.injEq] at hs;simp only [AVC] at h;subst h;subst hs;rfl
 |ptr r p=>intro vs n h hs;simp only [AV.size,Option.some.injEq] at hs;obtain ⟨_,_,rfl,_⟩:=h;subst hs;rfl
 |iptr z k d p=>intro vs n h hs;simp only [AV.size,Option.some.injEq] at hs;obtain ⟨_,_,_,_,_,_,_,_,_,_,_,rfl⟩:=h;subst hs;rfl
 |nn z e d=>intro vs n h hs;simp only [AV.size,Option.some.injEq] at hs;obtain ⟨_,_,_,_,_,rfl⟩:=h;subst hs;rfl
 |vw r p L=>intro vs n h hs;simp only [AV.size,Option.some.injEq] at hs;obtain ⟨⟨_,_,rfl,_⟩,_⟩:=h;subst hs;rfl
 |ref r p=>intro vs n h hs;simp only [AV.size,Option.some.injEq] at hs;obtain ⟨_,rfl,_⟩:=h;subst hs;rfl
 |slc r p lo m=>intro vs n h hs;simp only [AV.size,Option.some.injEq] at hs;obtain ⟨_,_,rfl,_⟩:=h;subst hs;rfl
 |fn f caps=>intro vs n h hs;simp only [AV.size,Option.some.injEq] at hs;obtain ⟨rfl,_⟩:=h;subst hs;rfl
theorem bH.cells{rs:RF}{av:AV}{v:Value}{n:Nat}(h:bH w C rs v av)(hs:av.size=some n):AVC w C rs av v.cells.toList∧v.cells.size=n:=by
 have key:AVC w C rs av v.cells.toList:=by
  rcases h with (rfl|⟨_,vs,rfl,h⟩|⟨_,h,hc⟩)|⟨vs,_,ht⟩
  ·simp [AV.size] at hs
  ·exact h
  ·rw [hc];exact h
  ·cases av<;>first|exact ht.elim|simp [AV.size] at hs
 exact ⟨key,by rw [←Array.length_toList];exact key.size hs⟩
theorem aod:∀(vs:List Value)(cells:Array Value)(off k:Nat),off+k+vs.length≤cells.size →
  (vs.zipIdx k).foldl (fun cs (x:Value×Nat)=>cs.setIfInBounds (off+x.2) x.1) cells=bA cells (off+k) vs:=by
 intro vs
 induction vs with
 |nil=>
  intro cells off k h
  simp only [List.zipIdx_nil,List.foldl_nil]
  unfold bA
  apply Array.ext'
  simp
 |cons v vs ih=>
  intro cells off k h
  simp only [List.length_cons] at h
  simp only [List.zipIdx_cons,List.foldl_cons]
  have h2:=ih (cells.setIfInBounds (off+k) v) off (k+1) (by simp;omega)
  rw [h2]
  unfold bA
  apply Array.ext'
  simp only [List.length_cons,List.append_assoc]
  rw [Array.toList_setIfInBounds]
  have e1:off+(k+1)=off+k+1:=by omega
  rw [e1]
  have hl:off+k<cells.toList.length:=by simp;omega
  rw [List.take_succ_eq_append_getElem (by simpa using hl)]
  simp only [List.getElem_set_self,List.append_assoc,List.singleton_append]
  rw [List.take_set_of_le (by omega),List.drop_set_of_lt (by omega)]
  simp only [List.cons_append]
  rw [show off+k+1+vs.length=off+k+(vs.length+1) by omega]
theorem afI(vs cells:Array Value)(off:Nat)(h:off+vs.size≤cells.size) :
  vs.zipIdx.foldl (fun cs (x:Value×Nat)=>cs.setIfInBounds (off+x.2) x.1) cells=bA cells off vs.toList:=by
 have:=aod vs.toList cells off 0 (by simpa using h)
 rw [Nat.add_zero] at this
 rw [←this,←Array.foldl_toList,Array.toList_zipIdx]
def placesOf:Nat→List Nat→List (Nat×Nat)
 |_,[]=>[]
 |off,m::l=>(off,m)::placesOf (off+m) l
def K.gV:K→List Nat
 |.pair a b=>a.size::b.gV
 |_=>[]
theorem arj:∀(segs:List (List Value))(i:Nat)(vs pre:List Value),(∃sg,segs[i]?=some sg∧sg.length=vs.length) →
  ∃o,(placesOf pre.length (segs.map (·.length)))[i]?=some (o,vs.length)∧o+vs.length≤(pre++segs.flatten).length ∧
   (bA (pre++segs.flatten).toArray o vs).toList=pre++(segs.set i vs).flatten:=by
 intro segs
 induction segs with
 |nil=>intro i vs pre ⟨sg,h,_⟩;simp at h
 |cons sg segs ih=>
  intro i vs pre ⟨sg',h,hl⟩
  cases i with
  |zero=>
   simp only [List.getElem?_cons_zero,Option.some.injEq] at h
   subst h
   refine ⟨pre.length,by simp [placesOf,hl],by simp;omega,?_⟩
   unfold bA
   simp only [List.flatten_cons,List.set_cons_zero,List.take_left,List.append_assoc]
   congr 2
   rw [List.drop_append,List.drop_append]
   simp only [List.drop_eq_nil_of_le (show pre.length≤pre.length+vs.length by omega),List.nil_append]
   rw [show pre.length+vs.length-pre.length=vs.length by omega,List.drop_eq_nil_of_le (by omega),hl]
   simp
  |succ i=>
   obtain ⟨o,h1,h2,h3⟩:=ih i vs (pre++sg) ⟨sg',by simpa using h,hl⟩
   refine ⟨o,?_,by simpa using h2,?_⟩
   ·simpa [placesOf] using h1
   ·simpa using h3
def MB:List (Nat×Value)→List (List Value)→List (List Value)
 |[],sg=>sg
 | (i,v)::l,sg=>MB l (sg.set i v.cells.toList)
theorem aob:∀(parts:List (Nat×Value))(segs:List (List Value))(sizes:List Nat),segs.map (·.length)=sizes →
  (∀x∈parts,sizes[x.1]?=some x.2.cells.size)→Instr.fill (fun i=>(placesOf 0 sizes).toArray[i]?) segs.flatten.toArray parts=some (MB parts segs).flatten.toArray:=by
 intro parts
 induction parts with
 |nil=>intro segs sizes _ _;rfl
 |cons x parts ih=>
  intro segs sizes hs hp
  obtain ⟨i,v⟩:=x
  have hi:=hp (i,v) (by simp)
  simp only at hi
  rw [←hs,List.getElem?_map] at hi
  cases hsg:segs[i]? with
  |none=>simp [hsg] at hi
  |some sg=>
   simp only [hsg,Option.map_some,Option.some.injEq] at hi
   obtain ⟨o,h1,h2,h3⟩:=arj segs i v.cells.toList [] ⟨sg,hsg,by simpa using hi⟩
   simp only [List.length_nil,List.nil_append,hs,Array.length_toList] at h1 h2 h3
   have hpl:(placesOf 0 sizes).toArray[i]?=some (o,v.cells.size):=by simpa using h1
   simp only [Instr.fill,hpl]
   have hsz:segs.flatten.toArray.size=segs.flatten.length:=by simp only [List.size_toArray]
   rw [if_neg (by simp only [ne_eq,not_true_eq_false,decide_false,Bool.false_or,decide_eq_true_eq,hsz];omega)]
   rw [afI _ _ _ (by rw [hsz];exact h2)]
   have h4:bA segs.flatten.toArray o v.cells.toList=(segs.set i v.cells.toList).flatten.toArray:=by
    apply Array.ext';rw [h3]
   rw [h4]
   refine ih _ sizes ?_ (fun x hx=>hp x (by simp [hx]))
   rw [←hs]
   apply List.ext_getElem?
   intro j
   simp only [List.getElem?_map,List.getElem?_set]
   by_cases hj:i=j
   ·subst hj
    have hlt:i<segs.length:=(List.getElem?_eq_some_iff.1 hsg).1
    have hsgi:segs[i]=sg:=by rw [List.getElem?_eq_getElem hlt] at hsg;exact Option.some.inj hsg
    simp [hlt,hsgi,hi]
   ·simp [hj]
theorem aeT:∀(fs:List Field)(k:K)(off:Nat),uJ P fs k off→fs.mapM (fun f=>(P.info? f.type).map fun i=>(f.offset,i.size))=some (placesOf off k.gV):=by
 intro fs
 induction fs with
 |nil=>
  intro k off h
  cases k<;>first|exact h.elim|rfl
 |cons f fs ih=>
  intro k off h
  cases k with
  |pair ka kb=>
   obtain ⟨h1,h2,⟨i,h3,h4,_⟩,h5⟩:=h
   simp only [List.mapM_cons,h3,Option.map_some,Option.pure_def,Option.bind_eq_bind,Option.bind_some,ih kb _ h5,K.gV,placesOf,h1,h4]
  |_=>exact h.elim
def K.pO:K→List (List Value)
 |.pair a b=>a.zeroCells::b.pO
 |_=>[]
theorem Tx:∀(k:K),k.zeroCells.length=k.size:=by
 intro k
 induction k with
 |pair a b iha ihb=>simp [K.zeroCells,K.size,iha,ihb]
 |_=>rfl
theorem XP:∀(k:K),k.pO.map (·.length)=k.gV:=by
 intro k
 induction k with
 |pair a b iha ihb=>simp [K.pO,K.gV,Tx,ihb]
 |_=>rfl
theorem apb{rs:RF}:∀(k:K),AVC w C rs (KI.zeroAV k) k.zeroCells:=by
 intro k
 induction k with
 |pair a b iha ihb=>exact AVC.flatten iha ihb
 |sl e=>exact rfl
 |ptr=>exact rfl
 |fn=>trivial
 |unit=>exact ⟨rfl,rfl⟩
 |_=>exact ⟨rfl,rfl⟩
def K.isStruct:K→Bool
 |.unit=>true
 |.pair _ b=>b.isStruct
 |_=>false
theorem akH:∀(k:K),k.isStruct=true→k.zeroCells=k.pO.flatten:=by
 intro k
 induction k with
 |pair a b iha ihb=>intro h;simp [K.zeroCells,K.pO,ihb h]
 |unit=>intro _;rfl
 |_=>intro h;simp [K.isStruct] at h
theorem uJ.struct:∀(fs:List Field)(k:K)(off:Nat),uJ P fs k off→k.isStruct=true:=by
 intro fs
 induction fs with
 |nil=>intro k off h;cases k<;>first|exact h.elim|rfl
 |cons f fs ih=>
  intro k off h
  cases k with
  |pair ka kb=>exact ih kb _ h.2.2.2
  |_=>exact h.elim
theorem DN:∀(k:K)(i:Nat)(f:K),k.fieldAt i=some f→k.gV[i]?=some f.size:=by
 intro k
 induction k with
 |pair a b iha ihb=>
  intro i f h
  cases i with
  |zero=>simp only [K.fieldAt,Option.some.injEq] at h;subst h;rfl
  |succ i=>simpa [K.gV] using ihb i f h
 |_=>intro i f h;cases i<;>simp [K.fieldAt] at h
theorem anO{α:Type}{j:Nat}:∀(l:List (Nat×α)),(∀x∈l,j<x.1)→gI j l=none:=by
 intro l
 induction l with
 |nil=>intro _;rfl
 |cons x l ih=>
  intro h
  obtain ⟨i,v⟩:=x
  have h1:=h (i,v) (by simp)
  simp only at h1
  simp only [gI]
  rw [show Nat.beq j i=false from by rw [Bool.eq_false_iff];intro h';have:=Nat.eq_of_beq_eq_true h';omega]
  exact ih fun x hx=>h x (by simp [hx])
theorem UQ{k:K}:∀(l:List (Nat×AV))(j:Nat),H8 k l j=true→∀x∈l,j≤x.1∧∃f n,k.fieldAt x.1=some f∧x.2.size=some n∧n=f.size:=by
 intro l
 induction l with
 |nil=>intro j _ x hx;cases hx
 |cons y l ih=>
  intro j h x hx
  obtain ⟨i,av⟩:=y
  simp only [H8,Bool.and_eq_true] at h
  obtain ⟨⟨h1,h2⟩,h3⟩:=h
  have h1:=Nat.le_of_ble_eq_true h1
  simp only [List.mem_cons] at hx
  rcases hx with rfl|hx
  ·refine ⟨h1,?_⟩
   cases hf:k.fieldAt i with
   |none=>simp [hf] at h2
   |some f=>
    cases ha:av.size with
    |none=>simp [hf,ha] at h2
    |some m=>
     simp only [hf,ha] at h2
     exact ⟨f,m,rfl,rfl,Nat.eq_of_beq_eq_true h2⟩
  ·obtain ⟨g1,g2⟩:=ih _ h3 x hx
   exact ⟨by omega,g2⟩
theorem aqW{rs:RF}{k:K}:∀(l:List (Nat×AV×Value))(j0:Nat)(segs:List (List Value)),H8 k (l.map fun x=>(x.1,x.2.1)) j0=true →
  (∀x∈l,bH w C rs x.2.2 x.2.1)→segs.map (·.length)=k.gV →
  (MB (l.map fun x=>(x.1,x.2.2)) segs).map (·.length)=k.gV ∧
  ∀j f,k.fieldAt j=some f→∃sg,(MB (l.map fun x=>(x.1,x.2.2)) segs)[j]?=some sg∧(match gI j (l.map fun x=>(x.1,x.2.1)) with
   |some av=>AVC w C rs av sg
   |none=>segs[j]?=some sg):=by
 intro l
 induction l with
 |nil=>
  intro j0 segs _ _ hs
  refine ⟨hs,fun j f hf=>?_⟩
  have:=DN k j f hf
  rw [←hs,List.getElem?_map] at this
  cases hsg:segs[j]? with
  |none=>simp [hsg] at this
  |some sg=>exact ⟨sg,hsg,rfl⟩
 |cons x l ih=>
  intro j0 segs hp hv hs
  obtain ⟨i,av,v⟩:=x
  obtain ⟨hge,f0,m,hf0,hm,hmf⟩:=UQ _ _ hp (i,av) (by simp)
  have hpl:H8 k (l.map fun x=>(x.1,x.2.1)) (i+1)=true:=by
   simp only [List.map_cons,H8,Bool.and_eq_true] at hp;exact hp.2
  obtain ⟨hc1,hc2⟩:=(hv (i,av,v) (by simp)).cells hm
  simp only at hge hf0
  have hs':(segs.set i v.cells.toList).map (·.length)=k.gV:=by
   rw [←hs]
   apply List.ext_getElem?
   intro j
   simp only [List.getElem?_map,List.getElem?_set]
   by_cases hj:i=j
   ·subst hj
    have:=DN k i f0 hf0
    rw [←hs,List.getElem?_map] at this
    cases hsg:segs[i]? with
    |none=>simp [hsg] at this
    |some sg=>
     have hlt:i<segs.length:=(List.getElem?_eq_some_iff.1 hsg).1
     simp only [hsg,Option.map_some,Option.some.injEq] at this
     simp [hlt]
     have h9:(segs[i]?).map (·.length)=some f0.size:=by rw [hsg];simp [this]
     rw [List.getElem?_eq_getElem hlt] at h9
     simp only [Option.map_some,Option.some.injEq] at h9
     have hc2':v.cells.size=m:=hc2
     have hmf':m=f0.size:=hmf
     omega
   ·simp [hj]
  obtain ⟨g1,g2⟩:=ih (i+1) (segs.set i v.cells.toList) hpl (fun x hx=>hv x (by simp [hx])) hs'
  refine ⟨g1,fun j f hf=>?_⟩
  obtain ⟨sg,g3,g4⟩:=g2 j f hf
  refine ⟨sg,g3,?_⟩
  simp only [List.map_cons,gI]
  by_cases hj:j=i
  ·subst hj
   rw [show Nat.beq j j=true from Nat.beq_refl j]
   simp only [cond_true]
   have hn:gI j (l.map fun x=>(x.1,x.2.1))=none:=anO _ fun x hx=>by
    have:=(UQ _ _ hpl x hx).1;omega
   rw [hn] at g4
   simp only at g4
   have hlt:j<segs.length:=by
    have:=DN k j f hf
    rw [←hs,List.getElem?_map] at this
    cases hsg:segs[j]? with
    |none=>simp [hsg] at this
    |some sg=>exact (List.getElem?_eq_some_iff.1 hsg).1
   rw [List.getElem?_set_self hlt] at g4
   simp only [Option.some.injEq] at g4
   rw [←g4];exact hc1
  ·rw [show Nat.beq j i=false from by rw [Bool.eq_false_iff];intro h';exact hj (Nat.eq_of_beq_eq_true h')]
   simp only [cond_false]
   cases hn:gI j (l.map fun x=>(x.1,x.2.1)) with
   |some av'=>rw [hn] at g4;exact g4
   |none=>
    rw [hn] at g4
    simp only at g4 ⊢
    rw [List.getElem?_set_ne (fun h=>hj h.symm)] at g4
    exact g4
theorem aic{rs:RF}{fields:List (Nat×AV)}:∀(k:K)(i:Nat)(segs:List (List Value)),k.isStruct=true→segs.length=k.gV.length →
  (∀j f,k.fieldAt j=some f→∃sg,segs[j]?=some sg∧(match gI (i+j) fields with
   |some av=>AVC w C rs av sg
   |none=>sg=f.zeroCells))→AVC w C rs (KI fields k i) segs.flatten:=by
 intro k
 induction k with
 |pair a b iha ihb=>
  intro i segs hst hl h
  cases segs with
  |nil=>simp [K.gV] at hl
  |cons sg segs=>
   obtain ⟨sg',h1,h2⟩:=h 0 a rfl
   simp only [List.getElem?_cons_zero,Option.some.injEq] at h1
   subst h1
   simp only [Nat.add_zero] at h2
   simp only [KI,List.flatten_cons]
   refine AVC.flatten ?_ (ihb (i+1) segs hst (by simpa [K.gV] using hl) fun j f hf=>?_)
   ·cases ha:gI i fields with
    |some av=>rw [ha] at h2;exact h2
    |none=>rw [ha] at h2;simp only at h2;subst h2;exact apb a
   ·obtain ⟨sg2,h3,h4⟩:=h (j+1) f hf
    refine ⟨sg2,by simpa using h3,?_⟩
    rw [show i+1+j=i+(j+1) by omega];exact h4
 |unit=>
  intro i segs _ hl _
  have:segs=[]:=List.eq_nil_of_length_eq_zero (by simpa [K.gV] using hl)
  subst this
  exact ⟨rfl,rfl⟩
 |_=>intro i segs hst;simp [K.isStruct] at hst
theorem amg(rs:RF)(a:AV):RP rs a=a∨∃r x z,a=.ref r []∧rs r=some x∧x.mem=false∧x.m=.imm z∧x.k.plain=true∧RP rs a=.imm z x.k x.d:=by
 unfold RP
 split
 case h_2=>exact .inl rfl
 case h_1 r=>
 split
 case h_2=>exact .inl rfl
 case h_1 x hx=>
 cases hm:x.mem with
 |true=>exact .inl rfl
 |false=>
 simp only [cond_false]
 split
 case h_2=>exact .inl rfl
 case h_1 z hz=>
 unfold Root.roZ at hz
 split at hz
 case h_2=>cases hz
 case h_1 z' hmk=>
 cases hp:x.k.plain with
 |false=>rw [hp] at hz;cases hz
 |true=>
 rw [hp] at hz
 simp only [cond_true,Option.some.injEq] at hz
 subst hz
 exact .inr ⟨r,x,_,rfl,hx,hm,hmk,hp,rfl⟩
theorem bH.ro{w:World}{C:Ctx}{rs:RF}{v:Value}{a:AV}(h:bH w C rs v a)(hM:Mem w C rs):bH w C rs v (RP rs a):=by
 rcases amg rs a with he|⟨r,x,z,rfl,hx,hm,hmk,hp,he⟩
 ·rw [he];exact h
 rw [he]
 obtain ⟨⟨v',hvv,hroot⟩,hcl⟩:=h.cell (by simp) rfl (by simp) (by simp)
 simp only [List.cons.injEq,and_true] at hvv
 subst hvv
 obtain ⟨e',base,g1,g2,g3⟩:=hroot x hx
 rw [cZ] at g3
 rw [at_nil] at g1
 simp only [Option.some.injEq,Prod.mk.injEq] at g3 g1
 obtain ⟨G,hG,_,_⟩:=hM.ok _ _ hx
 rw [hmk,g3.1] at hG
 exact .inl (.inr (.inr ⟨by show x.k.isAgg=false;rw [g1];rfl,⟨hp,hG.arU⟩,hcl⟩))
theorem ald(hT:gq P V)(R:Rel w0 M0 n C0 C s a w){t:TypeId}{parts:Array (Nat×Operand)}(ho:o.op=.build t parts)
  (h:bC V o s.tmps s.roots c=some r):∃x,c x=some r∧Does P w0 M0 n C0 s a w o x:=by
 simp only [bC,ho] at h
 split at h
 case h_2=>simp at h
 case h_1 ka kb ek=>
 cases hpo:H8 (.pair ka kb) (parts.toList.map fun x=>(x.1,RP s.roots (bf s.tmps x.2))) 0 with
 |false=>simp [hpo] at h
 |true=>
 simp only [hpo,cond_true] at h
 obtain ⟨ti,hti,hk⟩:=Env.wz ek
 have hty:=hT.ty _ _ hti
 obtain ⟨d,hd,hD⟩:=hty.desc
 simp only [DOK,hk] at hD
 obtain ⟨fs,rfl,hF⟩:=hD
 obtain ⟨i,z,hi,hsz,_,hz,hzc⟩:=hty.info
 have hst:=hF.struct
 let l:List (Nat×AV×Value):=parts.toList.map fun x=>(x.1,RP s.roots (bf s.tmps x.2),a.eval x.2)
 have e1:l.map (fun x=>(x.1,x.2.1))=parts.toList.map fun x=>(x.1,RP s.roots (bf s.tmps x.2)):=by simp [l]
 have e2:l.map (fun x=>(x.1,x.2.2))=parts.toList.map fun x=>(x.1,a.eval x.2):=by simp [l]
 obtain ⟨g1,g2⟩:=aqW (w:=w) (C:=C) (rs:=s.roots) l 0 (K.pair ka kb).pO (by rw [e1];exact hpo) (by
  intro x hx
  simp only [l,List.mem_map] at hx
  obtain ⟨y,_,rfl⟩:=hx
  exact (R.eval y.2).ro R.mem) (XP _)
 rw [e1,e2] at g2
 rw [e2] at g1
 have hfill:Instr.fill (fun i=>(placesOf 0 (K.pair ka kb).gV).toArray[i]?) z.cells (parts.toList.map fun x=>(x.1,a.eval x.2)) =
   some (MB (parts.toList.map fun x=>(x.1,a.eval x.2)) (K.pair ka kb).pO).flatten.toArray:=by
  have hzc':z.cells=(K.pair ka kb).pO.flatten.toArray:=by
   rw [←akH _ hst];apply Array.ext';rw [hzc,hk]
  rw [hzc']
  refine aob _ _ _ (XP _) fun x hx=>?_
  simp only [List.mem_map] at hx
  obtain ⟨y,hy,rfl⟩:=hx
  obtain ⟨_,f,m,h1,h2,h3⟩:=UQ _ _ hpo (y.1,RP s.roots (bf s.tmps y.2)) (List.mem_map.2 ⟨y,hy,rfl⟩)
  rw [DN _ _ _ h1,(((R.eval y.2).ro R.mem).cells h2).2,h3]
 have hbuilt:P.built t (parts.map fun x=>(x.1,a.eval x.2)).toList=some (MB (parts.toList.map fun x=>(x.1,a.eval x.2)) (K.pair ka kb).pO).flatten.toArray:=by
  unfold Program.built
  simp only [hi,hd,hz,aeT _ _ _ hF]
  rw [Array.toList_map]
  exact hfill
 refine ⟨_,h,Does.plain R (v:=.agg (MB (parts.toList.map fun x=>(x.1,a.eval x.2)) (K.pair ka kb).pO).flatten.toArray) ?_ (.inl (.inr (.inl ⟨?_,_,rfl,?_⟩)))⟩
 ·simp only [execOp,ho,Sem.run_bind]
  rw [show (parts.map fun (x:Nat×Operand)=>match x with|(i,x)=>(i,a.eval x))=parts.map fun x=>(x.1,a.eval x.2) from rfl,run_build w t _ _ hbuilt]
  rfl
 ·simp only [KI];exact GL _ _
 ·refine aic _ 0 _ hst ?_ fun j f hf=>?_
  ·have:=congrArg List.length g1;simpa using this
  ·obtain ⟨sg,h1,h2⟩:=g2 j f hf
   refine ⟨sg,h1,?_⟩
   rw [Nat.zero_add]
   cases hn:gI j (parts.toList.map fun x=>(x.1,RP s.roots (bf s.tmps x.2))) with
   |some av=>rw [hn] at h2;exact h2
   |none=>
    rw [hn] at h2
    simp only at h2 ⊢
    have key:∀(k:K)(j:Nat)(f:K),k.fieldAt j=some f→k.pO[j]?=some f.zeroCells:=by
     intro k
     induction k with
     |pair a b iha ihb=>
      intro j f h
      cases j with
      |zero=>simp only [K.fieldAt,Option.some.injEq] at h;subst h;rfl
      |succ j=>simpa [K.pO] using ihb j f h
     |_=>intro j f h;cases j<;>simp [K.fieldAt] at h
    rw [key _ _ _ hf] at h2
    exact (Option.some.inj h2).symm
end
end Go.Abs
