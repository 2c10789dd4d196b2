/- Texts of this proof, joined: AbsLG, AbsLH, AbsLI, AbsTA, AbsTB, AbsTC, AbsTD, AbsTE, AbsKS, AbsKA, AbsKE, AbsKF, AbsKG, AbsKT, AbsKH, AbsKI, AbsRH, AbsKJ. -/
import Derived.Test.YtedljfabpknjiaaGreatDoorP12
import Derived.Shelf.Sort.Plain
import Derived.Ground.NamesProg
import Derived.Test.YtedljfabpknjiaaGreatDoorProg
import Derived.Lib.SlicesCompact
import Derived.Test.YtedljfabpknjiaaGreatDoorP6
import Derived.Test.YtedljfabpknjiaaGreatDoorP9
import Derived.WalkKit
import Derived.Deep.LoopGhost
import Derived.Shelf.Slices.In.SortNone
import Derived.Sort.OwnSorted
import Derived.Sort.Grow
import Derived.Lib.OwnBridge
import Derived.Lib.RowBridge
import Derived.Laws.Append
import Derived.Laws.AppendOwn
import Derived.Test.YtedljfabpknjiaaGreatDoorP11
section
namespace Go.Abs
open Go Go.Proofs
def has{α:Type}(x:TM α)(a:α):Prop:=∃k,x=some (a,k)
structure GP (p:ByteArray→Prop) (m:Nat) (r:GT):Prop where
 ex:∃s b,r=some (s,b)∧s.size≤m∧(b=true→p s)∧(∀t,p t→t.size≤4000→b=true)
theorem GP.no{p:ByteArray→Prop}{m:Nat}(h:∀t,p t→4000<t.size):GP p m (some (⟨#[]⟩,false)):=
 ⟨⟨_,_,rfl,Nat.zero_le _,fun q=>Bool.noConfusion q,fun t e q=>by have:=h t e;omega⟩⟩
theorem GP.congr{p q:ByteArray→Prop}{m m':Nat}{r:GT}(h:GP p m r)(hm:m≤m')(hp:∀t,p t↔q t):GP q m' r:=by
 obtain ⟨s,b,h1,h2,h3,h4⟩:=h.ex;exact ⟨⟨s,b,h1,by omega,fun z=>(hp s).1 (h3 z),fun t z=>h4 t ((hp t).2 z)⟩⟩
theorem GP.fit{p:ByteArray→Prop}{m:Nat}{s:ByteArray}{b:Bool}(hs:s.size≤m)(hm:m≤1073741824)(h1:b=true→p s)(h2:∀t,p t→t.size≤4000→b=true):GP p m (fitG s b):=
 ⟨⟨s,b,fitG_small (by omega),hs,h1,h2⟩⟩
end Go.Abs
end
section
namespace Go.Abs
open Go Go.Proofs
end Go.Abs
end
section
namespace Go.Abs
open Go Go.Proofs
structure GQ (p:ByteArray→Prop) (r:GT):Prop where
 ex:∃s b,r=some (s,b)∧(b=true→p s∧s.size≤4000)∧(∀t,p t→t.size≤4000→b=true)
theorem GQ.no{p:ByteArray→Prop}(h:∀t,p t→4000<t.size):GQ p (some (⟨#[]⟩,false)):=
 ⟨⟨_,_,rfl,fun q=>Bool.noConfusion q,fun t e q=>by have:=h t e;omega⟩⟩
theorem GQ.congr{p q:ByteArray→Prop}{r:GT}(h:GQ p r)(hp:∀t,p t↔q t):GQ q r:=by
 obtain ⟨s,b,h1,h3,h4⟩:=h.ex;exact ⟨⟨s,b,h1,fun z=>⟨(hp s).1 (h3 z).1,(h3 z).2⟩,fun t z=>h4 t ((hp t).2 z)⟩⟩
end Go.Abs
end
section
namespace Go.Abs
open Go Go.Proofs
def bs8(t:ByteArray):List UInt8:=t.data.toList
theorem bs8_eq{a b:ByteArray}(h:bs8 a=bs8 b):a=b:=by
 apply ByteArray.ext;exact Array.toList_inj.1 h
/-- The reader stands before these bytes. -/
def Rem(s:ByteArray)(p:PS s)(l:List UInt8):Prop:=∃j,j≤s.size∧(bs8 s).drop j=l∧p.i=spaceF s (s.size - j) j∧p.w=(s.extract p.i s.size).extract 0 (wordLen (s.extract p.i s.size))
section
variable {s:ByteArray}{p:PS s}
end
/-- No letter and no digit stands first. -/
def brk(l:List UInt8):Prop:=∀c,l.head? = some c→isL c.toNat=false∧isD c.toNat=false
section
variable {s:ByteArray}{p:PS s}
end
end Go.Abs
end
section
namespace Go.Abs
open Go Go.Proofs
/-- This is read, and then these bytes are left (or there is no answer within so many steps). -/
def Gets{s:ByteArray}{α:Type}(r:R s α)(a:α)(l:List UInt8):Prop:=match r with
 |.ok b q=>b=a∧Rem s q l
 |.bad _ _=>False
 |.out=>True
section
variable {s:ByteArray}
end
end Go.Abs
end
section
namespace Go.Abs
open Go Go.Proofs
section
variable {s:ByteArray}
def Via1(r:R s Ex)(d:Int)(e:Ex)(l:List UInt8):Prop:=r=.out∨∃n q,Rem s q l∧r=termL s n d e q
def Via2(r:R s Ex)(d:Int)(e:Ex)(l:List UInt8):Prop:=r=.out∨∃n q,Rem s q l∧r=prodL s n d e q
/-- What may stand behind a factor, a product, a term. -/
def St3(s:ByteArray)(l:List UInt8):Prop:=∀q:PS s,Rem s q l→eqW q.w ⟨#[91]⟩=false
def St2(s:ByteArray)(l:List UInt8):Prop:=∀q:PS s,Rem s q l→eqW q.w ⟨#[91]⟩=false∧(eqW q.w ⟨#[42]⟩||eqW q.w ⟨#[47]⟩||eqW q.w ⟨#[37]⟩)=false
def St1(s:ByteArray)(l:List UInt8):Prop:=∀q:PS s,Rem s q l→eqW q.w ⟨#[91]⟩=false∧(eqW q.w ⟨#[42]⟩||eqW q.w ⟨#[47]⟩||eqW q.w ⟨#[37]⟩)=false∧(eqW q.w ⟨#[43]⟩||eqW q.w ⟨#[45]⟩)=false
theorem St1.two{l:List UInt8}(h:St1 s l):St2 s l:=fun q hq=>⟨(h q hq).1,(h q hq).2.1⟩
theorem closeI_some{r:Int}{b:Int→TIs}{least d:Int}{t:ByteArray}{k:Nat}(h:closeI r b least d=some (t,k)):d≤12∧((r<least∧d+1≤12∧∃t' k',b (d+1)=some (t',k')∧t=(⟨#[40]⟩++t')++⟨#[41]⟩)∨(¬r<least∧∃k',b d=some (t,k'))):=by
 unfold closeI at h
 cases hd:decide (d≤12) with
 |false=>rw [hd] at h;cases h
 |true=>
  rw [hd] at h;refine ⟨of_decide_eq_true hd,?_⟩
  cases hr:decide (r<least) with
  |true=>
   rw [hr] at h
   cases hd1:decide (d+1≤12) with
   |false=>rw [hd1] at h;cases h
   |true=>
    rw [hd1] at h
    cases hb:b (d+1) with
    |none=>rw [hb] at h;cases h
    |some y=>
     obtain ⟨t',k'⟩:=y;rw [hb] at h;simp only [Option.map_some,Option.some.injEq,Prod.mk.injEq] at h;exact .inl ⟨of_decide_eq_true hr,of_decide_eq_true hd1,t',k',rfl,h.1.symm⟩
  |false=>
   rw [hr] at h
   cases hb:b d with
   |none=>rw [hb] at h;cases h
   |some y=>
    obtain ⟨t',k'⟩:=y;rw [hb] at h;simp only [Option.map_some,Option.some.injEq,Prod.mk.injEq] at h;exact .inr ⟨of_decide_eq_false hr,k',by rw [h.1]⟩
/-- What a term's own text says of it. -/
theorem body_some{op:ByteArray}{n:Int}{nm:ByteArray}{l:List Ex}{d:Int}{t:ByteArray}{k:Nat}(h:bodyI (.mk op n nm l) d=some (t,k)):
  (op=⟨#[110,117,109]⟩∧nm=⟨#[]⟩∧l=[]∧n≥0∧n≤1099511627776∧t=itoaB n)∨
  (op=⟨#[118,97,114]⟩∧n=0∧l=[]∧isNameF nm=true∧t=nm)∨
  (op=⟨#[97,116]⟩∧n=0∧isNameF nm=true∧∃x t' k',l=[x]∧exprI x 1 (d+1)=some (t',k')∧t=((nm++⟨#[91]⟩)++t')++⟨#[93]⟩)∨
  (op=⟨#[110,101,103]⟩∧n=0∧nm=⟨#[]⟩∧∃x t' k',l=[x]∧exprI x 3 (d+1)=some (t',k')∧t=⟨#[45]⟩++t')∨
  (binF op=true∧n=0∧nm=⟨#[]⟩∧∃x y t1 k1 t2 k2,l=[x,y]∧exprI x (rankF op) d=some (t1,k1)∧exprI y (rankF op+1) d=some (t2,k2)∧t=(((t1++⟨#[32]⟩)++op)++⟨#[32]⟩)++t2):=by
 have hlen:∀l:List Ex,∀m:Nat,(((exs l).length:Int)==(m:Int))=true→l.length=m:=by
  intro l m h;have:=eq_of_beq h;rw [exs_length] at this;omega
 unfold bodyI at h
 split at h
 ·rename_i h1
  split at h
  ·rename_i h2
   simp only [Bool.and_eq_true,decide_eq_true_eq] at h2;simp only [Option.some.injEq,Prod.mk.injEq] at h;exact .inl ⟨eqW_eq h1,eqW_eq h2.1.2,List.eq_nil_of_length_eq_zero (hlen l 0 h2.2),h2.1.1.1,h2.1.1.2,h.1.symm⟩
  cases h
 split at h
 ·rename_i h1
  split at h
  ·rename_i h2
   simp only [Bool.and_eq_true] at h2;simp only [Option.some.injEq,Prod.mk.injEq] at h;exact .inr (.inl ⟨eqW_eq h1,eq_of_beq h2.1.1,List.eq_nil_of_length_eq_zero (hlen l 0 h2.1.2),h2.2,h.1.symm⟩)
  cases h
 split at h
 ·rename_i h1
  split at h
  ·rename_i x h2
   simp only [Bool.and_eq_true] at h2
   cases hx:closeI (rankF x.op) (bodyI x) 1 (d+1) with
   |none=>rw [hx] at h;cases h
   |some y=>
    obtain ⟨t',k'⟩:=y;rw [hx] at h;simp only [Option.map_some,Option.some.injEq,Prod.mk.injEq] at h;exact .inr (.inr (.inl ⟨eqW_eq h1,eq_of_beq h2.1.1,h2.2,x,t',k',rfl,hx,h.1.symm⟩))
  cases h
 split at h
 ·rename_i h1
  split at h
  ·rename_i x h2
   simp only [Bool.and_eq_true] at h2
   cases hx:closeI (rankF x.op) (bodyI x) 3 (d+1) with
   |none=>rw [hx] at h;cases h
   |some y=>
    obtain ⟨t',k'⟩:=y;rw [hx] at h;simp only [Option.map_some,Option.some.injEq,Prod.mk.injEq] at h;exact .inr (.inr (.inr (.inl ⟨eqW_eq h1,eq_of_beq h2.1.1,eqW_eq h2.1.2,x,t',k',rfl,hx,h.1.symm⟩)))
  cases h
 split at h
 ·rename_i x y h2
  simp only [Bool.and_eq_true] at h2
  cases hx:closeI (rankF x.op) (bodyI x) (rankF op) d with
  |none=>rw [hx] at h;cases h
  |some u=>
   obtain ⟨t1,k1⟩:=u;rw [hx] at h;simp only [Option.bind_some] at h
   cases hy:closeI (rankF y.op) (bodyI y) (rankF op+1) d with
   |none=>rw [hy] at h;cases h
   |some v=>
    obtain ⟨t2,k2⟩:=v;rw [hy] at h;simp only [Option.map_some,Option.some.injEq,Prod.mk.injEq] at h;exact .inr (.inr (.inr (.inr ⟨h2.1,eq_of_beq h2.2.1.1,eqW_eq h2.2.1.2,x,y,t1,k1,t2,k2,rfl,hx,hy,h.1.symm⟩)))
 cases h
/-- What is to be shown of a term. -/
structure XOk (s:ByteArray) (e:Ex):Prop where
 x3:∀(d:Int) (t:ByteArray) (k n:Nat) (p:PS s) (l:List UInt8),0≤d→exprI e 3 d=some (t,k)→brk l→St3 s l→Rem s p (bs8 t++l)→Gets (factorF s n d p) e l
 x2:∀(d:Int) (t:ByteArray) (k n:Nat) (p:PS s) (l:List UInt8),0≤d→exprI e 2 d=some (t,k)→brk l→St3 s l→Rem s p (bs8 t++l)→Via2 (productF s n d p) d e l
 x1:∀(d:Int) (t:ByteArray) (k n:Nat) (p:PS s) (l:List UInt8),0≤d→exprI e 1 d=some (t,k)→brk l→St2 s l→Rem s p (bs8 t++l)→Via1 (termF s n d p) d e l
end
end Go.Abs
end
section
namespace Go.Abs
open Go Go.Proofs
def tl8(sep:List UInt8):List ByteArray→List UInt8
 |[]=>[]
 |x::r=>sep++(bs8 x++tl8 sep r)
theorem tl8_tail(sep:List UInt8):∀r:List ByteArray,Lib.joinTail sep (r.map (·.data.toList))=tl8 sep r
 |[]=>rfl
 |x::r=>by
  have:=tl8_tail sep r;simp only [Lib.joinTail] at this;simp only [Lib.joinTail,List.map_cons,List.flatten_cons,tl8,this,List.append_assoc]
  rfl
theorem join_cons(sep:ByteArray)(x:ByteArray)(r:List ByteArray):bs8 (joinB (x::r) sep)=bs8 x++tl8 (bs8 sep) r:=by
 show Lib.join (x.data.toList::r.map (·.data.toList)) sep.data.toList=_
 rw [Lib.join_cons,tl8_tail]
 rfl
section
variable {s:ByteArray}
end
end Go.Abs
end
section
namespace Go.Abs
open Go Go.Proofs
theorem bare_some{wn wp wa wc wb we:Bool}{kind name proc:ByteArray}{args:List Ex}{cond:List (List Ts)}{body els:List Sm}(h:bareF wn wp wa wc wb we (.mk kind name proc args cond body els)=true):(wn=false→name=⟨#[]⟩)∧(wp=false→proc=⟨#[]⟩)∧(wa=false→args=[])∧(wc=false→cond=[])∧(wb=false→body=[])∧(we=false→els=[]):=by
 simp only [bareF,Bool.and_eq_true,Bool.or_eq_true] at h;obtain ⟨⟨⟨⟨⟨h1,h2⟩,h3⟩,h4⟩,h5⟩,h6⟩:=h;refine ⟨fun q=>?_,fun q=>?_,fun q=>?_,fun q=>?_,fun q=>?_,fun q=>?_⟩
 ·rcases h1 with h|h
  ·exact eqW_eq h
  rw [q] at h;cases h
 ·rcases h2 with h|h
  ·exact eqW_eq h
  rw [q] at h;cases h
 ·rcases h3 with h|h
  ·have:=eq_of_beq h
   rw [exs_length] at this;exact List.eq_nil_of_length_eq_zero (by omega)
  rw [q] at h;cases h
 ·rcases h4 with h|h
  ·have:=eq_of_beq h
   rw [cnd_length] at this;exact List.eq_nil_of_length_eq_zero (by omega)
  rw [q] at h;cases h
 ·rcases h5 with h|h
  ·have:=eq_of_beq h
   rw [sms_length] at this;exact List.eq_nil_of_length_eq_zero (by omega)
  rw [q] at h;cases h
 rcases h6 with h|h
 ·have:=eq_of_beq h
  rw [sms_length] at this;exact List.eq_nil_of_length_eq_zero (by omega)
 rw [q] at h;cases h
theorem list_one{x:Ex}{t:ByteArray}{k:Nat}(h:listJ [x]=some (t,k)):∃k1,exprI x 1 1=some (t,k1):=by
 obtain ⟨ss,k1,i1,h1,h2,_⟩:=bd_some h;obtain ⟨rfl,_⟩:=ret_some h2;obtain ⟨t,k3,i3,h5,h2,_⟩:=bd_some h1;obtain ⟨rs,k2,i2,h3,h4,_⟩:=bd_some h2;obtain ⟨rfl,_⟩:=ret_some h4;obtain ⟨rfl,_⟩:=ret_some h3;have e:joinB [t] ⟨#[44,32]⟩=t:=bs8_eq (by rw [join_cons];simp [tl8]);rw [e];exact ⟨k3,h5⟩
/-- What a statement's text says of it. -/
theorem stmt_some{kind name proc:ByteArray}{args:List Ex}{cond:List (List Ts)}{body els:List Sm}{k:Nat}{t:ByteArray}{j:Nat}(h:stmtI (.mk kind name proc args cond body els) k=some (t,j)):
  (kind=⟨#[115,101,116]⟩∧proc=⟨#[]⟩∧cond=[]∧body=[]∧els=[]∧isNameF name=true∧∃x t1 k1,args=[x]∧exprI x 1 1=some (t1,k1)∧t=lnI k (((name++⟨#[32,61,32]⟩)++t1)++⟨#[59]⟩))∨
  (kind=⟨#[112,117,116]⟩∧proc=⟨#[]⟩∧cond=[]∧body=[]∧els=[]∧isNameF name=true∧∃x y t1 k1 t2 k2,args=[x,y]∧exprI x 1 1=some (t1,k1)∧exprI y 1 1=some (t2,k2)∧t=lnI k (((((name++⟨#[91]⟩)++t1)++⟨#[93,32,61,32]⟩)++t2)++⟨#[59]⟩))∨
  (kind=⟨#[99,97,108,108]⟩∧cond=[]∧body=[]∧els=[]∧isNameF name=true∧isNameF proc=true∧∃t1 k1,listJ args=some (t1,k1)∧t=lnI k (((((name++⟨#[32,61,32,99,97,108,108,32]⟩)++proc)++⟨#[40]⟩)++t1)++⟨#[41,59]⟩))∨
  (kind=⟨#[105,102]⟩∧name=⟨#[]⟩∧proc=⟨#[]⟩∧args=[]∧∃c k1 b k2 r,condI cond=some (c,k1)∧blockI body (k+1)=some (b,k2)∧t=lnI k ((⟨#[105,102,32]⟩++c)++⟨#[32,123]⟩)++(b++r)∧((els=[]∧r=lnI k ⟨#[125]⟩)∨∃e k3,blockI els (k+1)=some (e,k3)∧r=lnI k ⟨#[125,32,101,108,115,101,32,123]⟩++(e++lnI k ⟨#[125]⟩)))∨
  (kind=⟨#[119,104,105,108,101]⟩∧name=⟨#[]⟩∧proc=⟨#[]⟩∧args=[]∧els=[]∧∃c k1 b k2,condI cond=some (c,k1)∧blockI body (k+1)=some (b,k2)∧t=lnI k ((⟨#[119,104,105,108,101,32]⟩++c)++⟨#[32,123]⟩)++(b++lnI k ⟨#[125]⟩))∨
  ((kind=⟨#[97,115,115,101,114,116]⟩∨kind=⟨#[97,115,115,117,109,101]⟩)∧name=⟨#[]⟩∧proc=⟨#[]⟩∧args=[]∧body=[]∧els=[]∧∃c k1,condI cond=some (c,k1)∧t=lnI k (((kind++⟨#[32]⟩)++c)++⟨#[59]⟩))∨
  (kind=⟨#[114,101,97,100]⟩∧proc=⟨#[]⟩∧args=[]∧cond=[]∧body=[]∧els=[]∧isNameF name=true∧t=lnI k ((⟨#[114,101,97,100,32]⟩++name)++⟨#[59]⟩)):=by
 have hlen:∀l:List Ex,∀m:Nat,(((exs l).length:Int)==(m:Int))=true→l.length=m:=by
  intro l m h;have:=eq_of_beq h;rw [exs_length] at this;omega
 unfold stmtI at h
 split at h
 ·rename_i h1
  obtain ⟨g1,h⟩:=grd_some h;obtain ⟨g2,h⟩:=grd_some h;rw [Bool.and_eq_true] at g1;obtain ⟨b1,b2,b3,b4,b5,b6⟩:=bare_some g1.1;obtain ⟨x,rfl⟩:=List.length_eq_one_iff.1 (hlen args 1 g1.2);obtain ⟨t1,k1,i1,h2,h3,_⟩:=bd_some h;obtain ⟨rfl,_⟩:=ret_some h3;obtain ⟨k2,h4⟩:=list_one h2;exact .inl ⟨eqW_eq h1,b2 rfl,b4 rfl,b5 rfl,b6 rfl,g2,x,t1,k2,rfl,h4,rfl⟩
 split at h
 ·rename_i h1
  obtain ⟨g1,h⟩:=grd_some h;obtain ⟨g2,h⟩:=grd_some h;rw [Bool.and_eq_true] at g1;obtain ⟨b1,b2,b3,b4,b5,b6⟩:=bare_some g1.1;split at h
  ·rename_i x y _ _
   obtain ⟨t1,k1,i1,h2,h3,_⟩:=bd_some h;obtain ⟨t2,k2,i2,h4,h5,_⟩:=bd_some h3;obtain ⟨rfl,_⟩:=ret_some h5;exact .inr (.inl ⟨eqW_eq h1,b2 rfl,b4 rfl,b5 rfl,b6 rfl,g2,x,y,t1,k1,t2,k2,rfl,h2,h4,rfl⟩)
  cases h
 split at h
 ·rename_i h1
  obtain ⟨g1,h⟩:=grd_some h;obtain ⟨g2,h⟩:=grd_some h;obtain ⟨g3,h⟩:=grd_some h;obtain ⟨b1,b2,b3,b4,b5,b6⟩:=bare_some g1;obtain ⟨t1,k1,i1,h2,h3,_⟩:=bd_some h;obtain ⟨rfl,_⟩:=ret_some h3;exact .inr (.inr (.inl ⟨eqW_eq h1,b4 rfl,b5 rfl,b6 rfl,g2,g3,t1,k1,h2,rfl⟩))
 split at h
 ·rename_i h1
  obtain ⟨g1,h⟩:=grd_some h;obtain ⟨b1,b2,b3,b4,b5,b6⟩:=bare_some g1;obtain ⟨c,k1,i1,h2,h3,_⟩:=bd_some h;obtain ⟨a1,a2,k2,i2,h4,h5,rfl,_⟩:=sq_some h3;obtain ⟨rfl,_⟩:=ret_some h4;obtain ⟨b,r,k3,i3,h6,h7,rfl,_⟩:=sq_some h5;refine .inr (.inr (.inr (.inl ⟨eqW_eq h1,b1 rfl,b2 rfl,b3 rfl,c,k1,b,k3,r,h2,h6,rfl,?_⟩)));split at h7
  ·obtain ⟨a3,a4,k4,i4,h8,h9,rfl,_⟩:=sq_some h7
   obtain ⟨rfl,_⟩:=ret_some h8;obtain ⟨e,a5,k5,i5,h10,h11,rfl,_⟩:=sq_some h9;obtain ⟨rfl,_⟩:=ret_some h11;exact .inr ⟨e,k5,h10,rfl⟩
  rename_i h8;obtain ⟨rfl,_⟩:=ret_some h7;have:=of_decide_eq_false h8;rw [sms_length] at this;exact .inl ⟨List.eq_nil_of_length_eq_zero (by omega),rfl⟩
 split at h
 ·rename_i h1
  obtain ⟨g1,h⟩:=grd_some h;obtain ⟨b1,b2,b3,b4,b5,b6⟩:=bare_some g1;obtain ⟨c,k1,i1,h2,h3,_⟩:=bd_some h;obtain ⟨a1,a2,k2,i2,h4,h5,rfl,_⟩:=sq_some h3;obtain ⟨rfl,_⟩:=ret_some h4;obtain ⟨b,r,k3,i3,h6,h7,rfl,_⟩:=sq_some h5;obtain ⟨rfl,_⟩:=ret_some h7;exact .inr (.inr (.inr (.inr (.inl ⟨eqW_eq h1,b1 rfl,b2 rfl,b3 rfl,b6 rfl,c,k1,b,k3,h2,h6,rfl⟩))))
 split at h
 ·rename_i h1
  obtain ⟨g1,h⟩:=grd_some h;obtain ⟨b1,b2,b3,b4,b5,b6⟩:=bare_some g1;obtain ⟨c,k1,i1,h2,h3,_⟩:=bd_some h;obtain ⟨rfl,_⟩:=ret_some h3;rw [Bool.or_eq_true] at h1;refine .inr (.inr (.inr (.inr (.inr (.inl ⟨?_,b1 rfl,b2 rfl,b3 rfl,b5 rfl,b6 rfl,c,k1,h2,rfl⟩)))))
  rcases h1 with h1|h1
  ·exact .inl (eqW_eq h1)
  exact .inr (eqW_eq h1)
 split at h
 ·rename_i h1
  obtain ⟨g1,h⟩:=grd_some h;obtain ⟨g2,h⟩:=grd_some h;obtain ⟨b1,b2,b3,b4,b5,b6⟩:=bare_some g1;obtain ⟨rfl,_⟩:=ret_some h;exact .inr (.inr (.inr (.inr (.inr (.inr ⟨eqW_eq h1,b2 rfl,b3 rfl,b4 rfl,b5 rfl,b6 rfl,g2,rfl⟩)))))
 cases h
section
variable {s:ByteArray}
end
end Go.Abs
end
section
namespace Go.Proofs
open Go.Shelf
def Tryz.lays190_ren:Go.Shelf.Ren:=⟨fun|190=>115|125=>177|258=>176|128=>236|129=>237|302=>227|303=>228|304=>229|305=>230|306=>231|307=>232|308=>233|309=>234|310=>235|333=>263|329=>264|330=>265|334=>266|335=>267|336=>268|344=>282|n=>n,fun|31=>23|9=>9|3=>3|46=>286|0=>0|51=>343|53=>345|4=>4|183=>337|182=>336|131=>240|5=>5|218=>380|222=>384|228=>399|229=>149|n=>n,fun|n=>n⟩
theorem Tryz.lays190:Go.Proofs.Lays.n190 Tryz.prog Tryz.lays190_ren:={
 mixed:=by kernel_rfl
 f125:=Tryz.func177.trans (congrArg some (by kernel_rfl))
 f128:=Tryz.func236.trans (congrArg some (by kernel_rfl))
 f129:=Tryz.func237.trans (congrArg some (by kernel_rfl))
 f190:=Tryz.func115.trans (congrArg some (by kernel_rfl))
 f258:=Tryz.func176.trans (congrArg some (by kernel_rfl))
 f302:=Tryz.func227.trans (congrArg some (by kernel_rfl))
 f303:=Tryz.func228.trans (congrArg some (by kernel_rfl))
 f304:=Tryz.func229.trans (congrArg some (by kernel_rfl))
 f305:=Tryz.func230.trans (congrArg some (by kernel_rfl))
 f306:=Tryz.func231.trans (congrArg some (by kernel_rfl))
 f307:=Tryz.func232.trans (congrArg some (by kernel_rfl))
 f308:=Tryz.func233.trans (congrArg some (by kernel_rfl))
 f309:=Tryz.func234.trans (congrArg some (by kernel_rfl))
 f310:=Tryz.func235.trans (congrArg some (by kernel_rfl))
 f329:=Tryz.func264.trans (congrArg some (by kernel_rfl))
 f330:=Tryz.func265.trans (congrArg some (by kernel_rfl))
 f333:=Tryz.func263.trans (congrArg some (by kernel_rfl))
 f334:=Tryz.func266.trans (congrArg some (by kernel_rfl))
 f335:=Tryz.func267.trans (congrArg some (by kernel_rfl))
 f336:=Tryz.func268.trans (congrArg some (by kernel_rfl))
 f344:=Tryz.func282.trans (congrArg some (by kernel_rfl))
 t0:=Tryz.underlying0
 a0:=Tryz.isAgg0
 z0:=Tryz.sizeOf0
 v0:=Tryz.zeroValue0
 t3:=Tryz.underlying3
 a3:=Tryz.isAgg3
 z3:=Tryz.sizeOf3
 v3:=Tryz.zeroValue3
 t4:=Tryz.underlying4
 a4:=Tryz.isAgg4
 z4:=Tryz.sizeOf4
 v4:=Tryz.zeroValue4
 t5:=Tryz.underlying5
 a5:=Tryz.isAgg5
 z5:=Tryz.sizeOf5
 v5:=Tryz.zeroValue5
 t9:=Tryz.underlying9
 a9:=Tryz.isAgg9
 z9:=Tryz.sizeOf9
 v9:=Tryz.zeroValue9
 t31:=Tryz.underlying23
 a31:=Tryz.isAgg23
 z31:=Tryz.sizeOf23
 v31:=Tryz.zeroValue23
 t46:=Tryz.underlying286
 a46:=Tryz.isAgg286
 z46:=Tryz.sizeOf286
 v46:=Tryz.zeroValue286
 t51:=Tryz.underlying343
 a51:=Tryz.isAgg343
 z51:=Tryz.sizeOf343
 v51:=Tryz.zeroValue343
 t53:=Tryz.underlying345
 a53:=Tryz.isAgg345
 z53:=Tryz.sizeOf345
 v53:=Tryz.zeroValue345
 t131:=Tryz.underlying240
 a131:=Tryz.isAgg240
 z131:=Tryz.sizeOf240
 v131:=Tryz.zeroValue240
 t182:=Tryz.underlying336
 a182:=Tryz.isAgg336
 z182:=Tryz.sizeOf336
 v182:=Tryz.zeroValue336
 t183:=Tryz.underlying337
 a183:=Tryz.isAgg337
 z183:=Tryz.sizeOf337
 v183:=Tryz.zeroValue337
 t218:=Tryz.underlying380
 a218:=Tryz.isAgg380
 z218:=Tryz.sizeOf380
 v218:=Tryz.zeroValue380
 t222:=Tryz.underlying384
 a222:=Tryz.isAgg384
 z222:=Tryz.sizeOf384
 v222:=Tryz.zeroValue384
 t228:=Tryz.underlying399
 a228:=Tryz.isAgg399
 z228:=Tryz.sizeOf399
 v228:=Tryz.zeroValue399
 t229:=Tryz.underlying149
 a229:=Tryz.isAgg149
 z229:=Tryz.sizeOf149
 v229:=Tryz.zeroValue149 }
open Go.RowKit Go.Sort in
theorem Tryz.slices_Sort_string(blk off cap:Nat)(ss:List (List UInt8))(w:World)(hH:Holds encStr w blk off ss.toArray)(hblk:blk<w.heap.size)(hsz:ss.length<4611686018427387904):
  Calls Tryz.prog 115 #[.slice (some ⟨blk,off,none⟩) ss.length cap] w fun e w'=>e=.returned (.tuple #[])∧∃n os,w'=grow (putRow encStr (Sort.ahead w n) blk off (ss.mergeSort fun x y=>decide (x≤y)).toArray) os:=Any.slices_Sort_string Tryz.lays190 blk off cap ss w hH hblk hsz
end Go.Proofs
end
section
namespace Go.Abs
open Go
theorem sorted8(l:List (List UInt8)):(l.mergeSort fun x y=>decide (x≤y)).Pairwise (·≤·):=by
 have h:=List.pairwise_mergeSort (le:=fun x y:List UInt8=>decide (x≤y)) (fun a b c h1 h2=>decide_eq_true (List.le_trans (of_decide_eq_true h1) (of_decide_eq_true h2))) (fun a b=>by rcases List.le_total a b with h|h <;> simp [h]) l
 exact h.imp fun h=>of_decide_eq_true h
theorem compact_len{m:List (List UInt8)}(hs:m.Pairwise (·≤·)):(Lib.compact m).length<m.length↔¬m.Nodup:=by
 have hge:∀(j:Nat) (h:j<m.length),m.toArray[j]! = m[j]:=fun j h=>by simp [h]
 have key:(∀j,j<m.length→Lib.keeps m.toArray j=true)↔m.Nodup:=by
  constructor
  ·intro hk
   refine List.pairwise_iff_getElem.2 fun i j hi hj hij=>?_
   intro e
   have h1:=hk j hj
   unfold Lib.keeps at h1
   have h1:=of_decide_eq_true h1
   rw [hge j hj,hge (j - 1) (by omega)] at h1
   rcases h1 with h1|h1
   ·omega
   apply h1
   have a:m[j - 1]≤m[j]:=List.pairwise_iff_getElem.1 hs (j - 1) j (by omega) hj (by omega)
   have b:m[i]≤m[j - 1]:=by
    rcases Nat.lt_or_ge i (j - 1) with q|q
    ·exact List.pairwise_iff_getElem.1 hs i (j - 1) hi (by omega) q
    have:i=j - 1:=by omega
    subst this
    exact List.le_refl _
   rw [e] at b
   exact List.le_antisymm b a
  intro hn j hj
  unfold Lib.keeps
  apply decide_eq_true
  rcases Nat.eq_zero_or_pos j with q|q
  ·exact .inl q
  right
  rw [hge j hj,hge (j - 1) (by omega)]
  exact fun e=>List.pairwise_iff_getElem.1 hn (j - 1) j (by omega) hj (by omega) e.symm
 have hlen:(Lib.compact m).length=((List.range m.length).filter (Lib.keeps m.toArray)).length:=by
  unfold Lib.compact Lib.compactUpTo
  rw [List.length_map]
 have hle:((List.range m.length).filter (Lib.keeps m.toArray)).length≤m.length:=by
  have:=List.length_filter_le (Lib.keeps m.toArray) (List.range m.length)
  simpa using this
 have heq:((List.range m.length).filter (Lib.keeps m.toArray)).length=m.length↔m.Nodup:=by
  rw [← key]
  have:=List.length_filter_eq_length_iff (p:=Lib.keeps m.toArray) (l:=List.range m.length)
  rw [List.length_range] at this
  rw [this]
  exact ⟨fun h j hj=>h j (List.mem_range.2 hj),fun h j hj=>h j (List.mem_range.1 hj)⟩
 rw [hlen,← heq]
 omega
theorem twice_pure(l:List (List UInt8)):decide ((Lib.compact (l.mergeSort fun x y=>decide (x≤y))).length<l.length)=!decide l.Nodup:=by
 have hp:=List.mergeSort_perm l fun x y=>decide (x≤y)
 have h:=compact_len (sorted8 l)
 rw [hp.length_eq,hp.nodup_iff] at h
 by_cases q:l.Nodup
 ·rw [decide_eq_true q,decide_eq_false (fun e=>h.1 e q)]
  rfl
 rw [decide_eq_false q,decide_eq_true (h.2 q)]
 rfl
end Go.Abs
end
section
namespace Go.Abs
open Go Go.Proofs
attribute [local irreducible] aCall AWp Sub Spec
/-- Are the names of a statement's own known? -/
def kindN(vs ay:List ByteArray)(ps:List Pc)(kind name proc:ByteArray):Bool:=match (kind.toList==(⟨#[115,101,116]⟩:ByteArray).toList) with
 |true=>hasB vs name
 |false=>match (kind.toList==(⟨#[114,101,97,100]⟩:ByteArray).toList) with
  |true=>hasB vs name
  |false=>match (kind.toList==(⟨#[112,117,116]⟩:ByteArray).toList) with
   |true=>hasB ay name
   |false=>match (kind.toList==(⟨#[99,97,108,108]⟩:ByteArray).toList) with
    |true=>hasB vs name&&decide (procJ proc ps 0≥0)
    |false=>true
/-- Are all names of a statement known? -/
def seeN(vs ay:List ByteArray)(ps:List Pc):Sm→Bool
 |.mk kind name proc args cond _ _=>kindN vs ay ps kind name proc&&tmsN vs ay (args++condE cond)
section
variable (G:Glob)
theorem tsE_wt:∀r:List Ts,wtL (tsE r)≤wtR r
 |[]=>by simp [tsE,wtL]
 |t::r=>by have:=tsE_wt r;simp only [tsE,wtL,wtR,wtT];omega
theorem condE_wt:∀c:List (List Ts),wtL (condE c)≤wtC c
 |[]=>by simp [condE,wtL]
 |r::c=>by have:=condE_wt c;have:=tsE_wt r;simp only [condE,wtC,wtL_app];omega
theorem see_true(vs ay:List ByteArray)(ps:List Pc)(hv:vs.length≤1073741824)(ha:ay.length≤1073741824)(hp0:ps.length≤1073741824)(kind name proc:ByteArray)(args:List Ex)(cond:List (List Ts))(body els:List Sm)(hw:wtL args+wtC cond≤500000000):Spec Tryz.prog G 164 [.d (.agg (Sm.mk kind name proc args cond body els).cs),.box 0 0,.box 1 0] (WkR vs ay ps true) (.ret (.tup [])) (WkR vs ay ps (seeN vs ay ps (.mk kind name proc args cond body els))):=by
 have hal:=wtL_len args;have hcl:=condE_len cond
 have hwa:wtL (args++condE cond)≤1000000000:=by rw [wtL_app];have:=condE_wt cond;omega
 have ht:=terms_spec G kind name proc args cond body els (by omega) (by omega);have hs:=place_terms G vs ay ps hv ha (args++condE cond) hwa;obtain ⟨b,hG⟩:∃b,seeN vs ay ps (.mk kind name proc args cond body els)=b:=⟨_,rfl⟩;rw [hG];simp only [seeN,kindN] at hG;refine spec_of_awp2 TT_ok (N:=52) Tryz.func164 rfl (by rfl) (Nat.le_refl _) rfl ?_;refine rz [1,2,3] ?_;refine awp_seq ?_;refine rz [1,2,3,5] ?_;refine awp_block ?_;refine awp_seq ?_;refine rz [1,2,3,5,6] ?_;refine awp_cond2 rfl (onB_intro (fun h1=>?_) (fun h1=>?_))
 ·try simp only [h1] at hG
  refine awp_skip ?_;refine awp_cond rfl ?_;refine rgn fun E K J O=>?_;show aCall _ _ _ _ _ _ _
  first
   |refine aS [] (contains_spec G vs name hv) ?_
   |refine aS [] (contains_spec G ay name ha) ?_
  refine O _ (aN [1,2,3] rfl rfl ?_);clear O J K E;refine rgn fun E K J O=>?_;refine onB_intro (fun h2=>?_) (fun h2=>?_)
  ·try simp only [h2,bn] at hG
   refine aS [] ht ?_
   show aCall _ _ _ _ _ _ _
   cases hr:tmsN vs ay (args++condE cond) with
   |true=>
    rw [hr] at hs
    try simp only [hr] at hG
    refine aS [1] hs ?_;refine O _ ?_;clear O J K E
    (try simp only [bn] at hG)
    subst hG;exact ⟨_,[0,1],_,[],rfl,rfl,rfl,rfl,rfl,PWs.nil,rfl⟩
   |false=>
    rw [hr] at hs
    try simp only [hr] at hG
    refine aS [1] hs ?_;refine O _ ?_;clear O J K E
    (try simp only [bn] at hG)
    subst hG;exact ⟨_,[0,1],_,[],rfl,rfl,rfl,rfl,rfl,PWs.nil,rfl⟩
  try simp only [h2,bn] at hG
  refine O _ ?_;clear O J K E
  (try simp only [bn] at hG)
  subst hG;exact ⟨_,[0,1],_,[],rfl,rfl,rfl,rfl,rfl,PWs.nil,rfl⟩
 try simp only [h1] at hG
 refine rgn fun E K J O=>?_;refine O _ (aN [1,2,3,5,6] rfl rfl ?_);clear O J K E;refine awp_cond2 rfl (onB_intro (fun h2=>?_) (fun h2=>?_))
 ·try simp only [h2] at hG
  refine rgn fun E K J O=>?_;show aCall _ _ _ _ _ _ _
  first
   |refine aS [] (contains_spec G vs name hv) ?_
   |refine aS [] (contains_spec G ay name ha) ?_
  refine O _ (aN [1,2,3] rfl rfl ?_);clear O J K E;refine rgn fun E K J O=>?_;refine onB_intro (fun h3=>?_) (fun h3=>?_)
  ·try simp only [h3,bn] at hG
   refine aS [] ht ?_
   show aCall _ _ _ _ _ _ _
   cases hr:tmsN vs ay (args++condE cond) with
   |true=>
    rw [hr] at hs
    try simp only [hr] at hG
    refine aS [1] hs ?_;refine O _ ?_;clear O J K E
    (try simp only [bn] at hG)
    subst hG;exact ⟨_,[0,1],_,[],rfl,rfl,rfl,rfl,rfl,PWs.nil,rfl⟩
   |false=>
    rw [hr] at hs
    try simp only [hr] at hG
    refine aS [1] hs ?_;refine O _ ?_;clear O J K E
    (try simp only [bn] at hG)
    subst hG;exact ⟨_,[0,1],_,[],rfl,rfl,rfl,rfl,rfl,PWs.nil,rfl⟩
  try simp only [h3,bn] at hG
  refine O _ ?_;clear O J K E
  (try simp only [bn] at hG)
  subst hG;exact ⟨_,[0,1],_,[],rfl,rfl,rfl,rfl,rfl,PWs.nil,rfl⟩
 try simp only [h2] at hG
 refine rz [1,2,3,5,17] ?_;refine awp_cond2 rfl (onB_intro (fun h3=>?_) (fun h3=>?_))
 ·try simp only [h3] at hG
  refine rgn fun E K J O=>?_;show aCall _ _ _ _ _ _ _
  first
   |refine aS [] (contains_spec G vs name hv) ?_
   |refine aS [] (contains_spec G ay name ha) ?_
  refine O _ (aN [1,2,3] rfl rfl ?_);clear O J K E;refine rgn fun E K J O=>?_;refine onB_intro (fun h4=>?_) (fun h4=>?_)
  ·try simp only [h4,bn] at hG
   refine aS [] ht ?_
   show aCall _ _ _ _ _ _ _
   cases hr:tmsN vs ay (args++condE cond) with
   |true=>
    rw [hr] at hs
    try simp only [hr] at hG
    refine aS [1] hs ?_;refine O _ ?_;clear O J K E
    (try simp only [bn] at hG)
    subst hG;exact ⟨_,[0,1],_,[],rfl,rfl,rfl,rfl,rfl,PWs.nil,rfl⟩
   |false=>
    rw [hr] at hs
    try simp only [hr] at hG
    refine aS [1] hs ?_;refine O _ ?_;clear O J K E
    (try simp only [bn] at hG)
    subst hG;exact ⟨_,[0,1],_,[],rfl,rfl,rfl,rfl,rfl,PWs.nil,rfl⟩
  try simp only [h4,bn] at hG
  refine O _ ?_;clear O J K E
  (try simp only [bn] at hG)
  subst hG;exact ⟨_,[0,1],_,[],rfl,rfl,rfl,rfl,rfl,PWs.nil,rfl⟩
 try simp only [h3] at hG
 refine rz [1,2,3,27] ?_;refine awp_cond2 rfl (onB_intro (fun h4=>?_) (fun h4=>?_))
 ·try simp only [h4] at hG
  refine rgn fun E K J O=>?_;show aCall _ _ _ _ _ _ _
  first
   |refine aS [] (contains_spec G vs name hv) ?_
   |refine aS [] (contains_spec G ay name ha) ?_
  refine onB_intro (fun h5=>?_) (fun h5=>?_)
  ·try simp only [h5,bn] at hG
   refine aS [] (proc_spec G vs ay ps proc hp0) ?_;refine O _ (aN [1,2,3] rfl rfl ?_);clear O J K E;refine rgn fun E K J O=>?_;refine onB_intro (fun h6=>?_) (fun h6=>?_)
   ·try simp only [h6,bn] at hG
    refine aS [] ht ?_
    show aCall _ _ _ _ _ _ _
    cases hr:tmsN vs ay (args++condE cond) with
    |true=>
     rw [hr] at hs
     try simp only [hr] at hG
     refine aS [1] hs ?_;refine O _ ?_;clear O J K E
     (try simp only [bn] at hG)
     subst hG;exact ⟨_,[0,1],_,[],rfl,rfl,rfl,rfl,rfl,PWs.nil,rfl⟩
    |false=>
     rw [hr] at hs
     try simp only [hr] at hG
     refine aS [1] hs ?_;refine O _ ?_;clear O J K E
     (try simp only [bn] at hG)
     subst hG;exact ⟨_,[0,1],_,[],rfl,rfl,rfl,rfl,rfl,PWs.nil,rfl⟩
   try simp only [h6,bn] at hG
   refine O _ ?_;clear O J K E
   (try simp only [bn] at hG)
   subst hG;exact ⟨_,[0,1],_,[],rfl,rfl,rfl,rfl,rfl,PWs.nil,rfl⟩
  try simp only [h5,bn] at hG
  refine O _ (aN [1,2,3] rfl rfl ?_);clear O J K E;refine rgn fun E K J O=>?_;refine O _ ?_;clear O J K E
  (try simp only [bn] at hG)
  subst hG;exact ⟨_,[0,1],_,[],rfl,rfl,rfl,rfl,rfl,PWs.nil,rfl⟩
 try simp only [h4,bn] at hG
 refine awp_skip ?_;refine rgn fun E K J O=>?_;refine aS [] ht ?_
 show aCall _ _ _ _ _ _ _
 cases hr:tmsN vs ay (args++condE cond) with
 |true=>
  rw [hr] at hs
  try simp only [hr] at hG
  refine aS [1] hs ?_;refine O _ ?_;clear O J K E
  (try simp only [bn] at hG)
  subst hG;exact ⟨_,[0,1],_,[],rfl,rfl,rfl,rfl,rfl,PWs.nil,rfl⟩
 |false=>
  rw [hr] at hs
  try simp only [hr] at hG
  refine aS [1] hs ?_;refine O _ ?_;clear O J K E
  (try simp only [bn] at hG)
  subst hG;exact ⟨_,[0,1],_,[],rfl,rfl,rfl,rfl,rfl,PWs.nil,rfl⟩
theorem see_false(vs ay:List ByteArray)(ps:List Pc)(hv:vs.length≤1073741824)(ha:ay.length≤1073741824)(_hp0:ps.length≤1073741824)(kind name proc:ByteArray)(args:List Ex)(cond:List (List Ts))(body els:List Sm)(hw:wtL args+wtC cond≤500000000):Spec Tryz.prog G 164 [.d (.agg (Sm.mk kind name proc args cond body els).cs),.box 0 0,.box 1 0] (WkR vs ay ps false) (.ret (.tup [])) (WkR vs ay ps (false)):=by
 have hal:=wtL_len args;have hcl:=condE_len cond
 have hwa:wtL (args++condE cond)≤1000000000:=by rw [wtL_app];have:=condE_wt cond;omega
 have ht:=terms_spec G kind name proc args cond body els (by omega) (by omega);have hs:=place_terms G vs ay ps hv ha (args++condE cond) hwa;refine spec_of_awp2 TT_ok (N:=52) Tryz.func164 rfl (by rfl) (Nat.le_refl _) rfl ?_;refine rz [1,2,3] ?_;refine awp_seq ?_;refine rz [1,2,3,5] ?_;refine awp_block ?_;refine awp_seq ?_;refine rz [1,2,3,5,6] ?_;refine awp_cond2 rfl (onB_intro (fun h1=>?_) (fun h1=>?_))
 ·refine awp_skip ?_;refine awp_cond rfl ?_;refine rgn fun E K J O=>?_;refine O _ (aN [1,2,3] rfl rfl ?_);clear O J K E;refine rgn fun E K J O=>?_;refine O _ ?_;clear O J K E
  exact ⟨_,[0,1],_,[],rfl,rfl,rfl,rfl,rfl,PWs.nil,rfl⟩
 refine rgn fun E K J O=>?_;refine O _ (aN [1,2,3,5,6] rfl rfl ?_);clear O J K E;refine awp_cond2 rfl (onB_intro (fun h2=>?_) (fun h2=>?_))
 ·refine rgn fun E K J O=>?_;refine O _ (aN [1,2,3] rfl rfl ?_);clear O J K E;refine rgn fun E K J O=>?_;refine O _ ?_;clear O J K E
  exact ⟨_,[0,1],_,[],rfl,rfl,rfl,rfl,rfl,PWs.nil,rfl⟩
 refine rz [1,2,3,5,17] ?_;refine awp_cond2 rfl (onB_intro (fun h3=>?_) (fun h3=>?_))
 ·refine rgn fun E K J O=>?_;refine O _ (aN [1,2,3] rfl rfl ?_);clear O J K E;refine rgn fun E K J O=>?_;refine O _ ?_;clear O J K E
  exact ⟨_,[0,1],_,[],rfl,rfl,rfl,rfl,rfl,PWs.nil,rfl⟩
 refine rz [1,2,3,27] ?_;refine awp_cond2 rfl (onB_intro (fun h4=>?_) (fun h4=>?_))
 ·refine rgn fun E K J O=>?_;refine O _ (aN [1,2,3] rfl rfl ?_);clear O J K E;refine rgn fun E K J O=>?_;refine O _ ?_;clear O J K E
  exact ⟨_,[0,1],_,[],rfl,rfl,rfl,rfl,rfl,PWs.nil,rfl⟩
 refine awp_skip ?_;refine rgn fun E K J O=>?_;refine O _ ?_;clear O J K E;exact ⟨_,[0,1],_,[],rfl,rfl,rfl,rfl,rfl,PWs.nil,rfl⟩
theorem see_spec(vs ay:List ByteArray)(ps:List Pc)(hv:vs.length≤1073741824)(ha:ay.length≤1073741824)(hp0:ps.length≤1073741824)(s:Sm)(hw:wtS s≤500000000)(ok:Bool):Spec Tryz.prog G 164 [.d (.agg s.cs),.box 0 0,.box 1 0] (WkR vs ay ps ok) (.ret (.tup [])) (WkR vs ay ps (ok&&seeN vs ay ps s)):=by
 obtain ⟨kind,name,proc,args,cond,body,els⟩:=s;simp only [wtS] at hw
 cases ok with
 |true=>rw [Bool.true_and];exact see_true G vs ay ps hv ha hp0 kind name proc args cond body els (by omega)
 |false=>exact see_false G vs ay ps hv ha hp0 kind name proc args cond body els (by omega)
mutual
theorem flatS_wt:∀(s x:Sm),x∈flatS s→wtS x≤wtS s
 |.mk kind name proc args cond body els,x,h=>by
  simp only [flatS,List.mem_cons,List.mem_append] at h
  rcases h with rfl|h|h
  ·exact Nat.le_refl _
  ·have:=flat_wt body x h;simp only [wtS];omega
  have:=flat_wt els x h;simp only [wtS];omega
theorem flat_wt:∀(l:List Sm) (x:Sm),x∈flatB l→wtS x≤wtB l
 |[],x,h=>by simp [flatB] at h
 |s::r,x,h=>by
  simp only [flatB,List.mem_append] at h
  rcases h with h|h
  ·have:=flatS_wt s x h;simp only [wtB];omega
  have:=flat_wt r x h;simp only [wtB];omega
end
theorem stmts_spec(vs ay:List ByteArray)(ps:List Pc)(hv:vs.length≤1073741824)(ha:ay.length≤1073741824)(hp0:ps.length≤1073741824)(l:List Sm)(hw:wtB l≤500000000):Spec Tryz.prog G 99 [.d (.agg (PlC vs ay ps)),.d (.sl 7 (sms l))] [] (.ret (.d (.s (.bool ((flatB l).all (seeN vs ay ps)))))) []:=by
 have hk:=walk_all G vs ay ps 164 (seeN vs ay ps) (fuB l+1) l true (Nat.lt_succ_self _) (by omega) (fun x hx ok=>see_spec G vs ay ps hv ha hp0 x (by have:=flat_wt l x hx;omega) ok);rw [Bool.true_and] at hk;refine spec_of_awp2 TT_ok (N:=10) Tryz.func99 rfl (by rfl) (Nat.le_refl _) rfl ?_;refine rz [1,2] ?_;refine rz [1,2,5] ?_;refine rgs fun E K J O=>?_;refine aS [1,0] hk ?_;refine O _ (aN [5] rfl rfl ?_);clear O J K E;refine rz [4] ?_;refine awp_ret ?_;exact ⟨_,[],_,[.d (.s (.bool _))],rfl,rfl,rfl,rfl,rfl,PWs.refl _,rfl⟩
end
end Go.Abs
end
section
namespace Go.Abs
open Go Go.Proofs
attribute [local irreducible] aCall AWp Sub Spec
theorem procJ_at(v:ByteArray):∀(l:List Pc) (i:Nat),procJ v l i≥0→∃(j:Nat) (f:Pc),l[j]? = some f∧procJ v l i=((i+j:Nat):Int)
 |[],i,h=>absurd h (by simp [procJ])
 |f::r,i,h=>by
  simp only [procJ] at h ⊢
  cases hq:(f.name.toList==v.toList) with
  |true=>exact ⟨0,f,rfl,rfl⟩
  |false=>
   rw [hq] at h;obtain ⟨j,g,h1,h2⟩:=procJ_at v r (i+1) h;exact ⟨j+1,g,h1,by simp only;rw [h2];omega⟩
/-- What the procedure of a name wants. -/
def parms(ps:List Pc)(v:ByteArray):List ByteArray:=match ps[(procJ v ps 0).toNat]? with
 |some f=>f.params
 |none=>[]
theorem proc_at{ps:List Pc}{v:ByteArray}(h:procJ v ps 0≥0):∃f:Pc,0≤procJ v ps 0∧procJ v ps 0<(pcs ps).length∧(pcs ps)[(procJ v ps 0).toNat]? = some f.cs∧parms ps v=f.params:=by
 obtain ⟨j,f,h1,h2⟩:=procJ_at v ps 0 h
 have hj:(procJ v ps 0).toNat=j:=by omega
 obtain ⟨hl,hf⟩:=List.getElem?_eq_some_iff.1 h1;refine ⟨f,h,by rw [pcs_length];omega,?_,?_⟩
 ·rw [hj]
  simp only [pcs,List.getElem?_map,h1,Option.map_some]
 unfold parms
 rw [hj,h1]
/-- Does a call hand over what is wanted? -/
def seeC(ps:List Pc):Sm→Bool
 |.mk kind _ proc args _ _ _=>match (kind.toList==(⟨#[99,97,108,108]⟩:ByteArray).toList) with
  |true=>(((exs args).length:Int)==((strs (parms ps proc)).length:Int))
  |false=>true
def NmOk(ps:List Pc):Sm→Prop
 |.mk kind _ proc _ _ _ _=>(kind.toList==(⟨#[99,97,108,108]⟩:ByteArray).toList)=true→procJ proc ps 0≥0
section
variable (G:Glob)
theorem call_not(vs ay:List ByteArray)(ps:List Pc)(_hp0:ps.length≤1073741824)(kind name proc:ByteArray)(args:List Ex)(cond:List (List Ts))(body els:List Sm)(hk:(kind.toList==(⟨#[99,97,108,108]⟩:ByteArray).toList)=false)(ok:Bool):Spec Tryz.prog G 170 [.d (.agg (Sm.mk kind name proc args cond body els).cs),.box 0 0,.box 1 0] (WkR vs ay ps ok) (.ret (.tup [])) (WkR vs ay ps ok):=by
 refine spec_of_awp2 TT_ok (N:=24) Tryz.func170 rfl (by rfl) (Nat.le_refl _) rfl ?_;refine rz [1,2,3] ?_;refine rz [1,2,3,6] ?_;refine awp_cond2 rfl (onB_intro (fun h1=>?_) (fun h1=>?_))
 ·rw [hk] at h1
  cases h1
 refine awp_skip ?_;exact ⟨_,[0,1],_,[],rfl,rfl,rfl,rfl,rfl,PWs.nil,rfl⟩
def p170_2:Plan:=(.load 0 (.take 1 (.take 2 (.load 3 (.take 4 (.take 5 (.load 6 (.load 7 (.take 8 (.load 9 (.one 10 (.take 11 (.take 12 (.one 13 (.take 14 (.take 15 (.take 16 (.one 17 .done))))))))))))))))))
theorem call_true(vs ay:List ByteArray)(ps:List Pc)(hp0:ps.length≤1073741824)(kind name proc:ByteArray)(args:List Ex)(cond:List (List Ts))(body els:List Sm)(hk:(kind.toList==(⟨#[99,97,108,108]⟩:ByteArray).toList)=true)(hj0:0≤procJ proc ps 0)(_hj1:procJ proc ps 0<(pcs ps).length)(f:Pc)(hat0:(pcs ps)[(procJ proc ps 0).toNat]? = some f.cs):Spec Tryz.prog G 170 [.d (.agg (Sm.mk kind name proc args cond body els).cs),.box 0 0,.box 1 0] (WkR vs ay ps true) (.ret (.tup [])) (WkR vs ay ps (((exs args).length:Int)==((strs f.params).length:Int))):=by
 obtain ⟨nm,pr,bd,⟨o1,n1,m1,l1⟩⟩:=f;have hat:=hat0;refine spec_of_awp2 TT_ok (N:=24) Tryz.func170 rfl (by rfl) (Nat.le_refl _) rfl ?_;refine rz [1,2,3] ?_;refine rz [1,2,3,6] ?_;refine awp_cond2 rfl (onB_intro (fun h1=>?_) (fun h1=>?_))
 ·refine (awp_draw TT_ok mixed p170_2 [17] (fun _=>true) (by kernel_rfl) fun E K J O=>?_)
  refine aS [] (proc_spec G vs ay ps proc hp0) ?_;refine And.intro (by omega) (Exists.intro _ (And.intro hat ?_));refine O _ ?_;clear O J K E;exact ⟨_,[0,1],_,[],rfl,rfl,rfl,rfl,rfl,PWs.nil,rfl⟩
 rw [hk] at h1;cases h1
theorem call_false(vs ay:List ByteArray)(ps:List Pc)(_hp0:ps.length≤1073741824)(kind name proc:ByteArray)(args:List Ex)(cond:List (List Ts))(body els:List Sm)(hk:(kind.toList==(⟨#[99,97,108,108]⟩:ByteArray).toList)=true)(_hj0:0≤procJ proc ps 0)(_hj1:procJ proc ps 0<(pcs ps).length)(f:Pc)(hat0:(pcs ps)[(procJ proc ps 0).toNat]? = some f.cs):Spec Tryz.prog G 170 [.d (.agg (Sm.mk kind name proc args cond body els).cs),.box 0 0,.box 1 0] (WkR vs ay ps false) (.ret (.tup [])) (WkR vs ay ps false):=by
 obtain ⟨nm,pr,bd,⟨o1,n1,m1,l1⟩⟩:=f;have hat:=hat0;refine spec_of_awp2 TT_ok (N:=24) Tryz.func170 rfl (by rfl) (Nat.le_refl _) rfl ?_;refine rz [1,2,3] ?_;refine rz [1,2,3,6] ?_;refine awp_cond2 rfl (onB_intro (fun h1=>?_) (fun h1=>?_))
 ·refine (awp_draw TT_ok mixed p170_2 [17] (fun _=>true) (by kernel_rfl) fun E K J O=>?_)
  refine O _ ?_;clear O J K E;exact ⟨_,[0,1],_,[],rfl,rfl,rfl,rfl,rfl,PWs.nil,rfl⟩
 rw [hk] at h1;cases h1
theorem seeCall_spec(vs ay:List ByteArray)(ps:List Pc)(hp0:ps.length≤1073741824)(s:Sm)(hN:NmOk ps s)(ok:Bool):Spec Tryz.prog G 170 [.d (.agg s.cs),.box 0 0,.box 1 0] (WkR vs ay ps ok) (.ret (.tup [])) (WkR vs ay ps (ok&&seeC ps s)):=by
 obtain ⟨kind,name,proc,args,cond,body,els⟩:=s;simp only [NmOk] at hN;simp only [seeC]
 cases hk:(kind.toList==(⟨#[99,97,108,108]⟩:ByteArray).toList) with
 |false=>rw [Bool.and_true];exact call_not G vs ay ps hp0 kind name proc args cond body els hk ok
 |true=>
  obtain ⟨f,hj0,hj1,hat,hpm⟩:=proc_at (hN hk);simp only [hpm]
  cases ok with
  |true=>rw [Bool.true_and];exact call_true G vs ay ps hp0 kind name proc args cond body els hk hj0 hj1 f hat
  |false=>exact call_false G vs ay ps hp0 kind name proc args cond body els hk hj0 hj1 f hat
theorem calls_spec(vs ay:List ByteArray)(ps:List Pc)(hp0:ps.length≤1073741824)(l:List Sm)(hw:wtB l≤500000000)(hN:∀x,x∈flatB l→NmOk ps x):Spec Tryz.prog G 101 [.d (.agg (PlC vs ay ps)),.d (.sl 7 (sms l))] [] (.ret (.d (.s (.bool ((flatB l).all (seeC ps)))))) []:=by
 have hk:=walk_all G vs ay ps 170 (seeC ps) (fuB l+1) l true (Nat.lt_succ_self _) (by omega) (fun x hx ok=>seeCall_spec G vs ay ps hp0 x (hN x hx) ok);rw [Bool.true_and] at hk;refine spec_of_awp2 TT_ok (N:=10) Tryz.func101 rfl (by rfl) (Nat.le_refl _) rfl ?_;refine rz [1,2] ?_;refine rz [1,2,5] ?_;refine rgs fun E K J O=>?_;refine aS [1,0] hk ?_;refine O _ (aN [5] rfl rfl ?_);clear O J K E;refine rz [4] ?_;refine awp_ret ?_;exact ⟨_,[],_,[.d (.s (.bool _))],rfl,rfl,rfl,rfl,rfl,PWs.refl _,rfl⟩
end
end Go.Abs
end
section
namespace Go.Abs
open Go Go.Proofs
attribute [local irreducible] aCall AWp Sub Spec
def ConcatOk(G:Glob):Prop:=∀a b:List ByteArray,a.length+b.length≤1000000000→Spec Tryz.prog G 98 [.d (.sl 1 [[.sl 1 (strs a)],[.sl 1 (strs b)]])] [] (.ret (.d (.sl 1 (strs (a++b))))) []
/-- Check's program, and the names of its arrays. -/
def AtR(vars:List ByteArray)(arrays:List Ar)(procs:List Pc)(main:List Sm)(an:List ByteArray):List Row:=[.box 28 [.d (.sl 1 (strs vars)),.d (.sl 2 (ars arrays)),.d (.sl 7 (pcs procs)),.d (.sl 7 (sms main))],.box 23 [.d (.sl 1 (strs an))]]
theorem pcs_take(l:List Pc)(i:Nat):(pcs l).take i=pcs (l.take i):=by simp [pcs]
section
variable (G:Glob)
theorem at_all(vars:List ByteArray)(arrays:List Ar)(procs:List Pc)(main:List Sm)(an:List ByteArray):Spec Tryz.prog G 97 [.d (num procs.length),.box 0 0,.box 1 0] (AtR vars arrays procs main an) (.ret (.d (.agg (PlC vars an procs)))) (AtR vars arrays procs main an):=by
 refine spec_of_awp2 TT_ok (N:=32) Tryz.func97 rfl (by rfl) (Nat.le_refl _) rfl ?_;refine rz [0,1,2,4] ?_;refine awp_seq ?_;refine rz [0,1,2,4,9] ?_;refine awp_cond2 rfl (onB_intro (fun h1=>?_) (fun h1=>?_))
 ·refine rz [4] ?_;refine awp_ret ?_
  exact ⟨_,[0,1],_,[.d (.agg (PlC vars an procs))],rfl,rfl,rfl,rfl,rfl,PWs.refl _,rfl⟩
 rw [pcs_length] at h1
 simp at h1
def p97_3:Plan:=(.take 0 (.load 1 (.take 2 (.load 3 (.take 4 (.take 5 (.take 6 (.load 7 (.load 10 (.take 11 (.load 12 (.take 13 (.take 14 (.one 8 (.one 9 (.one 15 (.one 16 .done)))))))))))))))))
theorem at_one(hC:ConcatOk G)(vars:List ByteArray)(arrays:List Ar)(procs:List Pc)(main:List Sm)(an:List ByteArray)(i:Nat)(hi:i<procs.length)(_hn:procs.length≤1000000000)(f:Pc)(hf:procs[i]? = some f)(hl:vars.length+f.params.length≤1000000000):Spec Tryz.prog G 97 [.d (num i),.box 0 0,.box 1 0] (AtR vars arrays procs main an) (.ret (.d (.agg (PlC (vars++f.params) an (procs.take i))))) (AtR vars arrays procs main an):=by
 have hat:(pcs procs)[(i:Int).toNat]? = some f.cs:=by rw [Int.toNat_natCast];simp [pcs,List.getElem?_map,hf]
 obtain ⟨nm,pr,bd,⟨o1,n1,m1,l1⟩⟩:=f;rw [show PlC (vars++pr) an (procs.take i)=[.sl 1 (strs (vars++pr)),.sl 1 (strs an),.sl 7 ((pcs procs).take i)] from by rw [PlC,pcs_take]];refine spec_of_awp2 TT_ok (N:=32) Tryz.func97 rfl (by rfl) (Nat.le_refl _) rfl ?_;refine rz [0,1,2,4] ?_;refine awp_seq ?_;refine rz [0,1,2,4,9] ?_;refine awp_cond2 rfl (onB_intro (fun h1=>?_) (fun h1=>?_))
 ·have q:=eq_of_beq h1
  rw [pcs_length] at q;omega
 refine awp_skip ?_;refine awp_seq ?_;refine (awp_draw TT_ok mixed p97_3 [16] (fun _=>true) (by kernel_rfl) fun E K J O=>?_);refine And.intro (by omega) (Exists.intro _ (And.intro hat ?_));refine Exists.intro i (And.intro rfl (And.intro (by rw [pcs_length];omega) ?_));refine aS [] (hC vars pr hl) ?_;refine O _ (aN [4] rfl rfl ?_);clear O J K E;refine awp_ret ?_;exact ⟨_,[0,1],_,[.d (.agg [.sl 1 (strs (vars++pr)),.sl 1 (strs an),.sl 7 ((pcs procs).take i)])],rfl,rfl,rfl,rfl,rfl,PWs.refl _,rfl⟩
end
end Go.Abs
end
section
namespace Go.Proofs
open Go Go.RowKit Go.Shelf Go.Sort
theorem zs_enc(l:List (List UInt8)):(l.map fun x=>(⟨x.toArray⟩:ByteArray)).map Value.string=l.map encStr:=by
  rw [List.map_map];exact List.map_congr_left fun x _=>rfl
set_option maxHeartbeats 2000000 in
set_option maxRecDepth 100000 in
theorem Tryz.twice_tail (arg:Value) (ss ts:List (List UInt8)) (n:Nat) (w:World) (hts:ss.mergeSort (fun x y=>decide (x≤y))=ts) (hlen0:ss.length=n) (hn:n≤1000000)
    (hclone:Calls Tryz.prog 95 #[arg] w fun e w'=>∃v',e=.returned v'∧w'.ownsRow w.heap.size 9 1 v' n (ss.map encStr)∧v'≠.slice none 0 0∧Below w.heap.size w w') :
    Calls Tryz.prog 96 #[arg] w fun e w'=>e=.returned (.bool (decide ((Lib.compact ts).length<n)))∧Below w.heap.size w w':=by
  have hl2:ts.length=n:=by rw [← hts,List.length_mergeSort,hlen0]
  go_enter Tryz.func96,Tryz.ntmps96
  go_wp2_with (first
    | (go_at_call 95;refine hclone.mono ?_;rintro e w1 ⟨v1,rfl,hown,hnn,hbel⟩
       obtain ⟨g,cap,rfl,hbg,hgl,hncap,hcm,hlen,hH⟩:=Lib.holds_of_ownsRow hown hnn;have hsort:=Tryz.slices_Sort_string g 0 cap ss w1 hH hgl (by omega);rw [hlen,hts] at hsort;have X:Aside (Below w.heap.size w w1∧w.heap.size≤g∧g<w1.heap.size∧n≤cap∧cap≤maxLen∧Holds encStr w1 g 0 ss.toArray):=⟨hbel,hbg,hgl,hncap,hcm,hH⟩
       clear hown hbel hH hnn hclone)
    | (go_at_call 115;refine hsort.mono ?_;rintro e w2 ⟨rfl,nn,os,rfl⟩
       have hH2:Holds encStr (grow (putRow encStr (Sort.ahead w1 nn) g 0 ts.toArray) os) g 0 ts.toArray:=
         holds_grow encStr _ os g 0 _ (by simpa [putRow,mapBlock,Sort.ahead] using X.out.2.2.1) (holds_putRow encStr _ g 0 _ _ (holds_ahead encStr w1 nn g 0 _ X.out.2.2.2.2.2) (by simp [hl2,hlen0]))
       have hb2:Below w.heap.size w (grow (putRow encStr (Sort.ahead w1 nn) g 0 ts.toArray) os):=X.out.1.grown (grownBy_sorted _) X.out.1.size (fun j hj=>by cases hj;exact X.out.2.1)
       have hclone2:=Tryz.slices_Clone_string g 0 n cap (ts.map fun x=>(⟨x.toArray⟩:ByteArray)) (grow (putRow encStr (Sort.ahead w1 nn) g 0 ts.toArray) os) (by simp [hl2]) (by omega) (fun j hj=>by
         have hj':j<ts.toArray.size:=by simpa using hj
         have:=(hH2 j hj').1
         simpa [encStr,List.getD_eq_getElem?_getD,List.getElem?_eq_getElem (show j<ts.length by simpa using hj)] using this)
       rw [List.take_of_length_le (by simp [hl2]),zs_enc] at hclone2;generalize hw2:grow (putRow encStr (Sort.ahead w1 nn) g 0 ts.toArray) os=w2 at *
       clear hH2 hsort)
    | (go_at_call 95;refine hclone2.mono ?_;rintro e w3 ⟨v3,rfl,hown3,hnn3,hbel3⟩
       obtain ⟨g3,cap3,rfl,hbg3,hgl3,hncap3,hcm3,hlen3,hH3⟩:=Lib.holds_of_ownsRow hown3 hnn3;have hcomp:=Tryz.slices_Compact_string g3 0 cap3 ts w3 hH3 (by omega) (by omega);rw [hl2] at hcomp;have Y:Aside (Below w.heap.size w w2∧Below w2.heap.size w2 w3∧w2.heap.size≤g3):=⟨hb2,hbel3,hbg3⟩
       clear hown3 hbel3 hH3 hnn3 hclone2)
    | (go_at_call 162;refine hcomp.mono ?_;rintro e w4 ⟨rfl,q,rfl⟩))
  go_ret
  have h3:Below w.heap.size w w3:=Y.out.1.trans (Y.out.2.1.mono Y.out.1.size);exact ⟨rfl,Lib.below_putRow h3 (Nat.le_trans Y.out.1.size Y.out.2.2)⟩
set_option maxHeartbeats 2000000 in
set_option maxRecDepth 100000 in
theorem Tryz.twice_nil(n c:Nat)(hn:n=0)(w:World):Calls Tryz.prog 96 #[.slice none n c] w fun e w'=>e=.returned (.bool false)∧w'=w:=by
  subst hn
  go_enter Tryz.func96,Tryz.ntmps96
  go_wp2_with (first
    | (go_at_call 95;refine (Tryz.slices_Clone_string_nil 0 c _).mono ?_;rintro e w' ⟨rfl,rfl⟩)
    | (go_at_call 115;refine (Any.slices_Sort_string_none Tryz.lays190 none 0 _).mono ?_;rintro e w' ⟨rfl,rfl⟩)
    | (go_at_call 95;refine (Tryz.slices_Clone_string_nil 0 0 _).mono ?_;rintro e w' ⟨rfl,rfl⟩)
    | (go_at_call 162;refine (Tryz.slices_Compact_string_empty none 0 _).mono ?_;rintro e w' ⟨rfl,rfl⟩))
  go_ret
  exact ⟨rfl,rfl⟩
end Go.Proofs
namespace Go.Abs
open Go Go.Proofs
/-- Is a name twice among names? -/
def dupB(l:List ByteArray):Bool:=!decide (l.map (·.data.toList)).Nodup
theorem strs_cells{lim:Nat→Nat}{w:World}{b:Nat}(xs:List ByteArray)(o:Nat)(h:VRow lim w b 1 o (strs xs)):∀j,j<xs.length→w.cell? ⟨b,o+j,none⟩=some (.string (xs.getD j ByteArray.empty)):=fun j hj=>by
  have:=strs_cell xs o h j xs[j] (List.getElem?_eq_getElem hj)
  simpa [List.getD_eq_getElem?_getD,List.getElem?_eq_getElem hj] using this
theorem twice_spec(G:Glob)(l:List ByteArray)(hl:l.length≤1000000):Spec Tryz.prog G 96 [.d (.sl 1 (strs l))] [] (.ret (.d (.s (.bool (dupB l))))) []:=by
  refine spec_of_grown Tryz.func96 rfl (by rfl) fun H lim w vs hrows hglob hvs=>?_;simp only [Vs,V,VD] at hvs;obtain ⟨v,us,rfl,⟨A,n,c,rfl,hn,hnc,hc,hrow⟩,rfl⟩:=hvs
  have hn':n=l.length:=by rw [hn];exact strs_length l
  have fin:∀b:Bool,∀(e:Ending) (w':World),e=.returned (.bool b)∧RowKit.Below w.heap.size w w'→b=dupB l→(∃v,e=.returned v∧∀lim',Fr (fun _=>False) lim w lim' w'→V H lim' w' (.d (.s (.bool (dupB l)))) v)∧RowKit.Below w.heap.size w w':=by
    rintro b e w' ⟨rfl,hb⟩ rfl;exact ⟨⟨_,rfl,fun lim' _=>by simp only [V,VD]⟩,hb⟩
  cases A with
  |none=>
    have h0:n=0:=by
      rcases Nat.eq_zero_or_pos n with q|q
      · exact q
      obtain ⟨b,o,e,_⟩:=hrow (by omega);cases e
    obtain rfl:l=[]:=List.eq_nil_of_length_eq_zero (by omega);refine Calls.mono (Tryz.twice_nil n c h0 w) ?_;rintro e w' ⟨rfl,rfl⟩;exact fin false _ _ ⟨rfl,RowKit.Below.refl _ _⟩ rfl
  |some a=>
    have hcl:Calls Tryz.prog 95 #[.slice (some a) n c] w fun e w'=>∃v',e=.returned v'∧w'.ownsRow w.heap.size 9 1 v' n ((l.map (·.data.toList)).map encStr)∧v'≠.slice none 0 0∧RowKit.Below w.heap.size w w':=by
      rw [Lib.map_encStr]
      rcases Nat.eq_zero_or_pos n with q|q
      · subst q
        obtain rfl:l=[]:=List.eq_nil_of_length_eq_zero (by omega);exact Tryz.slices_Clone_string_zero a c w
      obtain ⟨b,o,e,hr⟩:=hrow (by omega);cases e;have:=Tryz.slices_Clone_string b o n c l w (by omega) (by omega) (strs_cells l o hr)
      rwa [List.take_of_length_le (by omega)] at this
    refine Calls.mono (Tryz.twice_tail _ (l.map (·.data.toList)) _ n w rfl (by simp [hn']) (by omega) hcl) ?_;intro e w' h;refine fin _ e w' h ?_;have:=twice_pure (l.map (·.data.toList));rw [List.length_map] at this;rw [hn',this]
    rfl
end Go.Abs
end
section
namespace Go.Proofs
open Go Go.RowKit
set_option maxHeartbeats 2000000 in
set_option maxRecDepth 100000 in
theorem Tryz.grow_some(n:Nat)(h0:0<n)(hn:n≤1000000000)(w:World):
  Calls Tryz.prog 163 #[.slice none 0 0,.int .i64 n] w fun e w'=>∃(cap:Nat) (cells:Array Value),e=.returned (.slice (some ⟨w.heap.size,0,none⟩) 0 cap)∧cap≤maxLen∧cells.size=cap∧w'=w.drew.alloc (.cells cells 9):=by
 have hlt:¬((n:Int)<0):=by omega
 have hgt:(n:Int)>0:=by omega
 have hb:Tryz.t9.bytes=16:=by kernel_rfl
 have hns:=nextslicecap_zero h0
 go_enter Tryz.func163,Tryz.ntmps163
 go_wp2
 all_goals rw [hb] at *
 all_goals try rw [hns] at *
 all_goals first
  | (exfalso;omega)
  |skip
 go_ret
 have hge:=grownCap_ge w n 0 9;exact ⟨grownCap w n 0 9,rfl,grownCap_le_maxLen w n 0 9 (by simp only [maxLen];omega),_,by simp [Builtin.zeroCells,grownCap] at hge ⊢;omega,rfl⟩
set_option maxHeartbeats 2000000 in
set_option maxRecDepth 100000 in
theorem Tryz.grow_none(w:World):Calls Tryz.prog 163 #[.slice none 0 0,.int .i64 0] w fun e w'=>e=.returned (.slice none 0 0)∧w'=w:=by
 go_enter Tryz.func163,Tryz.ntmps163
 go_wp2
 go_ret
 exact ⟨rfl,rfl⟩
end Go.Proofs
namespace Go.Abs
open Go Go.Proofs
theorem Fr_drew_alloc{lim:Nat→Nat}{w:World}(o:Obj)(m:Nat):Fr (fun _=>False) lim w (upd lim w.heap.size m) (w.drew.alloc o):=by
 refine ⟨rfl,rfl,rfl,by simp,fun b hb=>?_,fun b hb _=>?_⟩
 ·rw [upd_other _ _ (by omega)]
  refine ⟨Nat.le_refl _,fun o' _=>?_⟩;exact World.cell?_alloc_lt w.drew _ _ hb
 have:=(Fr_alloc (lim:=lim) (w:=w) o m).same b hb (fun h=>h);exact this
theorem grow_spec(G:Glob)(n:Nat)(hn:n≤1000000000):Spec Tryz.prog G 163 [.d (.s (.slice none 0 0)),.d (num n)] [] (.ret (.acc 0)) [.acc 9 1 []]:=by
 refine ⟨enters Tryz.func163 rfl (by rfl),Nat.zero_le _,fun H lim w vs hrows hglob hvs=>?_⟩;simp only [Vs,V,VD,num] at hvs;obtain ⟨_,_,rfl,rfl,_,_,rfl,rfl,rfl⟩:=hvs;have hR:=rep0 hrows hglob
 rcases Nat.eq_zero_or_pos n with h0|h0
 ·subst h0
  refine Calls.mono (Tryz.grow_none w) ?_;rintro e w' ⟨rfl,rfl⟩;have hx:=nx_push (r:=.acc 9 1 []) hR (Fr.refl _ _ _) (u:=.slice none 0 0) (fun b hb=>hb.elim) ⟨_,[],upd_same _ _ _,⟨by simp,.inl ⟨rfl,rfl⟩⟩,by simp [VDs],by simp,by decide,by simp [blk]⟩;exact ⟨_,_,hx.rep.rows,hx.fr.weaken fun _ ⟨_,q,_⟩=>q.elim,hx.ptr,hx.blocks,_,rfl,by simp only [V];exact upd_same _ _ _⟩
 refine Calls.mono (Tryz.grow_some n h0 hn w) ?_;rintro e w' ⟨cap,cells,rfl,hc,hs,rfl⟩;have hx:=nx_push (r:=.acc 9 1 []) hR (Fr_drew_alloc (.cells cells 9) 0) (u:=.slice (some ⟨w.heap.size,0,none⟩) 0 cap) (fun b hb=>Nat.le_of_eq (Eq.symm hb)) ⟨_,[],upd_same _ _ _,⟨by simp,.inr ⟨w.heap.size,cap,cells,rfl,Nat.zero_le _,heap_alloc_new w.drew _,Nat.zero_le _,hc,by simp [hs],by simp⟩⟩,by simp [VDs],by simp,by decide,fun b hb=>by simp only [blk,Option.some.injEq] at hb;subst hb;rw [upd_same];rfl⟩;exact ⟨_,_,hx.rep.rows,hx.fr.weaken fun _ ⟨_,q,_⟩=>q.elim,hx.ptr,hx.blocks,_,rfl,by simp only [V];exact upd_same _ _ _⟩
end Go.Abs
end
section
namespace Go.Abs
open Go Go.Proofs
attribute [local irreducible] aCall AWp Sub Spec
def lsts(L:List (List ByteArray)):List (List Data):=L.map fun x=>[.sl 1 (strs x)]
theorem lsts_len(L:List (List ByteArray)):(lsts L).length=L.length:=by simp [lsts]
theorem lsts_at{l d e:List (List ByteArray)}{x:List ByteArray}(h:l=d++x::e):(lsts l)[((d.length:Nat):Int).toNat]? = some [.sl 1 (strs x)]:=by
 subst h;rw [Int.toNat_natCast];simp [lsts]
def totL:List (List ByteArray)→Nat
 |[]=>0
 |x::r=>x.length+totL r
theorem totL_app:∀a b,totL (a++b)=totL a+totL b
 |[],b=>by simp [totL]
 |x::a,b=>by simp only [List.cons_append,totL,totL_app a b];omega
theorem totL_snoc(d:List (List ByteArray))(x:List ByteArray):((totL (d++[x]):Nat):Int)=(totL d:Int)+((strs x).length:Int):=by
 rw [totL_app,strs_length];simp [totL]
theorem flat_tot:∀L:List (List ByteArray),L.flatten.length=totL L
 |[]=>rfl
 |x::r=>by simp only [List.flatten_cons,List.length_append,totL,flat_tot r]
theorem strs_flat(d:List (List ByteArray))(x:List ByteArray):strs d.flatten++strs x=strs (d++[x]).flatten:=by simp [strs]
section
variable (G:Glob)
theorem concatL_spec(l:List (List ByteArray))(ht:totL l≤1000000000)(hb:l.length≤1073741824):Spec Tryz.prog G 98 [.d (.sl 1 (lsts l))] [] (.ret (.d (.sl 1 (strs l.flatten)))) []:=by
 refine spec_of_awp2 TT_ok (N:=36) Tryz.func98 rfl (by rfl) (Nat.le_refl _) rfl ?_;refine rz [0] ?_;refine rz [0,3] ?_;refine awp_seq ?_;refine rz [0,3,9,10,11] ?_;refine awp_block ?_;refine awp_loop (fun k Y=>∃(d1 e1:List (List ByteArray)),k=e1.length∧l=d1++e1∧Y=⟨[(0,.d (.sl 1 (lsts l))),(3,.d (num (totL d1:Nat))),(9,.d (.sl 1 (lsts l))),(10,.d (num (lsts l).length)),(11,.d (num d1.length))],[]⟩) (l.length) (⟨[],l,rfl,rfl,rfl⟩) ?_;rintro k Y ⟨d1,e1,rfl,hl1,rfl⟩
 have hll1:(lsts l).length=d1.length+e1.length:=by rw [lsts_len,hl1,List.length_append]
 have hdl1:d1.length+e1.length≤1073741824:=by rw [hl1,List.length_append] at hb;exact hb
 refine rz [0,3,9,10,11,12] ?_;refine awp_seq ?_;refine awp_cond2 rfl (onB_intro (fun h1=>?_) (fun h1=>?_))
 ·have h1':=of_decide_eq_true h1
  rw [hll1] at h1'
  cases e1 with
  |nil=>simp only [List.length_nil] at h1';omega
  |cons x e1b=>
  subst hl1;simp only [List.length_cons] at hdl1;have hx:=ht;rw [totL_app] at hx;simp only [totL] at hx;have hsl:=strs_length x;refine awp_skip ?_;refine awp_seq ?_;refine awp_block ?_;refine rgs fun E K J O=>?_;refine And.intro (by omega) (Exists.intro _ (And.intro (lsts_at rfl) ?_));refine O _ (aN [0,3,5,9,10,11] rfl rfl ?_);clear O J K E;refine rz [0,3,9,10,11] ?_;refine rz [0,3,9,10,11,20] ?_;refine awp_cond2 rfl (onB_intro (fun h2=>?_) (fun h2=>?_))
  ·rw [wrapId (by omega) (by omega)] at h2
   have q:=of_decide_eq_true h2;omega
  refine awp_skip ?_;refine rgn fun E K J O=>?_;refine O _ ?_;clear O J K E;exact ⟨_,Nat.lt_succ_self _,_,sub_norm (slots:=[0,3,9,10,11]) rfl rfl,d1++[x],e1b,rfl,by simp,by rw [totL_snoc,List.length_append,wrapId (by omega) (by omega),wrapId (by omega) (by omega)];rfl⟩
 have h1':=of_decide_eq_false h1;rw [hll1] at h1';obtain rfl:e1=[]:=List.eq_nil_of_length_eq_zero (by omega);rw [List.append_nil] at hl1;subst hl1;refine awp_exit ?_;refine awp_norm [0,3] rfl rfl ?_;refine rgs fun E K J O=>?_;refine aS [] (grow_spec G (totL l) ht) ?_;refine O _ (aN [0,6] rfl rfl ?_);clear O J K E;refine awp_seq ?_;refine rz [6,25,26,27] ?_;refine awp_block ?_;refine awp_loop (fun k Y=>∃(d2 e2:List (List ByteArray)),k=e2.length∧l=d2++e2∧Y=⟨[(6,.acc 0),(25,.d (.sl 1 (lsts l))),(26,.d (num (lsts l).length)),(27,.d (num d2.length))],[.acc 9 1 (strs d2.flatten)]⟩) (l.length) (⟨[],l,rfl,rfl,rfl⟩) ?_;rintro k Y ⟨d2,e2,rfl,hl2,rfl⟩
 have hll2:(lsts l).length=d2.length+e2.length:=by rw [lsts_len,hl2,List.length_append]
 have hdl2:d2.length+e2.length≤1073741824:=by rw [hl2,List.length_append] at hb;exact hb
 refine rz [6,25,26,27,28] ?_;refine awp_seq ?_;refine awp_cond2 rfl (onB_intro (fun h2=>?_) (fun h2=>?_))
 ·have h2':=of_decide_eq_true h2
  rw [hll2] at h2'
  cases e2 with
  |nil=>simp only [List.length_nil] at h2';omega
  |cons x e2b=>
  subst hl2;simp only [List.length_cons] at hdl2;have hx:=ht;rw [totL_app] at hx;simp only [totL] at hx;have hft:=flat_tot d2;refine awp_skip ?_;refine awp_seq ?_;refine awp_block ?_;refine rgs fun E K J O=>?_;refine And.intro (by omega) (Exists.intro _ (And.intro (lsts_at rfl) ?_));refine O _ (aN [6,8,25,26,27] rfl rfl ?_);clear O J K E;refine rgn fun E K J O=>?_;refine And.intro (And.intro ((by simp only [strs_length,List.length_append,List.length_cons,List.length_nil] at *;omega)) ((by simp only [strs_length,List.length_append,List.length_cons,List.length_nil,maxLen] at *;omega))) ?_;refine O _ (aN [6,25,26,27] rfl rfl ?_);clear O J K E;refine rgn fun E K J O=>?_;refine O _ ?_;clear O J K E;exact ⟨_,Nat.lt_succ_self _,_,sub_pick (L:=[0]) (slots:=[6,25,26,27]) rfl rfl rfl rfl rfl,d2++[x],e2b,rfl,by simp,by rw [← strs_flat,List.length_append,wrapId (by omega) (by omega)];rfl⟩
 have h2':=of_decide_eq_false h2;rw [hll2] at h2';obtain rfl:e2=[]:=List.eq_nil_of_length_eq_zero (by omega);rw [List.append_nil] at hl2;subst hl2;refine awp_exit ?_;refine awp_norm [6] rfl rfl ?_;refine rz [2] ?_;refine awp_ret ?_;exact ⟨_,[],_,[.d (.sl 1 (strs l.flatten))],rfl,rfl,rfl,rfl,rfl,PWs.refl _,rfl⟩
end
theorem concat_spec(G:Glob):ConcatOk G:=fun a b h=>by
 have:=concatL_spec G [a,b] (by simp [totL];omega) (by simp)
 simpa [lsts] using this
end Go.Abs
end
section
namespace Go.Abs
open Go Go.Proofs
attribute [local irreducible] aCall AWp Sub Spec
section
variable {t:Nat→TypeId}{u:Nat→Value}
theorem coded_err(hE:ErrsOk t u)(k:Nat)(hk:k≤7)(c:Int):Spec Tryz.prog (GV t u) 25 [.d (.s (.iface (t k) (u k))),.d (num c)] [] (.ret (.d (.s (.bool (((posOf k+1:Int)==c)&&((-1:Int)==-1)))))) []:=by
 refine spec_of_awp2 TT_ok (N:=19) Tryz.func25 rfl (by rfl) (Nat.le_refl _) rfl ?_;refine rz [0,1] ?_;refine rgs fun E K J O=>?_;refine aS [] (code_err hE k hk) ?_;refine O _ (aN [1,5,6] rfl rfl ?_);clear O J K E;refine rgs fun E K J O=>?_;refine onB_intro (fun h1=>?_) (fun h1=>?_)
 ·refine O _ (aN [4] rfl rfl ?_);clear O J K E;refine awp_ret ?_
  exact ⟨_,[],_,[.d (.s (.bool _))],rfl,rfl,rfl,rfl,rfl,by (first|exact PWs.refl _|(simp only [h1,bz];exact PWs.refl _)),rfl⟩
 refine O _ (aN [4] rfl rfl ?_);clear O J K E;refine awp_ret ?_;exact ⟨_,[],_,[.d (.s (.bool _))],rfl,rfl,rfl,rfl,rfl,by (first|exact PWs.refl _|(simp only [h1,bz];exact PWs.refl _)),rfl⟩
end
end Go.Abs
end
section
namespace Go.Abs
open Go Go.Proofs
attribute [local irreducible] aCall AWp Sub Spec
theorem nil_strs{l:List ByteArray}(h:nilOf (.d (.sl 1 (strs l))) true):l=[]:=by
 have:(strs l).length=0:=by
  cases l with
  |nil=>rfl
  |cons x r=>simp [nilOf,strs] at h
 rw [strs_length] at this;exact List.eq_nil_of_length_eq_zero this
theorem strs_app(a b:List ByteArray):strs (a++b)=strs a++strs b:=by simp [strs]
def arN(l:List Ar):List ByteArray:=l.map (·.name)
def pcN(l:List Pc):List ByteArray:=l.map (·.name)
def prmF:List Pc→List ByteArray
 |[]=>[]
 |f::r=>f.params++prmF r
theorem prmF_app:∀a b:List Pc,prmF (a++b)=prmF a++prmF b
 |[],_=>rfl
 |f::a,b=>by simp only [List.cons_append,prmF,prmF_app a b,List.append_assoc]
theorem arN_snoc(d:List Ar)(nm:ByteArray)(sz:Int):strs (arN d)++[[str nm]]=strs (arN (d++[⟨nm,sz⟩])):=by simp [strs,arN]
theorem pm_snoc(A:List ByteArray)(d:List Pc)(f:Pc):strs (A++prmF (d++[f]))=strs (A++prmF d)++strs f.params:=by rw [prmF_app,← List.append_assoc,strs_app];simp [prmF]
theorem pn_snoc(d:List Pc)(f:Pc):strs (pcN (d++[f]))=strs (pcN d)++[[str f.name]]:=by simp [strs,pcN]
theorem prmF_len:∀l:List Pc,(prmF l).length≤wtP l
 |[]=>by simp [prmF]
 |f::r=>by have:=prmF_len r;have:=wtV_len f.params;simp only [prmF,wtP,List.length_append];omega
/-- Has an array a wrong size? -/
def arBad:List Ar→Bool
 |[]=>false
 |a::r=>match (decide (a.size<1)||decide (a.size>16)) with
  |true=>true
  |false=>arBad r
/-- Are all names of procedures known, each where it stands? -/
def prN(vars an:List ByteArray)(procs:List Pc):List Pc→Nat→Bool
 |[],_=>true
 |f::r,i=>match (flatB f.body).all (seeN (vars++f.params) an (procs.take i))&&tmN (vars++f.params) an f.ret with
  |true=>prN vars an procs r (i+1)
  |false=>false
/-- Do calls in procedures hand over what is wanted? -/
def prC(procs:List Pc):List Pc→Nat→Bool
 |[],_=>true
 |f::r,i=>match (flatB f.body).all (seeC (procs.take i)) with
  |true=>prC procs r (i+1)
  |false=>false
def ckR(bA bL bD bN bM bC bK:Bool):Option Nat:=match bA with
 |true=>some 0
 |false=>match bL with
  |true=>some 0
  |false=>match bD with
   |true=>some 2
   |false=>match bN with
    |false=>some 2
    |true=>match bM with
     |false=>some 2
     |true=>match bC with
      |false=>some 1
      |true=>match bK with
       |false=>some 1
       |true=>none
def outE(t:Nat→TypeId)(u:Nat→Value):Option Nat→PV
 |none=>.d (.s .nilIface)
 |some k=>.d (.s (.iface (t k) (u k)))
def allN2(vars:List ByteArray)(arrays:List Ar)(procs:List Pc):List ByteArray:=(vars++arN arrays)++prmF procs
def bLong(vars:List ByteArray)(arrays:List Ar)(procs:List Pc):Bool:=decide (((strs (allN2 vars arrays procs)).length:Int)>12)||decide (((strs (pcN procs)).length:Int)>6)
/-- What check.Check says of a program that has a text. -/
def checkF(vars:List ByteArray)(arrays:List Ar)(procs:List Pc)(main:List Sm):Option Nat:=
 ckR (arBad arrays) (bLong vars arrays procs) (dupB (allN2 vars arrays procs++pcN procs)) (prN vars (arN arrays) procs procs 0) ((flatB main).all (seeN vars (arN arrays) procs)) (prC procs procs 0) ((flatB main).all (seeC procs))
theorem nm_of{vs ay:List ByteArray}{ps:List Pc}{s:Sm}(h:seeN vs ay ps s=true):NmOk ps s:=by
 obtain ⟨kind,name,proc,args,cond,body,els⟩:=s;intro hk;have k:=eq_of_beq hk
 have e1:(kind.toList==(⟨#[115,101,116]⟩:ByteArray).toList)=false:=by rw [k];kernel_rfl
 have e2:(kind.toList==(⟨#[114,101,97,100]⟩:ByteArray).toList)=false:=by rw [k];kernel_rfl
 have e3:(kind.toList==(⟨#[112,117,116]⟩:ByteArray).toList)=false:=by rw [k];kernel_rfl
 simp only [seeN,kindN,e1,e2,e3,hk,Bool.and_eq_true] at h;exact of_decide_eq_true h.1.2
theorem nms_of{vs ay:List ByteArray}{ps:List Pc}{l:List Sm}(h:l.all (seeN vs ay ps)=true):∀x,x∈l→NmOk ps x:=fun x hx=>nm_of (List.all_eq_true.1 h x hx)
theorem prN_at{vars an:List ByteArray}{procs:List Pc}:∀ {l:List Pc}{k:Nat},prN vars an procs l k=true→∀(j:Nat) (f:Pc),l[j]? = some f→(flatB f.body).all (seeN (vars++f.params) an (procs.take (k+j)))=true
 |[],k,_,j,f,hj=>by simp at hj
 |g::r,k,h,j,f,hj=>by
  simp only [prN] at h
  cases hq:((flatB g.body).all (seeN (vars++g.params) an (procs.take k))&&tmN (vars++g.params) an g.ret) with
  |false=>rw [hq] at h;cases h
  |true=>
   rw [hq] at h
   cases j with
   |zero=>
    simp only [List.getElem?_cons_zero,Option.some.injEq] at hj;subst hj;rw [Bool.and_eq_true] at hq;exact hq.1
   |succ j=>
    have:=prN_at h j f (by simpa using hj)
    rwa [show k+1+j=k+(j+1) by omega] at this
section
variable {t:Nat→TypeId}{u:Nat→Value}
theorem cloneS_spec(G:Glob)(l:List ByteArray)(hn:l.length≤1000000000):Spec Tryz.prog G 95 [.d (.sl 1 (strs l))] [] (.ret (.acc 0)) [.acc 9 1 (strs l)]:=by
 refine spec_of_awp2 TT_ok (N:=8) Tryz.func95 rfl (by rfl) (Nat.zero_le _) rfl ?_;refine rz [0] ?_;refine awp_seq ?_;refine rgs fun E K J O=>?_;refine pNilS_sl (fun hb=>?_) ?_
 ·obtain rfl:=nil_strs hb
  refine O _ (aN [0,4] rfl rfl ?_);clear O J K E;refine awp_cond rfl ?_;refine rz [2] ?_;refine awp_acc 2 9 1 rfl rfl rfl ?_;refine awp_norm [2] rfl rfl ?_;refine awp_ret ?_;exact ⟨_,[0],_,[.acc 0],rfl,rfl,rfl,rfl,rfl,PWs.refl _,rfl⟩
 refine O _ (aN [0,4] rfl rfl ?_);clear O J K E;refine awp_cond rfl ?_;refine awp_skip ?_;refine rgs fun E K J O=>?_;refine Or.inr (Or.inr ?_);refine And.intro (And.intro ((by simp only [strs_length,List.length_nil] at *;omega)) ((by simp only [strs_length,List.length_nil,maxLen] at *;omega))) ?_;refine O _ (aN [2] rfl rfl ?_);clear O J K E;refine awp_ret ?_;exact ⟨_,[0],_,[.acc 0],rfl,rfl,rfl,rfl,rfl,PWs.refl _,rfl⟩
theorem check_no(vars:List ByteArray)(arrays:List Ar)(procs:List Pc)(main:List Sm)(w0:Spec Tryz.prog (GV t u) 22 [.d (.agg (Pg.cs ⟨vars,arrays,procs,main⟩))] [] (.ret (.tup [.d (str ⟨#[]⟩),.d (.s (.iface (t 1) (u 1)))])) []):Spec Tryz.prog (GV t u) 34 [.d (.agg (Pg.cs ⟨vars,arrays,procs,main⟩))] [] (.ret (.d (.s (.iface (t 1) (u 1))))) []:=by
 refine spec_of_awp2 TT_ok (N:=146) Tryz.func34 rfl (by rfl) (Nat.le_refl _) rfl ?_;refine rz [1] ?_;refine awp_seq ?_;refine rgs fun E K J O=>?_;refine aS [] w0 ?_;refine O _ (aN [1,4] rfl rfl ?_);clear O J K E;refine rz [1,24] ?_;refine awp_cond rfl ?_;refine rz [2] ?_;refine awp_ret ?_;exact ⟨_,[],_,[.d (.s (.iface (t 1) (u 1)))],rfl,rfl,rfl,rfl,rfl,PWs.refl _,rfl⟩
set_option maxHeartbeats 2000000 in
def p34_28:Plan:=(.take 0 (.take 1 (.take 3 (.load 4 (.one 2 (.one 5 (.take 6 (.take 7 (.take 8 (.take 9 (.take 11 (.alt 10 (.one 12 (.one 13 (.take 14 (.take 15 .done)))) (.alt 12 (.one 10 (.one 13 (.take 14 (.take 15 .done)))) .done)))))))))))))
def p34_37:Plan:=(.take 0 (.take 1 (.take 3 (.load 4 (.one 2 (.one 5 (.take 6 .done)))))))
theorem check_yes(vars:List ByteArray)(arrays:List Ar)(procs:List Pc)(main:List Sm)(hw0:wtPg ⟨vars,arrays,procs,main⟩≤400000000)(t1:ByteArray)(w1:Spec Tryz.prog (GV t u) 22 [.d (.agg (Pg.cs ⟨vars,arrays,procs,main⟩))] [] (.ret (.tup [.d (str t1),.d (.s .nilIface)])) []):Spec Tryz.prog (GV t u) 34 [.d (.agg (Pg.cs ⟨vars,arrays,procs,main⟩))] [] (.ret (outE t u (checkF vars arrays procs main))) []:=by
 have hw:=hw0;simp only [wtPg] at hw;have hvl0:=wtV_len vars;have hal0:=wtA_len arrays;have hpl0:=wtP_len procs;have hpf0:=prmF_len procs
 have hbA:arrays.length≤1073741824:=by omega
 have hbP:procs.length≤1073741824:=by omega
 have hC:=concat_spec (GV t u)
 have han0:(arN arrays).length=arrays.length:=by simp [arN]
 have han:(arN arrays).length≤1073741824:=by omega
 have hpn0:(pcN procs).length=procs.length:=by simp [pcN]
 obtain ⟨R,hR⟩:∃R,checkF vars arrays procs main=R:=⟨_,rfl⟩;rw [hR]
 unfold checkF at hR
 have hdup:bLong vars arrays procs=false→Spec Tryz.prog (GV t u) 96 [.d (.sl 1 (strs ((vars++arN arrays)++prmF procs)++strs (pcN procs)))] [] (.ret (.d (.s (.bool (dupB (allN2 vars arrays procs++pcN procs)))))) []:=fun hb=>by
  have hlen:(allN2 vars arrays procs++pcN procs).length≤1000000:=by
   unfold bLong at hb
   rw [Bool.or_eq_false_iff] at hb;have q1:=of_decide_eq_false hb.1;have q2:=of_decide_eq_false hb.2;rw [strs_length] at q1 q2;rw [List.length_append];omega
  have:=twice_spec (GV t u) (allN2 vars arrays procs++pcN procs) hlen
  rwa [strs_app] at this
 obtain ⟨bA,hA⟩:∃b,arBad arrays=b:=⟨_,rfl⟩;obtain ⟨bL,hL⟩:∃b,bLong vars arrays procs=b:=⟨_,rfl⟩;obtain ⟨bD,hD⟩:∃b,dupB (allN2 vars arrays procs++pcN procs)=b:=⟨_,rfl⟩;obtain ⟨bN,hN⟩:∃b,prN vars (arN arrays) procs procs 0=b:=⟨_,rfl⟩;obtain ⟨bM,hM⟩:∃b,(flatB main).all (seeN vars (arN arrays) procs)=b:=⟨_,rfl⟩;obtain ⟨bC,hCC⟩:∃b,prC procs procs 0=b:=⟨_,rfl⟩;obtain ⟨bK,hKB⟩:∃b,(flatB main).all (seeC procs)=b:=⟨_,rfl⟩;rw [hA,hL,hD,hN,hM,hCC,hKB] at hR;have hL0:=hL;have hL:(decide (((strs ((vars++arN arrays)++prmF procs)).length:Int)>12)||decide (((strs (pcN procs)).length:Int)>6))=bL:=hL0;have hmn:=stmts_spec (GV t u) vars (arN arrays) procs (by omega) han (by omega) main (by omega);rw [hM] at hmn;rw [hD] at hdup;have hal:=at_all (GV t u) vars arrays procs main (arN arrays);rw [← pcs_length procs] at hal;have hNN:=hN;refine spec_of_awp2 TT_ok (N:=146) Tryz.func34 rfl (by rfl) (Nat.le_refl _) rfl ?_;refine rz [1] ?_;refine awp_seq ?_;refine rgs fun E K J O=>?_;refine aS [] w1 ?_;refine O _ (aN [1,4] rfl rfl ?_);clear O J K E;refine rz [1,24] ?_;refine awp_cond rfl ?_;refine awp_skip ?_;refine rgs fun E K J O=>?_;refine aS [] (cloneS_spec (GV t u) vars (by omega)) ?_;refine O _ (aN [1,5] rfl rfl ?_);clear O J K E;refine rz [1,5,6,7] ?_;refine awp_acc 7 9 1 rfl rfl rfl ?_;refine awp_accCell 2 0 9 1 rfl rfl rfl rfl ?_;refine awp_norm [1,5,6,7] rfl rfl ?_;refine awp_seq ?_;refine rz [1,5,6,7,30,31,32] ?_;refine awp_block ?_;refine awp_loop (fun k Y=>∃(d1 e1:List Ar) ,k=e1.length∧arrays=d1++e1∧arBad e1=bA∧Y=⟨[(1,.box 0 0),(5,.acc 1),(6,.box 2 0),(7,.acc 3),(30,.d (.sl 2 (ars arrays))),(31,.d (num (ars arrays).length)),(32,.d (num d1.length))],[.box 28 [.d (.sl 1 (strs vars)),.d (.sl 2 (ars arrays)),.d (.sl 7 (pcs procs)),.d (.sl 7 (sms main))],.acc 9 1 (strs vars),.box 23 [.acc 4],.acc 9 1 [],.acc 9 1 (strs (arN d1))]⟩) (arrays.length) (⟨[],arrays,rfl,rfl,hA,rfl⟩) ?_;clear hA;rintro k Y ⟨d1,e1,rfl,hl1,hA,rfl⟩
 have hll1:(ars arrays).length=d1.length+e1.length:=by rw [ars,List.length_map,hl1,List.length_append]
 have hdl1:d1.length+e1.length≤1073741824:=by rw [hl1,List.length_append] at hbA;exact hbA
 refine rz [1,5,6,7,30,31,32,33] ?_;refine awp_seq ?_;refine awp_cond2 rfl (onB_intro (fun h1=>?_) (fun h1=>?_))
 ·have h1':=of_decide_eq_true h1
  rw [hll1] at h1'
  cases e1 with
  |nil=>simp only [List.length_nil] at h1';omega
  |cons x e1b=>
  obtain ⟨nm,sz⟩:=x;subst hl1;simp only [List.length_cons] at hdl1;simp only [arBad] at hA
  have hdn:(arN d1).length=d1.length:=by simp [arN]
  refine awp_skip ?_;refine awp_seq ?_;refine awp_block ?_;refine rgs fun E K J O=>?_;refine And.intro (by omega) (Exists.intro _ (And.intro (ars_at rfl) ?_));refine O _ (aN [1,5,6,7,9,30,31,32] rfl rfl ?_);clear O J K E;refine rgs fun E K J O=>?_;refine And.intro (And.intro ((by simp only [strs_length,pcs_length,List.length_append,chunk_length,List.length_cons,List.length_nil] at *;omega)) ((by simp only [strs_length,pcs_length,List.length_append,chunk_length,List.length_cons,List.length_nil,maxLen] at *;omega))) ?_;refine O _ (aN [1,5,6,7,9,30,31,32] rfl rfl ?_);clear O J K E;refine rgs fun E K J O=>?_;refine onB_intro (fun h2=>?_) (fun h2=>?_)
  ·simp only [h2,bn] at hA
   refine O _ (aN [1,5,6,7,30,31,32,48] rfl rfl ?_);clear O J K E;refine awp_cond rfl ?_;refine rz [2] ?_;refine awp_ret ?_;subst hA;simp only [ckR] at hR;subst hR;exact ⟨_,[],_,[.d (.s (.iface (t 0) (u 0)))],rfl,rfl,rfl,rfl,rfl,PWs.refl _,rfl⟩
  simp only [h2,bn] at hA;refine O _ (aN [1,5,6,7,30,31,32,48] rfl rfl ?_);clear O J K E;refine awp_cond2 rfl (onB_intro (fun h3=>?_) (fun h3=>?_))
  ·simp only [h3] at hA
   refine rz [2] ?_;refine awp_ret ?_;subst hA;simp only [ckR] at hR;subst hR;exact ⟨_,[],_,[.d (.s (.iface (t 0) (u 0)))],rfl,rfl,rfl,rfl,rfl,PWs.refl _,rfl⟩
  simp only [h3] at hA;refine awp_skip ?_;refine rgn fun E K J O=>?_;refine O _ ?_;clear O J K E;exact ⟨_,Nat.lt_succ_self _,_,sub_pick (L:=[0,1,2,3,4]) (slots:=[1,5,6,7,30,31,32]) rfl rfl rfl rfl rfl,d1++[⟨nm,sz⟩],e1b,rfl,by simp,hA,by rw [← arN_snoc,List.length_append,wrapId (by omega) (by omega)];rfl⟩
 have h1':=of_decide_eq_false h1;rw [hll1] at h1';obtain rfl:e1=[]:=List.eq_nil_of_length_eq_zero (by omega);simp only [arBad] at hA;subst hA;rw [List.append_nil] at hl1;subst hl1;refine awp_exit ?_;refine awp_norm [1,5,6,7] rfl rfl ?_;refine rgs fun E K J O=>?_;refine And.intro (And.intro ((by simp only [strs_length,pcs_length,List.length_append,List.length_nil] at *;omega)) ((by simp only [strs_length,pcs_length,List.length_append,List.length_nil,maxLen] at *;omega))) ?_;refine O _ (aN [1,5,6,7] rfl rfl ?_);clear O J K E;refine awp_seq ?_;refine rz [1,5,6,7,55,56,57] ?_;refine awp_block ?_;refine awp_loop (fun k Y=>∃(d2 e2:List Pc),k=e2.length∧procs=d2++e2∧Y=⟨[(1,.box 0 0),(5,.acc 1),(6,.box 2 0),(7,.acc 3),(55,.d (.sl 7 (pcs procs))),(56,.d (num (pcs procs).length)),(57,.d (num d2.length))],[.box 28 [.d (.sl 1 (strs vars)),.d (.sl 2 (ars arrays)),.d (.sl 7 (pcs procs)),.d (.sl 7 (sms main))],.acc 9 1 (strs ((vars++arN arrays)++prmF d2)),.box 23 [.acc 4],.acc 9 1 (strs (pcN d2)),.acc 9 1 (strs (arN arrays))]⟩) (procs.length) (⟨[],procs,rfl,rfl,by rw [show prmF []=[] from rfl,List.append_nil,strs_app];rfl⟩) ?_;rintro k Y ⟨d2,e2,rfl,hl2,rfl⟩
 have hll2:(pcs procs).length=d2.length+e2.length:=by rw [pcs_length,hl2,List.length_append]
 have hdl2:d2.length+e2.length≤1073741824:=by rw [hl2,List.length_append] at hbP;exact hbP
 refine rz [1,5,6,7,55,56,57,58] ?_;refine awp_seq ?_;refine awp_cond2 rfl (onB_intro (fun h2=>?_) (fun h2=>?_))
 ·have h2':=of_decide_eq_true h2
  rw [hll2] at h2'
  cases e2 with
  |nil=>simp only [List.length_nil] at h2';omega
  |cons x e2b=>
  obtain ⟨nm,pr,bd,⟨o1,n1,m1,l1⟩⟩:=x;subst hl2;simp only [List.length_cons] at hdl2;have hpl:=prmF_len (d2++⟨nm,pr,bd,.mk o1 n1 m1 l1⟩::e2b);simp only [prmF_app,prmF,List.length_append] at hpl
  have hdn:(pcN d2).length=d2.length:=by simp [pcN]
  have hda:(arN arrays).length=arrays.length:=by simp [arN]
  refine awp_skip ?_;refine awp_seq ?_;refine awp_block ?_;refine rgs fun E K J O=>?_;refine And.intro (by omega) (Exists.intro _ (And.intro (pcs_at rfl) ?_));refine O _ (aN [1,5,6,7,11,55,56,57] rfl rfl ?_);clear O J K E;refine rgs fun E K J O=>?_;refine And.intro (And.intro ((by simp only [strs_length,pcs_length,List.length_append,List.length_cons,List.length_nil] at *;omega)) ((by simp only [strs_length,pcs_length,List.length_append,List.length_cons,List.length_nil,maxLen] at *;omega))) ?_;refine O _ (aN [1,5,6,7,11,55,56,57] rfl rfl ?_);clear O J K E;refine rgn fun E K J O=>?_;refine And.intro (And.intro ((by simp only [strs_length,pcs_length,List.length_append,chunk_length,List.length_cons,List.length_nil] at *;omega)) ((by simp only [strs_length,pcs_length,List.length_append,chunk_length,List.length_cons,List.length_nil,maxLen] at *;omega))) ?_;refine O _ (aN [1,5,6,7,55,56,57] rfl rfl ?_);clear O J K E;refine rgn fun E K J O=>?_;refine O _ ?_;clear O J K E;exact ⟨_,Nat.lt_succ_self _,_,sub_pick (L:=[0,1,2,3,4]) (slots:=[1,5,6,7,55,56,57]) rfl rfl rfl rfl rfl,d2++[⟨nm,pr,bd,.mk o1 n1 m1 l1⟩],e2b,rfl,by simp,by rw [pm_snoc,pn_snoc,List.length_append,wrapId (by omega) (by omega)];rfl⟩
 have h2':=of_decide_eq_false h2;rw [hll2] at h2';obtain rfl:e2=[]:=List.eq_nil_of_length_eq_zero (by omega);rw [List.append_nil] at hl2;subst hl2;refine awp_exit ?_;refine awp_norm [1,5,6,7] rfl rfl ?_;refine awp_seq ?_;refine rgs fun E K J O=>?_;refine onB_intro (fun h3=>?_) (fun h3=>?_)
 ·have hz74:decide (((strs ((vars++arN arrays)++prmF procs)).length:Int)>12)=true:=h3
  simp only [hz74,bn] at hL;refine O _ (aN [1,5,6,7,78] rfl rfl ?_);clear O J K E;refine awp_cond rfl ?_;refine rz [2] ?_;refine awp_ret ?_;subst hL;simp only [ckR] at hR;subst hR;exact ⟨_,[],_,[.d (.s (.iface (t 0) (u 0)))],rfl,rfl,rfl,rfl,rfl,PWs.refl _,rfl⟩
 have hz74:decide (((strs ((vars++arN arrays)++prmF procs)).length:Int)>12)=false:=h3;simp only [hz74,bn] at hL;refine O _ (aN [1,5,6,7,78] rfl rfl ?_);clear O J K E;refine awp_cond2 rfl (onB_intro (fun h4=>?_) (fun h4=>?_))
 ·have hz78:decide (((strs (pcN procs)).length:Int)>6)=true:=h4
  simp only [hz78] at hL;refine rz [2] ?_;refine awp_ret ?_;subst hL;simp only [ckR] at hR;subst hR;exact ⟨_,[],_,[.d (.s (.iface (t 0) (u 0)))],rfl,rfl,rfl,rfl,rfl,PWs.refl _,rfl⟩
 have hz78:decide (((strs (pcN procs)).length:Int)>6)=false:=h4;simp only [hz78] at hL;subst hL;refine awp_skip ?_;refine awp_seq ?_;refine rgs fun E K J O=>?_;refine And.intro (And.intro ((by simp only [strs_length,pcs_length,List.length_append,List.length_nil] at *;omega)) ((by simp only [strs_length,pcs_length,List.length_append,List.length_nil,maxLen] at *;omega))) ?_
 show aCall _ _ _ _ _ _ _
 cases bD with
 |true=>
  refine aS [] (hdup hL0) ?_;refine O _ (aN [1,6,83] rfl rfl ?_);clear O J K E;refine awp_cond rfl ?_;refine rz [2] ?_;refine awp_ret ?_;simp only [ckR] at hR;subst hR;exact ⟨_,[],_,[.d (.s (.iface (t 2) (u 2)))],rfl,rfl,rfl,rfl,rfl,PWs.refl _,rfl⟩
 |false=>
  refine aS [] (hdup hL0) ?_;refine O _ (aN [1,6,83] rfl rfl ?_);clear O J K E;refine awp_cond rfl ?_;refine awp_skip ?_;refine awp_cut (fun Z=>Z=⟨[(1,.box 0 0),(12,.fn 97 [.box 0 0,.box 1 0])],(AtR vars arrays procs main (arN arrays))⟩) ?_ ?_
  ·refine rgn fun E K J O=>?_;refine O _ ?_;clear O J K E
   exact ⟨_,sub_pick (L:=[0,2]) (slots:=[1,12]) rfl rfl rfl rfl rfl,rfl⟩
  rintro Z rfl;refine awp_seq ?_;refine rz [1,12,87,88,89] ?_;refine awp_block ?_;refine awp_loop (fun k Y=>∃(d3 e3:List Pc) ,k=e3.length∧procs=d3++e3∧prN vars (arN arrays) procs e3 d3.length=bN∧Y=⟨[(1,.box 0 0),(12,.fn 97 [.box 0 0,.box 1 0]),(87,.d (.sl 7 (pcs procs))),(88,.d (num (pcs procs).length)),(89,.d (num d3.length))],(AtR vars arrays procs main (arN arrays))⟩) (procs.length) (⟨[],procs,rfl,rfl,hN,rfl⟩) ?_;clear hN;rintro k Y ⟨d3,e3,rfl,hl3,hN,rfl⟩
  have hll3:(pcs procs).length=d3.length+e3.length:=by rw [pcs_length,hl3,List.length_append]
  have hdl3:d3.length+e3.length≤1073741824:=by rw [hl3,List.length_append] at hbP;exact hbP
  refine rz [1,12,87,88,89,90] ?_;refine awp_seq ?_;refine awp_cond2 rfl (onB_intro (fun h5=>?_) (fun h5=>?_))
  ·have h5':=of_decide_eq_true h5
   rw [hll3] at h5'
   cases e3 with
   |nil=>simp only [List.length_nil] at h5';omega
   |cons x e3b=>
   obtain ⟨nm,pr,bd,⟨o1,n1,m1,l1⟩⟩:=x;subst hl3;simp only [List.length_cons] at hdl3;simp only [prN] at hN
   have hi:d3.length<(d3++⟨nm,pr,bd,.mk o1 n1 m1 l1⟩::e3b).length:=by simp
   have hf:(d3++⟨nm,pr,bd,.mk o1 n1 m1 l1⟩::e3b)[d3.length]? = some ⟨nm,pr,bd,.mk o1 n1 m1 l1⟩:=by simp
   have hwx:=wtP_app d3 (⟨nm,pr,bd,.mk o1 n1 m1 l1⟩::e3b);simp only [wtP] at hwx;have hpv:=wtV_len pr;have hat:=at_one (GV t u) hC vars arrays (d3++⟨nm,pr,bd,.mk o1 n1 m1 l1⟩::e3b) main (arN arrays) d3.length hi (by omega) _ hf (by simp only;omega)
   have htk:((d3++⟨nm,pr,bd,.mk o1 n1 m1 l1⟩::e3b).take d3.length).length≤1073741824:=by rw [List.length_take];omega
   have hvl:(vars++pr).length≤1073741824:=by rw [List.length_append];omega
   have hst:=stmts_spec (GV t u) (vars++pr) (arN arrays) ((d3++⟨nm,pr,bd,.mk o1 n1 m1 l1⟩::e3b).take d3.length) hvl han htk bd (by omega);have htm:=place_term (GV t u) (vars++pr) (arN arrays) ((d3++⟨nm,pr,bd,.mk o1 n1 m1 l1⟩::e3b).take d3.length) hvl han (.mk o1 n1 m1 l1) (by omega);refine awp_skip ?_;refine awp_seq ?_;refine awp_block ?_;refine rgs fun E K J O=>?_;refine And.intro (by omega) (Exists.intro _ (And.intro (pcs_at rfl) ?_));refine O _ (aN [1,12,13,14,87,88,89] rfl rfl ?_);clear O J K E;refine awp_seq ?_;refine (awp_draw TT_ok mixed p34_28 [5,10,13] (fun i=>Nat.beq i 2) (by kernel_rfl) fun E K J O=>?_);refine aS [0,1] hat ?_;refine aS [] hst ?_;refine onB_intro (fun h6=>?_) (fun h6=>?_)
   ·try simp only [Bool.not_eq_true'] at h6
    simp only [h6,bn] at hN;refine And.intro ?_ ?_
    ·refine O _ (aN [1,12,87,88,89,109] rfl rfl ?_);clear O J K E;refine awp_cond rfl ?_;refine rz [2] ?_;refine awp_ret ?_
     subst hN;simp only [ckR] at hR;subst hR;exact ⟨_,[],_,[.d (.s (.iface (t 2) (u 2)))],rfl,rfl,rfl,rfl,rfl,PWs.refl _,rfl⟩
    refine And.intro ?_ ?_
    ·refine O _ (aN [1,12,87,88,89,109] rfl rfl ?_);clear O J K E;refine awp_cond rfl ?_;refine rz [2] ?_;refine awp_ret ?_
     subst hN;simp only [ckR] at hR;subst hR;exact ⟨_,[],_,[.d (.s (.iface (t 2) (u 2)))],rfl,rfl,rfl,rfl,rfl,PWs.refl _,rfl⟩
    trivial
   try simp only [Bool.not_eq_false'] at h6
   simp only [h6,bn] at hN;refine And.intro ?_ ?_
   ·refine aS [0,1] hat ?_
    refine aS [] htm ?_;refine O _ (aN [1,12,87,88,89,109] rfl rfl ?_);clear O J K E;refine awp_cond2 rfl (onB_intro (fun h7=>?_) (fun h7=>?_))
    ·try simp only [Bool.not_eq_true'] at h7
     simp only [h7] at hN;refine rz [2] ?_;refine awp_ret ?_;subst hN;simp only [ckR] at hR;subst hR;exact ⟨_,[],_,[.d (.s (.iface (t 2) (u 2)))],rfl,rfl,rfl,rfl,rfl,PWs.refl _,rfl⟩
    try simp only [Bool.not_eq_false'] at h7
    simp only [h7] at hN;refine awp_skip ?_;refine rgn fun E K J O=>?_;refine O _ ?_;clear O J K E;exact ⟨_,Nat.lt_succ_self _,_,sub_pick (L:=[0,1]) (slots:=[1,12,87,88,89]) rfl rfl rfl rfl rfl,d3++[⟨nm,pr,bd,.mk o1 n1 m1 l1⟩],e3b,rfl,by simp,by rw [List.length_append];exact hN,by rw [List.length_append,wrapId (by omega) (by omega)];rfl⟩
   refine And.intro ?_ ?_
   ·refine aS [0,1] hat ?_
    refine aS [] htm ?_;refine O _ (aN [1,12,87,88,89,109] rfl rfl ?_);clear O J K E;refine awp_cond2 rfl (onB_intro (fun h7=>?_) (fun h7=>?_))
    ·try simp only [Bool.not_eq_true'] at h7
     simp only [h7] at hN;refine rz [2] ?_;refine awp_ret ?_;subst hN;simp only [ckR] at hR;subst hR;exact ⟨_,[],_,[.d (.s (.iface (t 2) (u 2)))],rfl,rfl,rfl,rfl,rfl,PWs.refl _,rfl⟩
    try simp only [Bool.not_eq_false'] at h7
    simp only [h7] at hN;refine awp_skip ?_;refine rgn fun E K J O=>?_;refine O _ ?_;clear O J K E;exact ⟨_,Nat.lt_succ_self _,_,sub_pick (L:=[0,1]) (slots:=[1,12,87,88,89]) rfl rfl rfl rfl rfl,d3++[⟨nm,pr,bd,.mk o1 n1 m1 l1⟩],e3b,rfl,by simp,by rw [List.length_append];exact hN,by rw [List.length_append,wrapId (by omega) (by omega)];rfl⟩
   trivial
  have h5':=of_decide_eq_false h5;rw [hll3] at h5';obtain rfl:e3=[]:=List.eq_nil_of_length_eq_zero (by omega);simp only [prN] at hN;subst hN;refine awp_exit ?_;refine awp_norm [1,12] rfl rfl ?_;refine rgs fun E K J O=>?_;refine aS [0,1] hal ?_;refine O _ (aN [1,12,15] rfl rfl ?_);clear O J K E;refine awp_cut (fun Z=>Z=⟨[(1,.box 0 0),(12,.fn 97 [.box 0 0,.box 1 0]),(15,.box 2 0)],AtR vars arrays procs main (arN arrays)++PlR vars (arN arrays) procs⟩∧bM=true) ?_ ?_
  ·refine rgs fun E K J O=>?_;show aCall _ _ _ _ _ _ _
   cases bM with
   |true=>
    refine aS [] hmn ?_;refine O _ (aN [1,12,15,121] rfl rfl ?_);clear O J K E;refine awp_cond rfl ?_;refine awp_skip ?_;exact ⟨_,sub_norm (slots:=[1,12,15]) rfl rfl,rfl,rfl⟩
   |false=>
    refine aS [] hmn ?_;refine O _ (aN [1,12,15,121] rfl rfl ?_);clear O J K E;refine awp_cond rfl ?_;refine rz [2] ?_;refine awp_ret ?_;simp only [ckR] at hR;subst hR;exact ⟨_,[],_,[.d (.s (.iface (t 2) (u 2)))],rfl,rfl,rfl,rfl,rfl,PWs.refl _,rfl⟩
  rintro Z ⟨rfl,hbM⟩;subst hbM;refine awp_seq ?_;refine rz [1,12,15,124,125,126] ?_;refine awp_block ?_;refine awp_loop (fun k Y=>∃(d4 e4:List Pc) ,k=e4.length∧procs=d4++e4∧prC procs e4 d4.length=bC∧Y=⟨[(1,.box 0 0),(12,.fn 97 [.box 0 0,.box 1 0]),(15,.box 2 0),(124,.d (.sl 7 (pcs procs))),(125,.d (num (pcs procs).length)),(126,.d (num d4.length))],(AtR vars arrays procs main (arN arrays)++PlR vars (arN arrays) procs)⟩) (procs.length) (⟨[],procs,rfl,rfl,hCC,rfl⟩) ?_;clear hCC;rintro k Y ⟨d4,e4,rfl,hl4,hCC,rfl⟩
  have hll4:(pcs procs).length=d4.length+e4.length:=by rw [pcs_length,hl4,List.length_append]
  have hdl4:d4.length+e4.length≤1073741824:=by rw [hl4,List.length_append] at hbP;exact hbP
  refine rz [1,12,15,124,125,126,127] ?_;refine awp_seq ?_;refine awp_cond2 rfl (onB_intro (fun h6=>?_) (fun h6=>?_))
  ·have h6':=of_decide_eq_true h6
   rw [hll4] at h6'
   cases e4 with
   |nil=>simp only [List.length_nil] at h6';omega
   |cons x e4b=>
   obtain ⟨nm,pr,bd,⟨o1,n1,m1,l1⟩⟩:=x;subst hl4;simp only [List.length_cons] at hdl4;simp only [prC] at hCC
   have hi:d4.length<(d4++⟨nm,pr,bd,.mk o1 n1 m1 l1⟩::e4b).length:=by simp
   have hf:(d4++⟨nm,pr,bd,.mk o1 n1 m1 l1⟩::e4b)[d4.length]? = some ⟨nm,pr,bd,.mk o1 n1 m1 l1⟩:=by simp
   have hwx:=wtP_app d4 (⟨nm,pr,bd,.mk o1 n1 m1 l1⟩::e4b);simp only [wtP] at hwx;have hpv:=wtV_len pr;have hat:=at_one (GV t u) hC vars arrays (d4++⟨nm,pr,bd,.mk o1 n1 m1 l1⟩::e4b) main (arN arrays) d4.length hi (by omega) _ hf (by simp only;omega)
   have htk:((d4++⟨nm,pr,bd,.mk o1 n1 m1 l1⟩::e4b).take d4.length).length≤1073741824:=by rw [List.length_take];omega
   have hvl:(vars++pr).length≤1073741824:=by rw [List.length_append];omega
   have hnm:=nms_of (prN_at hNN _ _ hf);rw [Nat.zero_add] at hnm;have hca:=calls_spec (GV t u) (vars++pr) (arN arrays) ((d4++⟨nm,pr,bd,.mk o1 n1 m1 l1⟩::e4b).take d4.length) htk bd (by omega) hnm;refine awp_skip ?_;refine awp_seq ?_;refine awp_block ?_;refine rgs fun E K J O=>?_;refine And.intro (by omega) (Exists.intro _ (And.intro (pcs_at rfl) ?_));refine O _ (aN [1,12,15,16,17,124,125,126] rfl rfl ?_);clear O J K E;refine awp_seq ?_;refine (awp_draw TT_ok mixed p34_37 [5] (fun i=>Nat.beq i 3) (by kernel_rfl) fun E K J O=>?_);refine aS [0,1] hat ?_;refine aS [] hca ?_;refine O _ (aN [1,12,15,124,125,126,137] rfl rfl ?_);clear O J K E;refine awp_cond2 rfl (onB_intro (fun h7=>?_) (fun h7=>?_))
   ·try simp only [Bool.not_eq_true'] at h7
    simp only [h7] at hCC;refine rz [2] ?_;refine awp_ret ?_;subst hCC;simp only [ckR] at hR;subst hR;exact ⟨_,[],_,[.d (.s (.iface (t 1) (u 1)))],rfl,rfl,rfl,rfl,rfl,PWs.refl _,rfl⟩
   try simp only [Bool.not_eq_false'] at h7
   simp only [h7] at hCC;refine awp_skip ?_;refine rgn fun E K J O=>?_;refine O _ ?_;clear O J K E;exact ⟨_,Nat.lt_succ_self _,_,sub_pick (L:=[0,1,2]) (slots:=[1,12,15,124,125,126]) rfl rfl rfl rfl rfl,d4++[⟨nm,pr,bd,.mk o1 n1 m1 l1⟩],e4b,rfl,by simp,by rw [List.length_append];exact hCC,by rw [List.length_append,wrapId (by omega) (by omega)];rfl⟩
  have h6':=of_decide_eq_false h6;rw [hll4] at h6';obtain rfl:e4=[]:=List.eq_nil_of_length_eq_zero (by omega);simp only [prC] at hCC;subst hCC;refine awp_exit ?_;refine awp_norm [1,15] rfl rfl ?_;refine awp_seq ?_;refine rgs fun E K J O=>?_;show aCall _ _ _ _ _ _ _;have hmc:=calls_spec (GV t u) vars (arN arrays) procs (by omega) main (by omega) (nms_of hM);rw [hKB] at hmc
  cases bK with
  |true=>
   refine aS [] hmc ?_;refine O _ (aN [144] rfl rfl ?_);clear O J K E;refine awp_cond rfl ?_;refine awp_skip ?_;refine rz [2] ?_;refine awp_ret ?_;simp only [ckR] at hR;subst hR;exact ⟨_,[],_,[.d (.s .nilIface)],rfl,rfl,rfl,rfl,rfl,PWs.refl _,rfl⟩
  |false=>
   refine aS [] hmc ?_;refine O _ (aN [144] rfl rfl ?_);clear O J K E;refine awp_cond rfl ?_;refine rz [2] ?_;refine awp_ret ?_;simp only [ckR] at hR;subst hR;exact ⟨_,[],_,[.d (.s (.iface (t 1) (u 1)))],rfl,rfl,rfl,rfl,rfl,PWs.refl _,rfl⟩
end
end Go.Abs
end
