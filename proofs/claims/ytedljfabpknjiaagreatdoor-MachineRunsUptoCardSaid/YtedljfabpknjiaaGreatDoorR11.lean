/- Texts of this proof, joined and shortened. -/
import Derived.Test.YtedljfabpknjiaaGreatDoorR10
import Derived.Test.YtedljfabpknjiaaGreatDoorCards
import Derived.ChangeArms
import Derived.Lib.LaidTab
import Derived.ChangeSame
import Derived.WideKeyArgs
import Derived.Deep.DeepHandedRow
import Derived.LaidHandle
import Derived.WideWitness
import Derived.Test.YtedljfabpknjiaaGreatDoorR8
import Derived.Scope
set_option maxHeartbeats 1000000
section
namespace Go.Abs
open Go Go.Proofs
theorem aY{α β:Type}{x:TM α}{f:α->TM β}{b:β}{j:Nat}(h:TM.bd x f=some (b,j)):∃a k i,x=some (a,k)/\f a=some (b,i)/\j=k+i:=by
 cases x with
 |none=>cases h
 |some u=>
  obtain ⟨a,k⟩:=u;obtain ⟨i,h1,h2⟩:=py h;exact ⟨a,k,i,rfl,h1,h2⟩
theorem aV{α:Type}{a b:α}{j:Nat}(h:TM.ret a=some (b,j)):b=a/\j=0:=by
 simp only [TM.ret,sI,Prod.mk.injEq] at h;exact ⟨h.1.symm,h.2.symm⟩
theorem bp{α:Type}{c:Bool}{x:TM α}{y:α×Nat}(h:TM.grd c x=some y):c=true/\x=some y:=by
 cases c with
 |true=>exact ⟨rfl,h⟩
 |false=>cases h
theorem br{x y:TIs}{s:BA}{j:Nat}(h:iE x y=some (s,j)):∃a b k i,x=some (a,k)/\y=some (b,i)/\s=a++b/\j=k+i:=by
 obtain ⟨a,k,i,h1,h2,h3⟩:=aY h;obtain ⟨b,k2,i2,g1,g2,g3⟩:=aY h2;obtain ⟨e1,e2⟩:=aV g2;exact ⟨a,b,k,k2,h1,g1,e1,by omega⟩
theorem Gb(n:Int):1<=(dH n).size:=by
 show 1<=(List.toArray _).size
 simp only [List.size_toArray];unfold Lib.itoa;split
 ·simp
 unfold Lib.decDigits;split <;> simp
theorem Aj{s:BA}(h:aC s=true):1<=s.size:=by
 unfold aC at h;split at h
 ·simp only [bE,Bool.not_eq_true',beq_eq_false_iff_ne,ne_eq] at h;have h:=h.1.1;rcases Nat.eq_zero_or_pos s.size with h0|h0
  ·exfalso
   apply h;have:s=⟨#[]⟩:=by
    apply ByteArray.ext;exact Array.eq_empty_of_size_eq_zero h0
   rw [this]
  exact h0
 cases h
def WX(b:Int->TIs):Prop:=∀d s k,b d=some (s,k)->k+1<=s.size
theorem lD{r bc:Int}{b:Int->TIs}(h:WX b):∀d s k,ez r b bc d=some (s,k)->k<=s.size:=by
 intro d s k e;unfold ez at e;split at e
 ·cases e
 split at e
 ·split at e
  ·obtain ⟨y,hy,e⟩:=Option.map_eq_some_iff.1 e;simp only [Prod.mk.injEq] at e;obtain ⟨rfl,rfl⟩:=e;have:=h (d+1) y.1 y.2 hy;simp only [dX];have e1:(⟨#[40]⟩:BA).size=1:=rfl;have e2:(⟨#[41]⟩:BA).size=1:=rfl;omega
  cases e
 obtain ⟨y,hy,e⟩:=Option.map_eq_some_iff.1 e;simp only [Prod.mk.injEq] at e;obtain ⟨rfl,rfl⟩:=e;exact h d y.1 y.2 hy
theorem pC:∀(m:Nat) (e:Ex),fuE e<=m->WX (fE e)
 |0,.mk _ _ _ _,h=>by simp only [fuE] at h;omega
 |m+1,.mk op n nm l,h=>by
  intro d s k e;simp only [fuE] at h;rw [fE.eq_def] at e;dsimp only at e;split at e
  ·split at e
   ·simp only [sI,Prod.mk.injEq] at e;obtain ⟨rfl,rfl⟩:=e;have:=Gb n;omega
   cases e
  split at e
  ·split at e
   ·rename_i hc;simp only [sI,Prod.mk.injEq] at e;obtain ⟨rfl,rfl⟩:=e;simp only [bE] at hc;have:=Aj hc.2;omega
   cases e
  split at e
  ·split at e
   ·rename_i x _;obtain ⟨y,hy,e⟩:=Option.map_eq_some_iff.1 e;simp only [Prod.mk.injEq] at e;obtain ⟨rfl,rfl⟩:=e;simp only [qI] at h;have:=lD (pC m x (by omega)) (d+1) y.1 y.2 hy;simp only [dX];have e1:(⟨#[91]⟩:BA).size=1:=rfl;omega
   cases e
  split at e
  ·split at e
   ·rename_i x _;obtain ⟨y,hy,e⟩:=Option.map_eq_some_iff.1 e;simp only [Prod.mk.injEq] at e;obtain ⟨rfl,rfl⟩:=e;simp only [qI] at h;have:=lD (pC m x (by omega)) (d+1) y.1 y.2 hy;simp only [dX];have e1:(⟨#[45]⟩:BA).size=1:=rfl;omega
   cases e
  split at e
  ·rename_i x y _;obtain ⟨u,hu,e⟩:=Option.bind_eq_some_iff.1 e;obtain ⟨v,hv,e⟩:=Option.map_eq_some_iff.1 e;simp only [Prod.mk.injEq] at e;obtain ⟨rfl,rfl⟩:=e;simp only [tv] at h;have:=lD (pC m x (by omega)) d u.1 u.2 hu;have:=lD (pC m y (by omega)) d v.1 v.2 hv;simp only [dX];have e1:(⟨#[32]⟩:BA).size=1:=rfl;omega
  cases e
theorem mS(e:Ex)(bc d:Int)(s:BA)(k:Nat)(h:exprI e bc d=some (s,k)):k<=s.size:=lD (pC (fuE e) e (nR _)) d s k h
theorem Ez(sep:List UInt8):∀l:List (List UInt8),(l.map fun x=>x.length).sum<=(Lib.join l sep).length
 |[]=>by simp
 |[x]=>by simp [Lib.join]
 |x::y::r=>by
  have:=Ez sep (y::r);simp only [Lib.join,List.intercalate_cons_cons,lA,List.map_cons,List.sum_cons] at this ⊢;omega
theorem pD(l:List BA)(sep:BA):eS 0 l<=(bP l sep).size:=by
 have h:=Ez sep.data.toList (l.map (·.data.toList));have e:((l.map (·.data.toList)).map fun x=>x.length).sum=eS 0 l:=by
  clear h;induction l with
  |nil=>rfl
  |cons x l ih=>
   simp only [List.map_cons,List.sum_cons,eS,ih];rfl
 rw [e] at h;show _<=(List.toArray _).size
 simpa using h
theorem EA:∀(l:List Ex) (ss:List BA) (k:Nat),gH l=some (ss,k)->k<=eS 0 ss
 |[],ss,k,h=>by obtain ⟨rfl,rfl⟩:=aV h;exact Nat.zero_le _
 |e::r,ss,k,h=>by
  obtain ⟨a,k1,i1,h1,h2,rfl⟩:=aY h;obtain ⟨b,k2,i2,h3,h4,rfl⟩:=aY h2;obtain ⟨rfl,rfl⟩:=aV h4;have:=mS e 1 1 a k1 h1;have:=EA r b k2 h3;simp only [eS];omega
theorem Ak(l:List Ex)(s:BA)(k:Nat)(h:ig l=some (s,k)):k<=s.size:=by
 obtain ⟨a,k1,i1,h1,h2,rfl⟩:=aY h;obtain ⟨rfl,rfl⟩:=aV h2;have:=EA l a k1 h1;have:=pD a ⟨#[44,32]⟩;omega
theorem Lv(t:Ts)(s:BA)(k:Nat)(h:px t=some (s,k)):k<=s.size:=by
 obtain ⟨_,h⟩:=bp h;obtain ⟨a,k1,i1,h1,h2,rfl⟩:=aY h;obtain ⟨b,k2,i2,h3,h4,rfl⟩:=aY h2;obtain ⟨rfl,rfl⟩:=aV h4;have:=mS t.a 1 1 a k1 h1;have:=mS t.b 1 1 b k2 h3;simp only [dX];omega
theorem H6:∀(l:List Ts) (ss:List BA) (k:Nat),jI l=some (ss,k)->k<=eS 0 ss
 |[],ss,k,h=>by obtain ⟨rfl,rfl⟩:=aV h;exact Nat.zero_le _
 |e::r,ss,k,h=>by
  obtain ⟨a,k1,i1,h1,h2,rfl⟩:=aY h;obtain ⟨b,k2,i2,h3,h4,rfl⟩:=aY h2;obtain ⟨rfl,rfl⟩:=aV h4;have:=Lv e a k1 h1;have:=H6 r b k2 h3;simp only [eS];omega
theorem OV(l:List Ts)(s:BA)(k:Nat)(h:xP l=some (s,k)):k<=s.size:=by
 obtain ⟨a,k1,i1,h1,h2,rfl⟩:=aY h;obtain ⟨rfl,rfl⟩:=aV h2;have h3:=H6 l a k1 h1;have h4:=pD (nz a) ⟨#[32,97,110,100,32]⟩;cases a with
 |nil=>have:eS 0 ([]:List BA)=0:=rfl;omega
 |cons x a=>simp only [nz] at h4 ⊢;omega
theorem NG:∀(l:List (List Ts)) (ss:List BA) (k:Nat),Ab l=some (ss,k)->k<=eS 0 ss
 |[],ss,k,h=>by obtain ⟨rfl,rfl⟩:=aV h;exact Nat.zero_le _
 |e::r,ss,k,h=>by
  obtain ⟨a,k1,i1,h1,h2,rfl⟩:=aY h;obtain ⟨b,k2,i2,h3,h4,rfl⟩:=aY h2;obtain ⟨rfl,rfl⟩:=aV h4;have:=OV e a k1 h1;have:=NG r b k2 h3;simp only [eS];omega
theorem xZ(c:List (List Ts))(s:BA)(k:Nat)(h:gb c=some (s,k)):k<=s.size:=by
 cases c with
 |nil=>obtain ⟨rfl,rfl⟩:=aV h;exact Nat.zero_le _
 |cons r c=>
  dsimp only [gb] at h;obtain ⟨a,k1,i1,h1,h2,rfl⟩:=aY h;obtain ⟨rfl,rfl⟩:=aV h2;have:=NG (r::c) a k1 h1;have:=pD a ⟨#[32,111,114,32]⟩;omega
def UW(m:Nat):Prop:=∀(s:Sm) (d:Nat) (t:BA) (k:Nat),pz s<=m->dr s d=some (t,k)->k+1<=t.size
def Ue(m:Nat):Prop:=∀(l:List Sm) (d:Nat) (t:BA) (k:Nat),lq l<=m->bI l d=some (t,k)->k<=t.size
theorem H7{m:Nat}(hs:UW m)(hb:Ue m):Ue (m+1):=by
 intro l d t k hf h;cases l with
 |nil=>obtain ⟨rfl,rfl⟩:=aV h;exact Nat.zero_le _
 |cons s r=>
  simp only [lq] at hf;simp only [bI] at h;split at h
  ·obtain ⟨i,h',rfl⟩:=py h;obtain ⟨a,b,k1,k2,h1,h2,rfl,rfl⟩:=br h';have:=hs s d a k1 (by omega) h1;have:=hb r d b k2 (by omega) h2;simp only [dX];omega
  cases h
theorem Lw{m:Nat}(hb:Ue m):UW (m+1):=by
 intro s d t k hf h;obtain ⟨ap,name,proc,args,cond,ao,aK⟩:=s;simp only [pz] at hf;have K3:=dD ao;have K4:=dD aK;rw [dr.eq_def] at h;dsimp only at h;split at h
 ·obtain ⟨_,h⟩:=bp h;obtain ⟨_,h⟩:=bp h;obtain ⟨a,k1,i1,h1,h2,rfl⟩:=aY h;obtain ⟨rfl,rfl⟩:=aV h2;have:=Ak args a k1 h1;simp only [dv,dX];omega
 split at h
 ·obtain ⟨_,h⟩:=bp h;obtain ⟨_,h⟩:=bp h;split at h
  ·obtain ⟨a,k1,i1,h1,h2,rfl⟩:=aY h;obtain ⟨b,k2,i2,h3,h4,rfl⟩:=aY h2;obtain ⟨rfl,rfl⟩:=aV h4;have:=mS _ 1 1 a k1 h1;have:=mS _ 1 1 b k2 h3;simp only [dv,dX];omega
  cases h
 split at h
 ·obtain ⟨_,h⟩:=bp h;obtain ⟨_,h⟩:=bp h;obtain ⟨_,h⟩:=bp h;obtain ⟨a,k1,i1,h1,h2,rfl⟩:=aY h;obtain ⟨rfl,rfl⟩:=aV h2;have:=Ak args a k1 h1;simp only [dv,dX];omega
 split at h
 ·obtain ⟨_,h⟩:=bp h;obtain ⟨c,k1,i1,h1,h2,rfl⟩:=aY h;obtain ⟨a,b,j1,j2,g1,g2,rfl,rfl⟩:=br h2;obtain ⟨a2,b2,j3,j4,g3,g4,rfl,rfl⟩:=br g2;obtain ⟨rfl,rfl⟩:=aV g1;have:=xZ cond c k1 h1;have:=hb ao (d+1) a2 j3 (by omega) g3;simp only [dv,dX];split at g4
  ·obtain ⟨a3,b3,j5,j6,q1,q2,rfl,rfl⟩:=br g4;obtain ⟨a4,b4,j7,j8,q3,q4,rfl,rfl⟩:=br q2;obtain ⟨rfl,rfl⟩:=aV q1;obtain ⟨rfl,rfl⟩:=aV q4;have:=hb aK (d+1) a4 j7 (by omega) q3;simp only [dv,dX];omega
  obtain ⟨rfl,rfl⟩:=aV g4;omega
 split at h
 ·obtain ⟨_,h⟩:=bp h;obtain ⟨c,k1,i1,h1,h2,rfl⟩:=aY h;obtain ⟨a,b,j1,j2,g1,g2,rfl,rfl⟩:=br h2;obtain ⟨a2,b2,j3,j4,g3,g4,rfl,rfl⟩:=br g2;obtain ⟨rfl,rfl⟩:=aV g1;obtain ⟨rfl,rfl⟩:=aV g4;have:=xZ cond c k1 h1;have:=hb ao (d+1) a2 j3 (by omega) g3;simp only [dv,dX];omega
 split at h
 ·obtain ⟨_,h⟩:=bp h;obtain ⟨c,k1,i1,h1,h2,rfl⟩:=aY h;obtain ⟨rfl,rfl⟩:=aV h2;have:=xZ cond c k1 h1;simp only [dv,dX];omega
 split at h
 ·obtain ⟨_,h⟩:=bp h;obtain ⟨_,h⟩:=bp h;obtain ⟨rfl,rfl⟩:=aV h;simp only [dv];omega
 cases h
theorem x7:∀m,UW m/\Ue m
 |0=>⟨fun s d t k h=>by obtain ⟨_,_,_,_,_,_,_⟩:=s;simp only [pz] at h;omega,fun l d t k h=>by have:=dD l;omega⟩
 |m+1=>⟨Lw (x7 m).2,H7 (x7 m).1 (x7 m).2⟩
theorem ww(l:List Sm)(d:Nat)(t:BA)(k:Nat)(h:bI l d=some (t,k)):k<=t.size:=(x7 (lq l)).2 l d t k (nR _) h
theorem EB:∀(l:List BA) (t:BA) (k:Nat),rQ l=some (t,k)->k<=t.size
 |[],t,k,h=>by obtain ⟨rfl,rfl⟩:=aV h;exact Nat.zero_le _
 |v::r,t,k,h=>by
  obtain ⟨_,h⟩:=bp h;obtain ⟨a,b,k1,k2,h1,h2,rfl,rfl⟩:=br h;obtain ⟨rfl,rfl⟩:=aV h1;have:=EB r b k2 h2;simp only [dX];omega
theorem EC:∀(l:List Ar) (t:BA) (k:Nat),nO l=some (t,k)->k<=t.size
 |[],t,k,h=>by obtain ⟨rfl,rfl⟩:=aV h;exact Nat.zero_le _
 |⟨nm,sz⟩::r,t,k,h=>by
  obtain ⟨_,h⟩:=bp h;obtain ⟨_,h⟩:=bp h;obtain ⟨a,b,k1,k2,h1,h2,rfl,rfl⟩:=br h;obtain ⟨rfl,rfl⟩:=aV h1;have:=EC r b k2 h2;simp only [dX];omega
theorem Am:∀(l:List Pc) (t:BA) (k:Nat),eW l=some (t,k)->k<=t.size
 |[],t,k,h=>by obtain ⟨rfl,rfl⟩:=aV h;exact Nat.zero_le _
 |⟨nm,ps,bd,rt⟩::r,t,k,h=>by
  obtain ⟨_,h⟩:=bp h;obtain ⟨_,h⟩:=bp h;obtain ⟨a,b,k1,k2,h1,h2,rfl,rfl⟩:=br h;obtain ⟨rfl,rfl⟩:=aV h1;obtain ⟨a2,b2,k3,k4,h3,h4,rfl,rfl⟩:=br h2;obtain ⟨a3,b3,k5,k6,h5,h6,rfl,rfl⟩:=br h4;obtain ⟨a4,b4,k7,k8,h7,h8,rfl,rfl⟩:=br h6;obtain ⟨rfl,rfl⟩:=aV h7;obtain ⟨s,k9,Ye,h9,dO,rfl⟩:=aY h5;obtain ⟨rfl,rfl⟩:=aV dO;have:=Am r b4 k8 h8;have:=ww bd 1 a2 k3 h3;have:=mS rt 1 1 s k9 h9;simp only [dX,dv];omega
theorem Lx(p:Pg)(t:BA)(k:Nat)(h:jq p=some (t,k)):k<=t.size:=by
 obtain ⟨a,b,k1,k2,h1,h2,rfl,rfl⟩:=br h;obtain ⟨a2,b2,k3,k4,h3,h4,rfl,rfl⟩:=br h2;obtain ⟨a3,b3,k5,k6,h5,h6,rfl,rfl⟩:=br h4;obtain ⟨a4,b4,k7,k8,h7,h8,rfl,rfl⟩:=br h6;obtain ⟨a5,b5,k9,Ye,h9,dO,rfl,rfl⟩:=br h8;obtain ⟨rfl,rfl⟩:=aV h7;obtain ⟨rfl,rfl⟩:=aV dO;have:=EB p.vars a k1 h1;have:=EC p.arrays a2 k3 h3;have:=Am p.procs a3 k5 h5;have:=ww p.main 1 a5 k9 h9;simp only [dX];omega
theorem oy(n f:Nat)(p:Pg)(cd:okPg n f p=true)(hw:wtPg p<=500000000):j9 n f p=match jq p with
  |none=>.bad
  |some (s,_)=>match decide (s.size<=4000) with
   |true=>.ok s
   |false=>.bad:=by
 rw [Ga n f p cd hw];cases h:jq p with
 |none=>rfl
 |some y=>
  obtain ⟨s,k⟩:=y;have:=Lx p s k h;simp only;by_cases hs:s.size<=4000
  ·rw [dT hs,dT (show (k:Int)<=4000 by omega)];rfl
  rw [decide_eq_false hs,Bool.and_false]
end Go.Abs
end
section
namespace Go.Abs
open Go Go.Proofs Go.Proofs.YtedljfabpknjiaaGreatDoor
open Rows (uptoBulk uptoBulkAll)
section
def eZ(W:World)(b:Nat):Nat:=match W.heap[b]? with
 |some (.cells c _ _)=>c.size
 |_=>0
theorem An{W:World}{b o:Nat}{v:Value}(h:W.cell? ⟨b,o,none⟩=some v):o<eZ W b:=by
 unfold World.cell? at h;unfold eZ;split at h
 ·rename_i c ty fr e;rw [e];simp only [Option.isSome_none,Bool.false_eq_true,if_false] at h;exact (Array.getElem?_eq_some_iff.1 h).1
 cases h
theorem tA{W:World}{a:Addr}{k:Nat}{cs:List Value}(hk:0<k)(h:W.cells? 0 a k=some cs):a.spot=none/\cs.length=k/\∀i v,cs[i]? = some v->W.cell? ⟨a.block,a.off+i,none⟩=some v:=by
 unfold World.cells? at h;simp only [Nat.zero_le,if_true] at h;have hl:=Lib.mapM_length h;rw [List.length_range] at hl;have wx:a.spot=none:=by
  obtain ⟨v,_,hv⟩:=Lib.mapM_at h 0 0 (by simp [hk]);cases hs:a.spot with
  |none=>rfl
  |some q=>
   unfold World.cell? at hv;split at hv
   ·have:(a.add 0).spot.isSome=true:=by unfold Addr.add;simp [hs]
    simp [this] at hv
   cases hv
 refine ⟨wx,hl,fun i v hv=>?_⟩;have hi:i<k:=by rw [<- hl];exact (List.getElem?_eq_some_iff.1 hv).1
 obtain ⟨u,hu,hc⟩:=Lib.mapM_at h i i (by simp [hi]);rw [hv] at hu;obtain rfl:=Option.some.inj hu;obtain ⟨b,o,s⟩:=a;simp only at wx;subst wx;rw [add_plain] at hc;exact hc
theorem ED{lim:Nat->Nat}{W:World}{b k:Nat}:∀(xs:List (List Data)) (o:Nat),(∀i cs,xs[i]? = some cs->cs.length=k/\VCells lim W b (o+i * k) cs)->VRow lim W b k o xs
 |[],_,_=>by simp only [VRow]
 |x::xs,o,h=>by
  simp only [VRow];have h0:=h 0 x rfl;rw [Nat.zero_mul,Nat.add_zero] at h0;refine ⟨h0.1,h0.2,ED xs (o+k) fun i cs hi=>?_⟩;have:=h (i+1) cs (by simpa using hi);rw [Nat.succ_mul] at this;rw [Nat.add_assoc,Nat.add_comm k];exact this
theorem rU{α:Type}{R:Nat->α->Prop}:∀(n:Nat),(∀i,i<n->∃x,R i x)->∃l:List α,l.length=n/\∀i x,l[i]? = some x->R i x
 |0,_=>⟨[],rfl,fun i x h=>by cases h⟩
 |n+1,h=>by
  obtain ⟨l,hl,hr⟩:=rU n (fun i hi=>h i (by omega));obtain ⟨x,hx⟩:=h n (by omega);refine ⟨l++[x],by simp [hl],fun i y hy=>?_⟩;rcases Nat.lt_or_ge i l.length with q|q
  ·rw [List.getElem?_append_left q] at hy;exact hr i y hy
  rw [List.getElem?_append_right q] at hy;have:i=n:=by
   have:=(List.getElem?_eq_some_iff.1 hy).1;simp only [List.length_singleton] at this;omega
  subst this;rw [hl,Nat.sub_self] at hy;simp only [List.getElem?_cons_zero,sI] at hy;subst hy;exact hx
def Al{α β:Type}(Q:α->β->Prop):List α->List β->Prop
 |[],[]=>True
 |x::l,d::ds=>Q x d/\Al Q l ds
 |_,_=>False
theorem NH{α β:Type}{Q:α->β->Prop}:∀ {l:List α}{ds:List β},l.length=ds.length->(∀(i:Nat) (x:α),l[i]? = some x->∃d:β,ds[i]? = some d/\Q x d)->Al Q l ds
 |[],[],_,_=>trivial
 |[],d::ds,h,_=>by simp at h
 |x::l,[],h,_=>by simp at h
 |x::l,d::ds,h,hq=>by
  obtain ⟨d',h1,h2⟩:=hq 0 x rfl;simp only [List.getElem?_cons_zero,sI] at h1;subst h1;exact ⟨h2,NH (by simpa using h) (fun i y hy=>by simpa using hq (i+1) y (by simpa using hy))⟩
section
variable {H:Type}{enc:TypeId×Value->H}{W:World}
theorem fi {α:Type}(en:α->List Data) (Q:α->DataW H->Prop) {t e:TypeId}{kk n:Nat}(ht:Tryz.prog.underlying t=some (.slice e)) (hk:Tryz.prog.cellsOf e=kk) (WY:0<kk) (bZ:∀x,(en x).length=kk) (H8:∀x d,d∈en x->d_ d=true)
  (RL:∀m,m<n->∀cs z,DataW.trod enc Tryz.prog W 0 (fun _=>true) true m e cs=some z->∃x,VDs (eZ W) W (en x) cs/\Q x z.1)
  {cs:List Value}{z:DataW H×List MemPlace}(h:DataW.trod enc Tryz.prog W 0 (fun _=>true) true n t cs=some z) :
  ∃(l:List α) (ds:List (DataW H)) (v:Value),cs=[v]/\VD (eZ W) W (.sl kk (l.map en)) v/\Al Q l ds/\uptoBulkAll ds+1<=uptoBulk z.1:=by
 rcases DataW.trod_slice ht h with ⟨rfl,rfl⟩|⟨a,fN,cap,EE,H9,m,rfl,rfl,rfl,_,h1,h2,h3,h4,_,_⟩
 ·exact ⟨[],[],_,rfl,by simp only [VD];exact ⟨none,0,0,rfl,rfl,nR _,Nat.zero_le _,fun q=>absurd rfl q⟩,trivial,by simp [uptoBulkAll,uptoBulk]⟩
 rw [hk] at h4;have step:∀i,i<fN->∃x,∃cs z,W.cells? 0 (a.add (i * kk)) kk=some cs/\EE[i]? = some z/\VDs (eZ W) W (en x) cs/\Q x z.1:=by
  intro i hi;have:=h4 i hi;have he:i<EE.length:=by omega
  rw [List.getElem?_eq_getElem he] at this;obtain ⟨cs,hc,hz⟩:=Option.bind_eq_some_iff.1 this;obtain ⟨x,hx,hq⟩:=RL m (nS _) cs _ hz;exact ⟨x,cs,_,hc,List.getElem?_eq_getElem he,hx,hq⟩
 obtain ⟨l,hl,hr⟩:=rU fN step;refine ⟨l,EE.map (·.1),_,rfl,?_,NH (by simp [hl,h3]) (fun i x hx=>?_),?_⟩
 ·simp only [VD];refine ⟨some a,fN,cap,rfl,by simp [hl],h1,h2,fun hn=>?_⟩;have wx:a.spot=none:=by
   obtain ⟨x,cs,z,hc,_,_,_⟩:=step 0 (by omega);have:=(tA WY hc).1;rw [Nat.zero_mul] at this;obtain ⟨b,o,s⟩:=a;cases s with
   |none=>rfl
   |some q=>unfold Addr.add at this;simp at this
  obtain ⟨b,o,s⟩:=a;simp only at wx;subst wx;refine ⟨b,o,rfl,ED _ _ fun i cs hi=>?_⟩;simp only [List.getElem?_map,Option.map_eq_some_iff] at hi;obtain ⟨x,hx,rfl⟩:=hi;obtain ⟨cs,z,hc,_,hv,_⟩:=hr i x hx;rw [add_plain] at hc;obtain ⟨_,iQ,tB⟩:=tA WY hc;exact ⟨bZ x,mT _ _ _ hv (H8 x) fun j v hj=>⟨tB j v hj,An (tB j v hj)⟩⟩
 ·obtain ⟨cs,z,_,hz,_,hq⟩:=hr i x hx;exact ⟨z.1,by simp [hz],hq⟩
 simp only [uptoBulk];omega
end
end
end Go.Abs
end
section
namespace Go.Abs
open Go Go.Proofs Go.Proofs.YtedljfabpknjiaaGreatDoor Go.ChangeShapes Go.WideShapes
set_option maxRecDepth 100000
section
def tC:Nat->Option Value:=fun _=>none
theorem lH(b:Nat):¬Bl tC b:=fun ⟨id,h⟩=>jr (id:=id) rfl h
theorem H_(lim:Nat->Nat)(w:World):RowsOk tC lim w []:=⟨fun id r h=>by simp at h,fun i j b _ h=>(jr (id:=i) rfl h).elim,fun _ _=>rfl⟩
def K5(W:World)(k:Nat):TypeId:=match W.cell? ⟨k,0,none⟩ with
  |some (.iface t _)=>t
  |_=>0
def Hz(W:World)(k:Nat):Value:=match Nat.beq k 1000 with
  |true=>.int .i64 W.heap.size
  |false=>match Nat.beq k 2000 with
   |true=>.bool false
   |false=>match W.cell? ⟨k,0,none⟩ with
    |some (.iface _ v)=>v
    |_=>undef
theorem sV{W:World}{k:Nat}{t:TypeId}{v:Value}(hk:k<1000)(h:W.cell? ⟨k,0,none⟩=some (.iface t v)):K5 W k=t/\Hz W k=v:=by
  have:Nat.beq k 1000=false:=by rw [<- Bool.not_eq_true,Nat.beq_eq];omega
  have h2:Nat.beq k 2000=false:=by rw [<- Bool.not_eq_true,Nat.beq_eq];omega
  unfold K5 Hz;rw [h,this,h2];exact ⟨rfl,rfl⟩
theorem iW{W:World}{k:Nat}{x:List UInt8}(hk:k<1000)(h:isErr W k x):∃(a:Addr) (s:BA) (c:Array Value) (ty:TypeId),W.cell? ⟨k,0,none⟩=some (.iface (K5 W k) (Hz W k))/\K5 W k=409/\Hz W k=.pointer (some a)/\W.cell? a=some (.string s)/\s.data.toList=x/\W.heap[a.block]? = some (.cells c ty (0,0)):=by
  obtain ⟨a,s,c,ty,h1,h2,h3,h4⟩:=h;obtain ⟨q1,q2⟩:=sV hk h1;exact ⟨a,s,c,ty,by rw [q1,q2,h1],q1,q2,h2,h3,h4⟩
theorem Ao{W:World}{i j:Nat}{x y:List UInt8}(hi:i<1000)(hj:j<1000)(h:isErr W i x)(k:isErr W j y)(aO:x≠y):Hz W i≠Hz W j:=by
  obtain ⟨a,s,_,_,_,_,h1,h2,h3,_⟩:=iW hi h;obtain ⟨b,z,_,_,_,_,k1,k2,k3,_⟩:=iW hj k;intro e;rw [h1,k1] at e;injection e with e
  injection e with e
  subst e;rw [h2] at k2;injection k2 with k2
  injection k2 with k2
  subst k2;exact aO (h3.symm.trans k3)
def tD:Nat->List UInt8
  |0=>[114,97,121,99,111,110,101,58,32,98,111,117,110,100]
  |1=>[114,97,121,99,111,110,101,58,32,115,104,97,112,101]
  |2=>[114,97,121,99,111,110,101,58,32,110,97,109,101]
  |3=>[114,97,121,99,111,110,101,58,32,116,101,120,116]
  |4=>[114,97,121,99,111,110,101,58,32,101,109,112,116,121]
  |5=>[114,97,121,99,111,110,101,58,32,110,111,110,101]
  |6=>[114,97,121,99,111,110,101,58,32,111,114,100,101,114]
  |_=>[114,97,121,99,111,110,101,58,32,112,114,111,111,102]
theorem x8:∀i,i<=7->∀j,j<=7->i≠j->tD i≠tD j:=by
  have key:((List.range 8).all fun i=>(List.range 8).all fun j=>(i==j)||!(tD i==tD j))=true:=by decide +kernel
  intro i hi j hj aO e;have:=List.all_eq_true.1 (List.all_eq_true.1 key i (List.mem_range.2 (by omega))) j (List.mem_range.2 (by omega));simp [aO,e] at this
theorem LaidOk.err{W:World}(h:LaidOk W):∀k,k<=7->isErr W k (tD k):=by
  intro k hk;have:k=0\/k=1\/k=2\/k=3\/k=4\/k=5\/k=6\/k=7:=by omega
  rcases this with rfl|rfl|rfl|rfl|rfl|rfl|rfl|rfl
  · exact h.e0
  · exact h.e1
  · exact h.e2
  · exact h.e3
  · exact h.e4
  · exact h.e5
  · exact h.e6
  exact h.e7
theorem Gd{W:World}(h:LaidOk W):ErrsOk (K5 W) (Hz W):=by
  refine ⟨fun k hk=>?_,?_,?_,fun i j hi hj aO=>?_,rfl⟩
  · obtain ⟨_,_,_,_,_,q,_⟩:=iW (by omega) (h.err k hk)
    exact q
  · exact (sV (by decide) h.et).1
  · exact (sV (by decide) h.et).2
  exact Ao (by omega) (by omega) (h.err i hi) (h.err j hj) (x8 i hi j hj aO)
theorem Ly{W:World}{a:Addr}{v:Value}(h:W.cell? a=some v):a.block<W.heap.size:=by
  unfold World.cell? at h;split at h
  · rename_i e
    exact (Array.getElem?_eq_some_iff.1 e).1
  cases h
theorem R6(W:World):NGof (GV (K5 W) (Hz W))=W.heap.size:=by
  have:GV (K5 W) (Hz W) 1000=some (.int .i64 W.heap.size):=rfl;unfold NGof;rw [this];rfl
theorem pE{n:Nat}{W:World}{g:Nat}(h:∃(v:Value),W.cell? ⟨g,0,none⟩=some (.iface (K5 W g) (Hz W g))):GlobOk1 n (eZ W) W g (.iface (K5 W g) (Hz W g)):=by
  obtain ⟨_,h⟩:=h;simp only [GlobOk1];exact ⟨h,An h,rfl⟩
theorem Ge{W:World}(h:LaidOk W):GlobOk (GV (K5 W) (Hz W)) tC (eZ W) W:=by
  refine ⟨by rw [R6];exact nR _,fun b q=>absurd q (lH b),fun g v hg hv=>?_⟩;rw [R6];have hv:=R7 hv;unfold GO at hv;split at hv
  · rename_i hb
    injection hv with hv
    subst hv;have Yf:g=8\/g<=7\/g=11\/g=12:=by
      simp only [Bool.or_eq_true,Nat.ble_eq,Nat.beq_eq] at hb;omega
    rcases Yf with rfl|hk|rfl|rfl
    · have:=sV (by decide) h.et
      exact pE ⟨undef,by rw [this.1,this.2];exact h.et⟩
    · obtain ⟨_,_,_,_,q,_⟩:=iW (by omega) (h.err g hk)
      exact pE ⟨undef,q⟩
    · obtain ⟨_,_,_,_,q,_⟩:=iW (by decide) h.e11
      exact pE ⟨undef,q⟩
    obtain ⟨_,_,_,_,q,_⟩:=iW (by decide) h.e12;exact pE ⟨undef,q⟩
  split at hv
  · rename_i hb
    injection hv with hv
    subst hv;obtain rfl:=Nat.eq_of_beq_eq_true hb;obtain ⟨ty,fr,e⟩:=h.tab;simp only [GlobOk1];exact ⟨(Array.getElem?_eq_some_iff.1 e).1,ty,fr,e⟩
  split at hv
  · rename_i hb
    obtain rfl:=Nat.eq_of_beq_eq_true hb;cases hg
  split at hv
  · rename_i hb
    injection hv with hv
    subst hv;simp only [bE,Nat.ble_eq] at hb;obtain ⟨a,s,c,ty,_,_,h1,h2,_,h3⟩:=iW (by omega) (h.err (g - 100) (by omega));simp only [GlobOk1];exact ⟨a,c,ty,by rw [h1],Ly h2,h3⟩
  cases hv
theorem Lz{W W':World}{lim':Nat->Nat}(h:Fr (Bl tC) (eZ W) W lim' W')(may:MemPlace->Prop):W.keptBut W' may:=by
  refine ⟨h.os,h.output,fun i hi=>?_⟩;rw [(h.same i hi (lH i)).1];cases e:W.heap[i]? with
  |none=>simp
  |some o=>cases o <;> simp
theorem LA{W W':World}{lim':Nat->Nat}(h:Fr (Bl tC) (eZ W) W lim' W'){p:MemPlace}(hp:p.block<W.heap.size):W.sameAt W' p:=by
  cases p with
  |cell b o=>
    have:=(h.same b hp (lH b)).1;simp only [World.sameAt,World.cell?];rw [this]
  |map b=>exact (h.same b hp (lH b)).1
section
variable {H:Type}{enc:TypeId×Value->H}{P:Program}
theorem post_at {f:Func}{s:ChangeSpec}{cH dN LB R8:Bool}{W W':World}{args:Array Value}{v:Value}{ds gs:List (DataW H)}{before pa pv:List MemPlace}{lim':Nat->Nat}
    (hW:DataW.Whole enc P f.params.toList s.vars cH W args.toList ds gs before)
    (Ap:∀(b:Nat) (sp:Nat->Bool) (hd:Bool),DataW.TrodAll enc P W' b sp hd f.resultTypes.toList (v.resultList f.resultTypes.size) (s.fn H (ds++gs)).results [])
    (NI:∀sp:Nat->Bool,(∀p∈before,sp p.block=true)->DataW.TrodAll enc P W' 0 sp true f.params.toList args.toList (s.fn H (ds++gs)).args pa)
    (NJ:∀sp:Nat->Bool,(∀p∈before,sp p.block=true)->DataW.TrodVars enc P W' sp s.vars (s.fn H (ds++gs)).vars pv)
    (zU:before=pa++pv) (hF:Fr (Bl tC) (eZ W) W lim' W')
    (cd:∀(j:Nat) (t:TypeId) (r:Value),f.resultTypes[j]? = some t->(v.resultList f.resultTypes.size)[j]? = some r->Value.okWide P W' .any 0 t r) :
    s.post enc P f cH dN LB R8 W args v W':=by
  have Ia:∀p∈before,(fun b=>decide (b<W.heap.size)) p.block=true:=fun p hp=>by simpa using hW.lt p hp
  have hlt:=hW.lt;refine ⟨ds,gs,before,[],pa,pv,hW,Ap _ _ _,NI _ Ia,NJ _ Ia,Lz hF _,fun _=>?_⟩;obtain ⟨_,_,_,_,_,hz,hn⟩:=hW;refine ⟨cd,_,_,([]++pa)++pv,⟨[]++pa,pv,trodAll_append (NI _ (fun _ _=>rfl)) (Ap _ _ _),NJ _ (fun _ _=>rfl),rfl,?_,?_⟩,?_⟩
  · intro b off hp
    have K6:MemPlace.cell b off∈before:=by rw [zU];simpa using hp
    have:=hz b off K6;unfold World.frozen? at this ⊢;rw [(hF.same b (hlt _ K6) (lH b)).1];exact this
  · intro ha
    have:=hn ha;rw [zU] at this
    simpa using this
  intro p hp _;rw [zU]
  simpa using hp
end
end
end Go.Abs
end
section
namespace Go.Abs
open Go Go.Proofs Go.Proofs.YtedljfabpknjiaaGreatDoor
set_option maxRecDepth 100000
noncomputable def K7:Nat:=(World.holding Tryz.prog default ⟨#[],#[],[]⟩).heap.size
noncomputable def Ib:List (Nat×Array Value):=[(13,#[.int .u8 0,.int .u8 1,.int .u8 28,.int .u8 2,.int .u8 29,.int .u8 14,.int .u8 24,.int .u8 3,.int .u8 30,.int .u8 22,.int .u8 20,.int .u8 15,.int .u8 25,.int .u8 17,.int .u8 4,.int .u8 8,.int .u8 31,.int .u8 27,.int .u8 13,.int .u8 23,.int .u8 21,.int .u8 19,.int .u8 16,.int .u8 7,.int .u8 26,.int .u8 12,.int .u8 18,.int .u8 6,.int .u8 11,.int .u8 5,.int .u8 10,.int .u8 9]),(14,#[.int .u8 0,.int .u8 1,.int .u8 56,.int .u8 2,.int .u8 57,.int .u8 49,.int .u8 28,.int .u8 3,.int .u8 61,.int .u8 58,.int .u8 42,.int .u8 50,.int .u8 38,.int .u8 29,.int .u8 17,.int .u8 4,.int .u8 62,.int .u8 47,.int .u8 59,.int .u8 36,.int .u8 45,.int .u8 43,.int .u8 51,.int .u8 22,.int .u8 53,.int .u8 39,.int .u8 33,.int .u8 30,.int .u8 24,.int .u8 18,.int .u8 12,.int .u8 5,.int .u8 63,.int .u8 55,.int .u8 48,.int .u8 27,.int .u8 60,.int .u8 41,.int .u8 37,.int .u8 16,.int .u8 46,.int .u8 35,.int .u8 44,.int .u8 21,.int .u8 52,.int .u8 32,.int .u8 23,.int .u8 11,.int .u8 54,.int .u8 26,.int .u8 40,.int .u8 15,.int .u8 34,.int .u8 20,.int .u8 31,.int .u8 10,.int .u8 25,.int .u8 14,.int .u8 19,.int .u8 9,.int .u8 13,.int .u8 8,.int .u8 7,.int .u8 6]),(9,(pow10V.map fun z=>Value.int .u64 z).toArray),(8,#[.iface 353 (.agg #[.pointer (some ⟨15,30,none⟩)])]),(0,#[.iface 409 (.pointer (some ⟨K7+0,0,none⟩))]),(1,#[.iface 409 (.pointer (some ⟨K7+1,0,none⟩))]),(2,#[.iface 409 (.pointer (some ⟨K7+2,0,none⟩))]),(3,#[.iface 409 (.pointer (some ⟨K7+3,0,none⟩))]),(4,#[.iface 409 (.pointer (some ⟨K7+4,0,none⟩))]),(5,#[.iface 409 (.pointer (some ⟨K7+5,0,none⟩))]),(6,#[.iface 409 (.pointer (some ⟨K7+6,0,none⟩))]),(7,#[.iface 409 (.pointer (some ⟨K7+7,0,none⟩))]),(11,#[.iface 409 (.pointer (some ⟨K7+8,0,none⟩))]),(12,#[.iface 409 (.pointer (some ⟨K7+9,0,none⟩))])]
noncomputable def mU(os:Os):World:=
 let w0:=World.holding Tryz.prog os ⟨#[.cells #[.string ⟨#[114,97,121,99,111,110,101,58,32,98,111,117,110,100]⟩] 411 (0,0),.cells #[.string ⟨#[114,97,121,99,111,110,101,58,32,115,104,97,112,101]⟩] 411 (0,0),.cells #[.string ⟨#[114,97,121,99,111,110,101,58,32,110,97,109,101]⟩] 411 (0,0),.cells #[.string ⟨#[114,97,121,99,111,110,101,58,32,116,101,120,116]⟩] 411 (0,0),.cells #[.string ⟨#[114,97,121,99,111,110,101,58,32,101,109,112,116,121]⟩] 411 (0,0),.cells #[.string ⟨#[114,97,121,99,111,110,101,58,32,110,111,110,101]⟩] 411 (0,0),.cells #[.string ⟨#[114,97,121,99,111,110,101,58,32,111,114,100,101,114]⟩] 411 (0,0),.cells #[.string ⟨#[114,97,121,99,111,110,101,58,32,112,114,111,111,102]⟩] 411 (0,0),.cells #[.string ⟨#[105,110,118,97,108,105,100,32,115,121,110,116,97,120]⟩] 411 (0,0),.cells #[.string ⟨#[118,97,108,117,101,32,111,117,116,32,111,102,32,114,97,110,103,101]⟩] 411 (0,0)],#[],[]⟩
 { w0 with heap:=Ib.foldl (fun h m=>h.modify m.1 fun
   |.cells _ t frozen=>.cells m.2 t frozen
   | o => o) w0.heap }
theorem vJ(os:Os)(args:Array Value):laidMetH Tryz.prog mN ((mU os).forCall (fun _ _=>0) ⟨#[],args,[]⟩).memory:=by
 unfold laidMetH;rw [rN,rO];exact ⟨laidMet_of_run' 8 (by kernel_rfl) (by kernel_rfl),handlesMet_of_B (by kernel_rfl)⟩
theorem tE(os:Os)(args:Array Value):((mU os).forCall (fun _ _=>0) ⟨#[],args,[]⟩).variablesRefB Tryz.prog=true:=by kernel_rfl
end Go.Abs
end
section
namespace Go.Abs
open Go Go.Proofs Go.Proofs.YtedljfabpknjiaaGreatDoor
open Rows (uptoBulk uptoBulkAll)
section
theorem NK{α:Type}{l:List α}(h:l.length=2):∃a0 a1,l=[a0,a1]:=by
 match l,h with
 |[a0,a1],_=>exact ⟨a0,a1,rfl⟩
theorem R9{α:Type}{l:List α}(h:l.length=3):∃a0 a1 a2,l=[a0,a1,a2]:=by
 match l,h with
 |[a0,a1,a2],_=>exact ⟨a0,a1,a2,rfl⟩
theorem Aq{α:Type}{l:List α}(h:l.length=4):∃a0 a1 a2 a3,l=[a0,a1,a2,a3]:=by
 match l,h with
 |[a0,a1,a2,a3],_=>exact ⟨a0,a1,a2,a3,rfl⟩
theorem Ic{α:Type}{l:List α}(h:l.length=7):∃a0 a1 a2 a3 a4 a5 a6,l=[a0,a1,a2,a3,a4,a5,a6]:=by
 match l,h with
 |[a0,a1,a2,a3,a4,a5,a6],_=>exact ⟨a0,a1,a2,a3,a4,a5,a6,rfl⟩
theorem R_{α:Type}{l:List α}(h:l.length=9):∃a0 a1 a2 a3 a4 a5 a6 a7 a8,l=[a0,a1,a2,a3,a4,a5,a6,a7,a8]:=by
 match l,h with
 |[a0,a1,a2,a3,a4,a5,a6,a7,a8],_=>exact ⟨a0,a1,a2,a3,a4,a5,a6,a7,a8,rfl⟩
theorem c9:Tryz.prog.cellsOf 9=1:=by kernel_rfl
theorem c3:Tryz.prog.cellsOf 3=1:=by kernel_rfl
theorem WZ:Tryz.prog.cellsOf 59=1:=by kernel_rfl
theorem c143:Tryz.prog.cellsOf 143=4:=by kernel_rfl
theorem R':Tryz.prog.cellsOf 288=9:=by kernel_rfl
theorem Yg:Tryz.prog.cellsOf 60=1:=by kernel_rfl
theorem UX:Tryz.prog.cellsOf 226=1:=by kernel_rfl
theorem LC:Tryz.prog.cellsOf 228=7:=by kernel_rfl
theorem Uf:Tryz.prog.cellsOf 35=1:=by kernel_rfl
theorem W0:Tryz.prog.cellsOf 99=2:=by kernel_rfl
theorem c145:Tryz.prog.cellsOf 145=7:=by kernel_rfl
theorem c37:Tryz.prog.cellsOf 37=4:=by kernel_rfl
theorem Ug:Tryz.prog.cellsOf 23=1:=by kernel_rfl
theorem Yh:Tryz.prog.cellsOf 33=1:=by kernel_rfl
theorem Yi:Tryz.prog.cellsOf 34=1:=by kernel_rfl
section
variable {H:Type}{enc:TypeId×Value->H}{W:World}
theorem gl(d:DataW H):1<=uptoBulk d:=by
 cases d with
 |lit l=>cases l <;> simp [uptoBulk]
 |nil=>simp [uptoBulk]
 |ptr d=>simp [uptoBulk]
 |slice EE W1=>simp [uptoBulk]
 |agg parts=>simp [uptoBulk]
 |iface t d=>simp [uptoBulk]
 |map Uh=>simp [uptoBulk]
 |held h=>simp [uptoBulk]
def QS(s:BA)(d:DataW H):Prop:=s.size+1<=uptoBulk d
theorem kB{n:Nat}{cs:List Value}{z:DataW H×List MemPlace}(h:DataW.trod enc Tryz.prog W 0 (fun _=>true) true n 9 cs=some z):∃s:BA,cs=[.string s]/\QS s z.1:=by
 obtain ⟨s,rfl,rfl,_⟩:=DataW.trod_string Tryz.underlying9 h;refine ⟨s,rfl,?_⟩;simp only [QS,uptoBulk];have:s.data.toList.length=s.size:=by simp
 omega
theorem CO{n:Nat}{cs:List Value}{z:DataW H×List MemPlace}(h:DataW.trod enc Tryz.prog W 0 (fun _=>true) true n 3 cs=some z):∃i:Int,cs=[.int .i64 i]/\jX i=true/\uptoBulk z.1=1:=by
 obtain ⟨i,rfl,rfl,hw⟩:=DataW.trod_int Tryz.underlying3 h;refine ⟨i,rfl,?_,by simp [uptoBulk]⟩;simp only [Lit.wf,bE,dE] at hw;unfold jX;simp only [bE,dE];have e1:IntKind.i64.min = -9223372036854775808:=by decide
 have e2:IntKind.i64.max=9223372036854775807:=by decide
 rw [e1,e2] at hw;exact hw
def QE(e:Ex)(d:DataW H):Prop:=nmE e=true/\wtE e+2<=70 * uptoBulk d/\fuE e+1<=2 * uptoBulk d
theorem Ie:∀ {l:List Ex}{ds:List (DataW H)},Al QE l ds->vH l=true/\gD l<=70 * uptoBulkAll ds/\la l<=2 * uptoBulkAll ds
 |[],[],_=>⟨rfl,by simp [gD],by simp [la]⟩
 |[],d::ds,h=>h.elim
 |x::l,[],h=>h.elim
 |x::l,d::ds,⟨⟨h1,h2,h3⟩,h⟩=>by
  obtain ⟨k1,k2,k3⟩:=Ie h;simp only [vH,gD,la,uptoBulkAll,h1,k1];refine ⟨rfl,?_,?_⟩ <;> omega
theorem pF(e:Ex)(d:Data)(h:d∈e.cs):d_ d=true:=by
 obtain ⟨op,n,nm,l⟩:=e;simp only [Ex.cs,List.mem_cons,List.not_mem_nil,or_false] at h;rcases h with rfl|rfl|rfl|rfl <;> rfl
theorem x9(e:Ex):e.cs.length=4:=by obtain ⟨op,n,nm,l⟩:=e;rfl
theorem x_:∀l:List Ex,bR l=l.map Ex.cs
 |[]=>rfl
 |e::r=>by simp only [bR,List.map_cons,x_ r]
theorem EF(n:Nat):∀(cs:List Value) (z:DataW H×List MemPlace),DataW.trod enc Tryz.prog W 0 (fun _=>true) true n 143 cs=some z->∃e:Ex,VDs (eZ W) W e.cs cs/\QE e z.1:=by
 induction n using Nat.strongRecOn with
 |_ n ih=>
  intro cs z h;obtain ⟨xs,m,rfl,rfl,hl,hx,hf⟩:=DataW.trod_struct Tryz.underlying143 h;rw [c143] at hl;obtain ⟨a0,a1,a2,a3,rfl⟩:=Aq hl;obtain ⟨x0,x1,x2,x3,rfl⟩:=Aq (hx:xs.length=4);have h0:DataW.trod enc Tryz.prog W 0 (fun _=>true) true m 9 [a0]=some x0:=by simpa [c9] using hf 0 _ rfl
  have h1:DataW.trod enc Tryz.prog W 0 (fun _=>true) true m 3 [a1]=some x1:=by simpa [c3] using hf 1 _ rfl
  have h2:DataW.trod enc Tryz.prog W 0 (fun _=>true) true m 9 [a2]=some x2:=by simpa [c9] using hf 2 _ rfl
  have h3:DataW.trod enc Tryz.prog W 0 (fun _=>true) true m 59 [a3]=some x3:=by simpa [WZ] using hf 3 _ rfl
  obtain ⟨op,e0,q0⟩:=kB h0;obtain ⟨i,e1,q1,b1⟩:=CO h1;obtain ⟨nm,e2,q2⟩:=kB h2;obtain ⟨l,ds,v,e3,hv,vB,hb⟩:=fi Ex.cs QE Tryz.underlying59 c143 (by decide) x9 pF (fun m' hm cs z hz=>ih m' (by omega) cs z hz) h3;obtain ⟨k1,k2,k3⟩:=Ie vB;simp only [List.cons.injEq,and_true] at e0 e1 e2 e3;subst e0 e1 e2 e3;refine ⟨.mk op i nm l,?_,?_⟩
  ·simp only [Ex.cs,VDs,VD.eq_1,aW,aD,x_];exact ⟨_,_,rfl,rfl,_,_,rfl,rfl,_,_,rfl,rfl,_,_,rfl,hv,rfl⟩
  simp only [QS] at q0 q2;simp only [QE,nmE,wtE,fuE,List.map_cons,List.map_nil,uptoBulk,uptoBulkAll,q1,k1,b1];refine ⟨rfl,?_,?_⟩ <;> omega
theorem EG{lim:Nat->Nat}:∀ {a b:List Data}{x y:List Value},VDs lim W a x->VDs lim W b y->VDs lim W (a++b) (x++y)
 |[],b,x,y,h,k=>by simp only [VDs] at h;subst h;exact k
 |c::a,b,x,y,h,k=>by
  simp only [VDs] at h;obtain ⟨u,us,rfl,h1,h2⟩:=h;simp only [List.cons_append,VDs];exact ⟨u,us++y,rfl,h1,EG h2 k⟩
def QT(t:Ts)(d:DataW H):Prop:=RI t=true/\HS t+5<=70 * uptoBulk d/\RH t<=2 * uptoBulk d
theorem NL:∀ {l:List Ts}{ds:List (DataW H)},Al QT l ds->HT l=true/\mO l<=10+70 * uptoBulkAll ds/\Hv l<=2 * uptoBulkAll ds
 |[],[],_=>⟨rfl,by simp [mO],by simp [Hv]⟩
 |[],d::ds,h=>h.elim
 |x::l,[],h=>h.elim
 |x::l,d::ds,⟨⟨h1,h2,h3⟩,h⟩=>by
  obtain ⟨k1,k2,k3⟩:=NL h;simp only [HT,mO,Hv,uptoBulkAll,h1,k1];refine ⟨rfl,?_,?_⟩ <;> omega
theorem LD(t:Ts)(d:Data)(h:d∈t.cs):d_ d=true:=by
 unfold Ts.cs at h;rcases List.mem_append.1 h with h|h
 ·exact pF _ d h
 rcases List.mem_cons.1 h with rfl|h
 ·rfl
 exact pF _ d h
theorem OW(t:Ts):t.cs.length=9:=by simp [Ts.cs,x9]
theorem Sa{n:Nat}{cs:List Value}{z:DataW H×List MemPlace}(h:DataW.trod enc Tryz.prog W 0 (fun _=>true) true n 288 cs=some z):∃t:Ts,VDs (eZ W) W t.cs cs/\QT t z.1:=by
 obtain ⟨xs,m,rfl,rfl,hl,hx,hf⟩:=DataW.trod_struct Tryz.underlying288 h;rw [R'] at hl;obtain ⟨a0,a1,a2,a3,a4,a5,a6,a7,a8,rfl⟩:=R_ hl;obtain ⟨x0,x1,x2,rfl⟩:=R9 (hx:xs.length=3);have h0:DataW.trod enc Tryz.prog W 0 (fun _=>true) true m 143 [a0,a1,a2,a3]=some x0:=by simpa [c143] using hf 0 _ rfl
 have h1:DataW.trod enc Tryz.prog W 0 (fun _=>true) true m 9 [a4]=some x1:=by simpa [c9] using hf 1 _ rfl
 have h2:DataW.trod enc Tryz.prog W 0 (fun _=>true) true m 143 [a5,a6,a7,a8]=some x2:=by simpa [c143] using hf 2 _ rfl
 obtain ⟨a,va,q1,q2,q3⟩:=EF m _ _ h0;obtain ⟨r,e1,qr⟩:=kB h1;obtain ⟨b,vb,p1,p2,p3⟩:=EF m _ _ h2;simp only [List.cons.injEq,and_true] at e1;subst e1;refine ⟨⟨a,r,b⟩,?_,?_⟩
 ·unfold Ts.cs;refine EG (x:=[a0,a1,a2,a3]) va ?_;simp only [VDs,VD.eq_1,aW];exact ⟨_,_,rfl,rfl,vb⟩
 simp only [QS] at qr;simp only [QT,RI,HS,RH,List.map_cons,List.map_nil,uptoBulk,uptoBulkAll,q1,p1];refine ⟨rfl,?_,?_⟩ <;> omega
def QR(r:List Ts)(d:DataW H):Prop:=HT r=true/\mO r+4<=70 * uptoBulk d/\Hv r<=2 * uptoBulk d
theorem NM:∀ {l:List (List Ts)}{ds:List (DataW H)},Al QR l ds->Hw l=true/\iD l<=10+70 * uptoBulkAll ds/\Ew l<=2 * uptoBulkAll ds
 |[],[],_=>⟨rfl,by simp [iD],by simp [Ew]⟩
 |[],d::ds,h=>h.elim
 |x::l,[],h=>h.elim
 |x::l,d::ds,⟨⟨h1,h2,h3⟩,h⟩=>by
  obtain ⟨k1,k2,k3⟩:=NM h;simp only [Hw,iD,Ew,uptoBulkAll,h1,k1];refine ⟨rfl,?_,?_⟩ <;> omega
theorem OX{n:Nat}{cs:List Value}{z:DataW H×List MemPlace}(h:DataW.trod enc Tryz.prog W 0 (fun _=>true) true n 60 cs=some z):∃r:List Ts,VDs (eZ W) W [.sl 9 (kr r)] cs/\QR r z.1:=by
 obtain ⟨l,ds,v,rfl,hv,vB,hb⟩:=fi Ts.cs QT Tryz.underlying60 R' (by decide) OW LD (fun m' hm cs z hz=>Sa hz) h;obtain ⟨k1,k2,k3⟩:=NL vB;refine ⟨l,?_,k1,by omega,by omega⟩;simp only [VDs];exact ⟨v,[],rfl,hv,rfl⟩
theorem LF{n:Nat}{cs:List Value}{z:DataW H×List MemPlace}(h:DataW.trod enc Tryz.prog W 0 (fun _=>true) true n 226 cs=some z):∃(c:List (List Ts)) (v:Value),cs=[v]/\VD (eZ W) W (.sl 1 (eG c)) v/\Hw c=true/\iD c<=10+70 * (uptoBulk z.1 - 1)/\Ew c<=2 * uptoBulk z.1:=by
 obtain ⟨l,ds,v,rfl,hv,vB,hb⟩:=fi (fun r=>[Data.sl 9 (kr r)]) QR Tryz.underlying226 Yg (by decide) (fun _=>rfl) (fun x d hd=>by rw [List.mem_singleton.1 hd];rfl) (fun m' hm cs z hz=>OX hz) h;obtain ⟨k1,k2,k3⟩:=NM vB;exact ⟨l,v,rfl,hv,k1,by omega,by omega⟩
def QM(s:Sm)(d:DataW H):Prop:=im s+1<=70 * uptoBulk d/\pz s+2<=10 * uptoBulk d/\∀N,10 * uptoBulk d<=N->tx N s=true
theorem EH:∀ {l:List Sm}{ds:List (DataW H)},Al QM l ds->dG l<=1+70 * uptoBulkAll ds/\lq l<=2+10 * uptoBulkAll ds/\∀N,10 * uptoBulkAll ds<=N->okB N l=true
 |[],[],_=>⟨by simp [dG],by simp [lq],fun _ _=>rfl⟩
 |[],d::ds,h=>h.elim
 |x::l,[],h=>h.elim
 |x::l,d::ds,⟨⟨h1,h2,h3⟩,h⟩=>by
  obtain ⟨k1,k2,k3⟩:=EH h;simp only [dG,lq,okB,uptoBulkAll];refine ⟨by omega,by omega,fun N hN=>?_⟩;rw [h3 N (by omega),k3 N (by omega)];rfl
theorem ya(s:Sm)(d:Data)(h:d∈s.cs):d_ d=true:=by
 obtain ⟨a,b,c,e,f,g,i⟩:=s;simp only [Sm.cs,List.mem_cons,List.not_mem_nil,or_false] at h;rcases h with rfl|rfl|rfl|rfl|rfl|rfl|rfl <;> rfl
theorem CP(s:Sm):s.cs.length=7:=by obtain ⟨a,b,c,e,f,g,i⟩:=s;rfl
theorem yb:∀l:List Sm,bF l=l.map Sm.cs
 |[]=>rfl
 |e::r=>by simp only [bF,List.map_cons,yb r]
theorem OY{n:Nat}{cs:List Value}{z:DataW H×List MemPlace}(h:DataW.trod enc Tryz.prog W 0 (fun _=>true) true n 59 cs=some z):∃(l:List Ex) (v:Value),cs=[v]/\VD (eZ W) W (.sl 4 (bR l)) v/\vH l=true/\gD l<=70 * (uptoBulk z.1 - 1)/\la l<=2 * uptoBulk z.1:=by
 obtain ⟨l,ds,v,rfl,hv,vB,hb⟩:=fi Ex.cs QE Tryz.underlying59 c143 (by decide) x9 pF (fun m' hm cs z hz=>EF m' cs z hz) h;obtain ⟨k1,k2,k3⟩:=Ie vB;exact ⟨l,v,rfl,by rw [x_];exact hv,k1,by omega,by omega⟩
theorem Sc(n:Nat):∀(cs:List Value) (z:DataW H×List MemPlace),DataW.trod enc Tryz.prog W 0 (fun _=>true) true n 228 cs=some z->∃s:Sm,VDs (eZ W) W s.cs cs/\QM s z.1:=by
 induction n using Nat.strongRecOn with
 |_ n ih=>
  intro cs z h;obtain ⟨xs,m,rfl,rfl,hl,hx,hf⟩:=DataW.trod_struct Tryz.underlying228 h;rw [LC] at hl;obtain ⟨a0,a1,a2,a3,a4,a5,a6,rfl⟩:=Ic hl;obtain ⟨x0,x1,x2,x3,x4,x5,x6,rfl⟩:=Ic (hx:xs.length=7);have h0:DataW.trod enc Tryz.prog W 0 (fun _=>true) true m 9 [a0]=some x0:=by simpa [c9] using hf 0 _ rfl
  have h1:DataW.trod enc Tryz.prog W 0 (fun _=>true) true m 9 [a1]=some x1:=by simpa [c9] using hf 1 _ rfl
  have h2:DataW.trod enc Tryz.prog W 0 (fun _=>true) true m 9 [a2]=some x2:=by simpa [c9] using hf 2 _ rfl
  have h3:DataW.trod enc Tryz.prog W 0 (fun _=>true) true m 59 [a3]=some x3:=by simpa [WZ] using hf 3 _ rfl
  have h4:DataW.trod enc Tryz.prog W 0 (fun _=>true) true m 226 [a4]=some x4:=by simpa [UX] using hf 4 _ rfl
  have h5:DataW.trod enc Tryz.prog W 0 (fun _=>true) true m 35 [a5]=some x5:=by simpa [Uf] using hf 5 _ rfl
  have h6:DataW.trod enc Tryz.prog W 0 (fun _=>true) true m 35 [a6]=some x6:=by simpa [Uf] using hf 6 _ rfl
  obtain ⟨ap,e0,q0⟩:=kB h0;obtain ⟨name,e1,q1⟩:=kB h1;obtain ⟨proc,e2,q2⟩:=kB h2;obtain ⟨args,v3,e3,w3,n3,b3,f3⟩:=OY h3;obtain ⟨cond,v4,e4,w4,n4,b4,f4⟩:=LF h4;obtain ⟨ao,ds5,v5,e5,w5,Yj,b5⟩:=fi Sm.cs QM Tryz.underlying35 LC (by decide) CP ya (fun m' hm cs z hz=>ih m' (by omega) cs z hz) h5;obtain ⟨aK,ds6,v6,e6,w6,Yk,b6⟩:=fi Sm.cs QM Tryz.underlying35 LC (by decide) CP ya (fun m' hm cs z hz=>ih m' (by omega) cs z hz) h6;obtain ⟨k5,l5,m5⟩:=EH Yj;obtain ⟨k6,l6,m6⟩:=EH Yk;simp only [List.cons.injEq,and_true] at e0 e1 e2 e3 e4 e5 e6;subst e0 e1 e2 e3 e4 e5 e6;refine ⟨.mk ap name proc args cond ao aK,?_,?_⟩
  ·simp only [Sm.cs,VDs,VD.eq_1,aW,yb];exact ⟨_,_,rfl,rfl,_,_,rfl,rfl,_,_,rfl,rfl,_,_,rfl,w3,_,_,rfl,w4,_,_,rfl,w5,_,_,rfl,w6,rfl⟩
  simp only [QS] at q0 q1 q2;have u3:=gl x3.1;have u4:=gl x4.1;simp only [QM,im,pz,tx,List.map_cons,List.map_nil,uptoBulk,uptoBulkAll];refine ⟨by omega,by omega,fun N hN=>?_⟩;rw [n3,n4,m5 N (by omega),m6 N (by omega),dT (show la args<=N by omega),dT (show Ew cond<=N by omega)];rfl
theorem If{n:Nat}{cs:List Value}{z:DataW H×List MemPlace}(h:DataW.trod enc Tryz.prog W 0 (fun _=>true) true n 35 cs=some z):∃(l:List Sm) (v:Value),cs=[v]/\VD (eZ W) W (.sl 7 (bF l)) v/\dG l+69<=70 * uptoBulk z.1/\lq l<=2+10 * uptoBulk z.1/\∀N,10 * uptoBulk z.1<=N->okB N l=true:=by
 obtain ⟨l,ds,v,rfl,hv,vB,hb⟩:=fi Sm.cs QM Tryz.underlying35 LC (by decide) CP ya (fun m' hm cs z hz=>Sc m' cs z hz) h;obtain ⟨k1,k2,k3⟩:=EH vB;exact ⟨l,v,rfl,by rw [yb];exact hv,by omega,by omega,fun N hN=>k3 N (by omega)⟩
def QV(s:BA)(d:DataW H):Prop:=s.size+1<=uptoBulk d
theorem NN:∀ {l:List BA}{ds:List (DataW H)},Al QV l ds->nu l<=1+60 * uptoBulkAll ds
 |[],[],_=>by simp [nu]
 |[],d::ds,h=>h.elim
 |x::l,[],h=>h.elim
 |x::l,d::ds,⟨h1,h⟩=>by
  have k:=NN h;simp only [QV] at h1;simp only [nu,uptoBulkAll];omega
theorem EI{n:Nat}{cs:List Value}{z:DataW H×List MemPlace}(h:DataW.trod enc Tryz.prog W 0 (fun _=>true) true n 23 cs=some z):∃(l:List BA) (v:Value),cs=[v]/\VD (eZ W) W (.sl 1 (strs l)) v/\nu l+59<=60 * uptoBulk z.1:=by
 obtain ⟨l,ds,v,rfl,hv,vB,hb⟩:=fi (fun s=>[aW s]) QV Tryz.underlying23 c9 (by decide) (fun _=>rfl) (fun x d hd=>by rw [List.mem_singleton.1 hd];rfl) (fun m' hm cs z hz=>by
  obtain ⟨s,rfl,hs⟩:=kB hz;exact ⟨s,by simp only [VDs,VD.eq_1,aW];exact ⟨_,_,rfl,rfl,rfl⟩,hs⟩) h
 have k:=NN vB;exact ⟨l,v,rfl,hv,by omega⟩
def QA(a:Ar)(d:DataW H):Prop:=jX a.size=true/\a.name.size+90<=70 * uptoBulk d
theorem NO:∀ {l:List Ar}{ds:List (DataW H)},Al QA l ds->Lt l=true/\xW l<=1+70 * uptoBulkAll ds
 |[],[],_=>⟨rfl,by simp [xW]⟩
 |[],d::ds,h=>h.elim
 |x::l,[],h=>h.elim
 |x::l,d::ds,⟨⟨h1,h2⟩,h⟩=>by
  obtain ⟨k1,k2⟩:=NO h;simp only [Lt,xW,uptoBulkAll,h1,k1];refine ⟨rfl,?_⟩;omega
theorem Sd{n:Nat}{cs:List Value}{z:DataW H×List MemPlace}(h:DataW.trod enc Tryz.prog W 0 (fun _=>true) true n 33 cs=some z):∃(l:List Ar) (v:Value),cs=[v]/\VD (eZ W) W (.sl 2 (l.map Ar.cs)) v/\Lt l=true/\xW l+69<=70 * uptoBulk z.1:=by
 obtain ⟨l,ds,v,rfl,hv,vB,hb⟩:=fi Ar.cs QA Tryz.underlying33 W0 (by decide) (fun _=>rfl) (fun x d hd=>by
  simp only [Ar.cs,List.mem_cons,List.not_mem_nil,or_false] at hd;rcases hd with rfl|rfl <;> rfl) (fun m' hm cs z hz=>by
  obtain ⟨xs,m,rfl,rfl,hl,hx,hf⟩:=DataW.trod_struct Tryz.underlying99 hz;rw [W0] at hl;obtain ⟨a0,a1,rfl⟩:=NK hl;obtain ⟨x0,x1,rfl⟩:=NK (hx:xs.length=2);have h0:DataW.trod enc Tryz.prog W 0 (fun _=>true) true m 9 [a0]=some x0:=by simpa [c9] using hf 0 _ rfl
  have h1:DataW.trod enc Tryz.prog W 0 (fun _=>true) true m 3 [a1]=some x1:=by simpa [c3] using hf 1 _ rfl
  obtain ⟨nm,e0,q0⟩:=kB h0;obtain ⟨i,e1,q1,b1⟩:=CO h1;simp only [List.cons.injEq,and_true] at e0 e1;subst e0 e1;refine ⟨⟨nm,i⟩,?_,?_⟩
  ·simp only [Ar.cs,VDs,VD.eq_1,aW,aD];exact ⟨_,_,rfl,rfl,_,_,rfl,rfl,rfl⟩
  simp only [QS] at q0;simp only [QA,List.map_cons,List.map_nil,uptoBulk,uptoBulkAll,b1];exact ⟨q1,by omega⟩) h
 obtain ⟨k1,k2⟩:=NO vB;exact ⟨l,v,rfl,hv,k1,by omega⟩
def QP(p:Pc)(d:DataW H):Prop:=p.name.size+300+nu p.params+dG p.body+wtE p.ret<=90 * uptoBulk d/\∀N,10 * uptoBulk d<=N->(okB N p.body=true/\lq p.body+1<=N)/\nmE p.ret=true/\fuE p.ret<=N
theorem NP:∀ {l:List Pc}{ds:List (DataW H)},Al QP l ds->lz l<=1+90 * uptoBulkAll ds/\∀N,10 * uptoBulkAll ds<=N->xX N N l=true
 |[],[],_=>⟨by simp [lz],fun _ _=>rfl⟩
 |[],d::ds,h=>h.elim
 |x::l,[],h=>h.elim
 |x::l,d::ds,⟨⟨h1,h2⟩,h⟩=>by
  obtain ⟨k1,k2⟩:=NP h;simp only [lz,xX,uptoBulkAll];refine ⟨by omega,fun N hN=>?_⟩;obtain ⟨⟨g1,g2⟩,g3,g4⟩:=h2 N (by omega);rw [g1,g3,dT g2,dT g4,k2 N (by omega)];rfl
theorem LG(p:Pc)(d:Data)(h:d∈p.cs):d_ d=true:=by
 unfold Pc.cs at h;rcases List.mem_append.1 h with h|h
 ·simp only [List.mem_cons,List.not_mem_nil,or_false] at h;rcases h with rfl|rfl|rfl <;> rfl
 exact pF _ d h
theorem Se{n:Nat}{cs:List Value}{z:DataW H×List MemPlace}(h:DataW.trod enc Tryz.prog W 0 (fun _=>true) true n 145 cs=some z):∃p:Pc,VDs (eZ W) W p.cs cs/\QP p z.1:=by
 obtain ⟨xs,m,rfl,rfl,hl,hx,hf⟩:=DataW.trod_struct Tryz.underlying145 h;rw [c145] at hl;obtain ⟨a0,a1,a2,a3,a4,a5,a6,rfl⟩:=Ic hl;obtain ⟨x0,x1,x2,x3,rfl⟩:=Aq (hx:xs.length=4);have h0:DataW.trod enc Tryz.prog W 0 (fun _=>true) true m 9 [a0]=some x0:=by simpa [c9] using hf 0 _ rfl
 have h1:DataW.trod enc Tryz.prog W 0 (fun _=>true) true m 23 [a1]=some x1:=by simpa [Ug] using hf 1 _ rfl
 have h2:DataW.trod enc Tryz.prog W 0 (fun _=>true) true m 35 [a2]=some x2:=by simpa [Uf] using hf 2 _ rfl
 have h3:DataW.trod enc Tryz.prog W 0 (fun _=>true) true m 143 [a3,a4,a5,a6]=some x3:=by simpa [c143] using hf 3 _ rfl
 obtain ⟨nm,e0,q0⟩:=kB h0;obtain ⟨ps,v1,e1,w1,b1⟩:=EI h1;obtain ⟨bd,v2,e2,w2,b2,f2,o2⟩:=If h2;obtain ⟨rt,w3,g1,g2,g3⟩:=EF m _ _ h3;simp only [List.cons.injEq,and_true] at e0 e1 e2;subst e0 e1 e2;refine ⟨⟨nm,ps,bd,rt⟩,?_,?_⟩
 ·unfold Pc.cs;simp only [List.cons_append,List.nil_append,VDs,VD.eq_1,aW];exact ⟨_,_,rfl,rfl,_,_,rfl,w1,_,_,rfl,w2,w3⟩
 have u1:=gl x1.1;have u2:=gl x2.1;have u3:=gl x3.1;simp only [QS] at q0;simp only [QP,List.map_cons,List.map_nil,uptoBulk,uptoBulkAll];exact ⟨by omega,fun N hN=>⟨⟨o2 N (by omega),by omega⟩,g1,by omega⟩⟩
theorem Sf{n:Nat}{cs:List Value}{z:DataW H×List MemPlace}(h:DataW.trod enc Tryz.prog W 0 (fun _=>true) true n 34 cs=some z):∃(l:List Pc) (v:Value),cs=[v]/\VD (eZ W) W (.sl 7 (l.map Pc.cs)) v/\lz l+69<=90 * uptoBulk z.1/\∀N,10 * uptoBulk z.1<=N->xX N N l=true:=by
 obtain ⟨l,ds,v,rfl,hv,vB,hb⟩:=fi Pc.cs QP Tryz.underlying34 c145 (by decide) (fun p=>by simp [Pc.cs,x9]) LG (fun m' hm cs z hz=>Se hz) h;obtain ⟨k1,k2⟩:=NP vB;exact ⟨l,v,rfl,hv,by omega,fun N hN=>k2 N (by omega)⟩
theorem Sg{n:Nat}{cs:List Value}{z:DataW H×List MemPlace}(h:DataW.trod enc Tryz.prog W 0 (fun _=>true) true n 37 cs=some z):∃p:Pg,VDs (eZ W) W p.cs cs/\wtPg p<=100 * uptoBulk z.1/\∀N,10 * uptoBulk z.1<=N->okPg N N p=true:=by
 obtain ⟨xs,m,rfl,rfl,hl,hx,hf⟩:=DataW.trod_struct Tryz.underlying37 h;rw [c37] at hl;obtain ⟨a0,a1,a2,a3,rfl⟩:=Aq hl;obtain ⟨x0,x1,x2,x3,rfl⟩:=Aq (hx:xs.length=4);have h0:DataW.trod enc Tryz.prog W 0 (fun _=>true) true m 23 [a0]=some x0:=by simpa [Ug] using hf 0 _ rfl
 have h1:DataW.trod enc Tryz.prog W 0 (fun _=>true) true m 33 [a1]=some x1:=by simpa [Yh] using hf 1 _ rfl
 have h2:DataW.trod enc Tryz.prog W 0 (fun _=>true) true m 34 [a2]=some x2:=by simpa [Yi] using hf 2 _ rfl
 have h3:DataW.trod enc Tryz.prog W 0 (fun _=>true) true m 35 [a3]=some x3:=by simpa [Uf] using hf 3 _ rfl
 obtain ⟨az,v0,e0,w0,b0⟩:=EI h0;obtain ⟨ah,v1,e1,w1,o1,b1⟩:=Sd h1;obtain ⟨procs,v2,e2,w2,b2,o2⟩:=Sf h2;obtain ⟨main,v3,e3,w3,b3,f3,o3⟩:=If h3;simp only [List.cons.injEq,and_true] at e0 e1 e2 e3;subst e0 e1 e2 e3;refine ⟨⟨az,ah,procs,main⟩,?_,?_,fun N hN=>?_⟩
 ·simp only [Pg.cs,VDs];exact ⟨_,_,rfl,w0,_,_,rfl,w1,_,_,rfl,w2,_,_,rfl,w3,rfl⟩
 ·have u0:=gl x0.1;have u1:=gl x1.1;have u2:=gl x2.1;have u3:=gl x3.1;simp only [wtPg,List.map_cons,List.map_nil,uptoBulk,uptoBulkAll];omega
 simp only [List.map_cons,List.map_nil,uptoBulk,uptoBulkAll] at hN;unfold okPg;simp only;rw [o1,o2 N (by omega),o3 N (by omega),dT (by omega)];rfl
end
end
end Go.Abs
end
section
namespace Go.Abs
open Go
section
mutual
def As(id n:Nat):PV->Bool
 |.d _=>true
 |.acc i=>!(i==id)&&!(i==n)
 |.agg cs=>yc id n cs
 |.tup cs=>yc id n cs
 |.box i _=>!(i==n)
 |.eptr _=>true
 |.fn _ cs=>yc id n cs
 |.ifc _ x=>As id n x
 |.arr i _ _=>!(i==n)
 |.am i _=>!(i==n)
 |.amc i _ _=>!(i==n)
 |.any=>true
def yc(id n:Nat):List PV->Bool
 |[]=>true
 |c::cs=>As id n c&&yc id n cs
end
def Au(id n:Nat):Row->Bool
 |.box _ cells=>yc id n cells
 |_=>true
section
variable {P:Program}{T:Tab}{G:Glob}{D:List Deferred}{N B:Nat}{X X':St}{H H' H0:Nat->Option Value}{lim lim' lim0:Nat->Nat}{a:Act}{w w' w0:World}{Wr:Nat->Prop}{id n:Nat}{vs:List Value}{x:Value}
mutual
theorem V.more(h:Fr Wr lim w lim' w')(hH:∀i v,i≠id->i≠n->H i=some v->H' i=some v)(h1:H id=some (lu vs))(h2:H' id=some (lu (vs++[x]))):∀(p:PV) (v:Value),As id n p=true->V H lim w p v->V H' lim' w' p v
 |.d y,v,_,hv=>by
  simp only [V] at hv ⊢;exact VD.mono h y v hv
 |.acc i,v,ho,hv=>by
  simp only [As,bE,Bool.not_eq_true',beq_eq_false_iff_ne] at ho;simp only [V] at hv ⊢;exact hH i v ho.1 ho.2 hv
 |.agg cs,v,ho,hv=>by
  simp only [As] at ho;simp only [V] at hv ⊢;obtain ⟨us,rfl,hc⟩:=hv;exact ⟨us,rfl,Vs.more h hH h1 h2 cs us ho hc⟩
 |.tup cs,v,ho,hv=>by
  simp only [As] at ho;simp only [V] at hv ⊢;obtain ⟨us,rfl,hc⟩:=hv;exact ⟨us,rfl,Vs.more h hH h1 h2 cs us ho hc⟩
 |.box i off,v,ho,hv=>by
  simp only [As,Bool.not_eq_true',beq_eq_false_iff_ne] at ho;simp only [V] at hv ⊢;obtain ⟨b,q1,q2⟩:=hv;exact ⟨b,hH i _ (fun e=>by rw [e,h1] at q1;cases q1) ho q1,q2⟩
 |.eptr cs,v,_,hv=>by
  simp only [V] at hv ⊢;obtain ⟨b,o,rfl,hc⟩:=hv;exact ⟨b,o,rfl,VCells.mono h b cs o hc⟩
 |.fn f cs,v,ho,hv=>by
  simp only [As] at ho;simp only [V] at hv ⊢;obtain ⟨us,rfl,hc⟩:=hv;exact ⟨us,rfl,Vs.more h hH h1 h2 cs us ho hc⟩
 |.ifc t y,v,ho,hv=>by
  simp only [As] at ho;simp only [V] at hv ⊢;obtain ⟨u,rfl,hx⟩:=hv;exact ⟨u,rfl,V.more h hH h1 h2 y u ho hx⟩
 |.arr i off fN,v,ho,hv=>by
  simp only [As,Bool.not_eq_true',beq_eq_false_iff_ne] at ho;simp only [V] at hv ⊢;obtain ⟨b,cap,q1,q2⟩:=hv;exact ⟨b,cap,hH i _ (fun e=>by rw [e,h1] at q1;cases q1) ho q1,q2⟩
 |.am i j,v,ho,hv=>by
  simp only [As,Bool.not_eq_true',beq_eq_false_iff_ne] at ho;simp only [V] at hv ⊢;obtain ⟨us,q1,q2⟩:=hv;by_cases hi:i=id
  ·rw [hi] at q1 ⊢;rw [h1] at q1;have e:=kC (Option.some.inj q1);rw [<- e] at q2;exact ⟨vs++[x],h2,by rw [List.getElem?_append_left (List.getElem?_eq_some_iff.1 q2).1];exact q2⟩
  exact ⟨us,hH i _ hi ho q1,q2⟩
 |.amc i j off,v,ho,hv=>by
  simp only [As,Bool.not_eq_true',beq_eq_false_iff_ne] at ho;simp only [V] at hv ⊢;obtain ⟨us,b,m,c,q1,q2,q3⟩:=hv;by_cases hi:i=id
  ·rw [hi] at q1 ⊢;rw [h1] at q1;have e:=kC (Option.some.inj q1);rw [<- e] at q2;exact ⟨vs++[x],b,m,c,h2,by rw [List.getElem?_append_left (List.getElem?_eq_some_iff.1 q2).1];exact q2,q3⟩
  exact ⟨us,b,m,c,hH i _ hi ho q1,q2,q3⟩
 |.any,_,_,_=>by simp only [V]
theorem Vs.more(h:Fr Wr lim w lim' w')(hH:∀i v,i≠id->i≠n->H i=some v->H' i=some v)(h1:H id=some (lu vs))(h2:H' id=some (lu (vs++[x]))):∀(cs:List PV) (us:List Value),yc id n cs=true->Vs H lim w cs us->Vs H' lim' w' cs us
 |[],us,_,hv=>by simpa only [Vs] using hv
 |c::cs,us,ho,hv=>by
  simp only [yc,bE] at ho;simp only [Vs] at hv ⊢;obtain ⟨u,us,rfl,q1,q2⟩:=hv;exact ⟨u,us,rfl,V.more h hH h1 h2 c u ho.1 q1,Vs.more h hH h1 h2 cs us ho.2 q2⟩
end
theorem Av:∀xs:List Value,yc id n (Aw xs)=true
 |[]=>rfl
 |x::r=>by
  have:=Av r;simp only [Aw] at this;simp only [Aw,List.map_cons,yc,As,this,Bool.and_true]
theorem Ax(hF:Fr Wr lim w lim' w')(hH:∀i v,i≠id->i≠n->H i=some v->H' i=some v)(h1:H id=some (lu vs))(h2:H' id=some (lu (vs++[x]))){i:Nat}{r:Row}(hi:i≠id)(hn:i≠n)(ho:Au id n r=true)(hb:∀b,Ow H i b->¬Wr b)(h:RowOk H lim w i r):RowOk H' lim' w' i r:=by
 have hlt:=fun b (q:Ow H i b)=>iR h q
 cases r with
 |box ty cells=>
  obtain ⟨b,cs,g1,g2,g3,g4⟩:=h;have fA:Ow H i b:=(bU g1).2 rfl;obtain ⟨e1,e2⟩:=hF.same b (hlt b fA) (hb b fA);exact ⟨b,cs,hH i _ hi hn g1,e1.trans g2,Vs.more hF hH h1 h2 cells cs ho g3,e2.trans g4⟩
 |acc e k xs=>
  obtain ⟨u,zs,g1,⟨hl,hq⟩,g2,g3,g4,g5⟩:=h;refine ⟨u,zs,hH i _ hi hn g1,⟨hl,?_⟩,VDs.mono hF _ _ g2,g3,g4,fun b q=>?_⟩
  ·rcases hq with hq|⟨g,cap,po,hv,hg,hh,r⟩
   ·exact .inl hq
   have fA:Ow H i g:=(bU g1).2 (by rw [hv];rfl);exact .inr ⟨g,cap,po,hv,hg,((hF.same g (hlt g fA) (hb g fA)).1).trans hh,r⟩
  have fA:Ow H i b:=(bU g1).2 (kD q);rw [(hF.same b (hlt b fA) (hb b fA)).2];exact g5 b q
 |map t es=>
  obtain ⟨b,ms,g1,g2,g3,g4⟩:=h;have fA:Ow H i b:=(bU g1).2 rfl;obtain ⟨e1,e2⟩:=hF.same b (hlt b fA) (hb b fA);exact ⟨b,ms,hH i _ hi hn g1,e1.trans g2,VE.mono hF es 0 _ g3,e2.trans g4⟩
 |vec ty xs=>
  obtain ⟨b,cs,g1,g2,g3,g4⟩:=h;have fA:Ow H i b:=(bU g1).2 rfl;obtain ⟨e1,e2⟩:=hF.same b (hlt b fA) (hb b fA);exact ⟨b,cs,hH i _ hi hn g1,e1.trans g2,Vs.more hF hH h1 h2 _ cs (Av xs) g3,e2.trans g4⟩
 |amap t fz es=>
  obtain ⟨b,ms,hs,g1,g2,g3,g4,g5⟩:=h;have fA:Ow H i b:=(bU g1).2 ⟨.map (some b),by simp,rfl⟩;obtain ⟨e1,e2⟩:=hF.same b (hlt b fA) (hb b fA);exact ⟨b,ms,hs,hH i _ hi hn g1,e1.trans g2,pG hF (fun v c hv hc=>hb c ((bU g1).2 ⟨v,by simp [hv],hc⟩)) g3,e2.trans g4,g5⟩
 |arrs fz ks ls=>
  obtain ⟨g1,g2,g3⟩:=h;exact ⟨hH i _ hi hn g1,sW hF (fun b hm=>hb b ((bU g1).2 (jJ.2 hm))) g2,g3⟩
theorem EJ{fz:Bool}{s:BA}{l:List Int}{e:MapEntry}{c cap:Nat}{ty:TypeId}(e1:e.key=.string s)(e3:e.val=.slice (some ⟨c,0,none⟩) l.length cap)(e4:l.length<=cap/\cap<=maxLen)(e5:w.heap[c]? = some (.cells (l.map (Value.int .i64)).toArray ty (0,0)))(e6:lim c=(match fz with|true=>l.length|false=>0)):
  ∀ {es:List (BA×List Int)}{i:Nat}{ms:List MapEntry}{hs:List Value},AE lim w fz i es ms hs->e.born=i+es.length->AE lim w fz i (es++[(s,l)]) (ms++[e]) (hs++[e.val])
 |[],i,ms,hs,h,e2=>by
  obtain ⟨rfl,rfl⟩:=h;exact ⟨e,[],c,ty,[],cap,rfl,rfl,e1,e2,e3,e4,e5,e6,rfl,rfl⟩
 | (k,l')::r,i,ms,hs,h,e2=>by
  obtain ⟨e',ms',c',NB,yd,UY,rfl,rfl,h1,h2,h3,h4,h5,h6,h7⟩:=h;exact ⟨e',_,c',NB,_,UY,rfl,rfl,h1,h2,h3,h4,h5,h6,EJ e1 e3 e4 e5 e6 h7 (by simp only [lC] at e2;omega)⟩
theorem Ig{v:Value}:∀ {k:Nat}{us:List Value},Vs H lim w (List.replicate k (.d (.s v))) us->us=List.replicate k v
 |0,us,h=>by simpa [Vs] using h
 |k+1,us,h=>by
  simp only [List.replicate_succ,Vs,V,VD.eq_1] at h;obtain ⟨u,us,rfl,rfl,h⟩:=h;rw [Ig h,List.replicate_succ]
theorem wz (hT:bH P T) (hR:Rep D G N H lim X a w) {t kt e:TypeId}{ti:TI}{m y z:Operand}{id n fN:Nat}{s:BA}{t' ty:TypeId}{es:List (BA×List Int)}{env':List (Nat×PV)}
  (ht:T t=some ti) (UZ:ti.desc=.map kt e) (hs:gQ T kt=true) (hm:ev G X m=some (.am id 0)) (hy:ev G X y=some (.d (.s (.string s)))) (hz:ev G X z=some (.arr n 0 fN))
  (hr:X.rows[id]? = some (.amap t' false es)) (hn:X.rows[n]? = some (.box ty (List.replicate fN (.d (.s (.int .i64 0)))))) (hl:X.rows.length=n+1) (hid:id<n) (hBi:B<=id) (CQ:gJ es s 0=none)
  (iX:∀j p,look env' j=some p->look X.env j=some p/\As id n p=true) (bw:∀(j:Nat) (r:Row),(X.rows.take n)[j]? = some r->Au id n r=true) :
  ∃H' w',(Instr.mapUpdate t (a.eval m) (a.eval y) (a.eval z)).run P w=.ok () w'/\Rep D G N H' lim ⟨env',(X.rows.take n).set id (.amap t' false (es++[(s,List.replicate fN 0)]))⟩ a w'/\Lk B H lim w H' lim w':=by
 obtain ⟨b,ms,CI,hv,hH,h2,h3,h4,h5⟩:=Ih hR.rows hr (aw hR hm);have vy:=aw hR hy;have vz:=aw hR hz;simp only [V,VD.eq_1] at vy vz;obtain ⟨c,cap,W2,U0,Hx,HX⟩:=vz;obtain ⟨c',cs,g1,g2,g3,g4⟩:=hR.rows.row n _ hn;rw [W2] at g1;simp only [sI,Value.pointer.injEq,Addr.mk.injEq,and_true] at g1;subst g1;have eV:=Ig g3;subst eV;obtain ⟨d,hd,hu⟩:=bo hT ht;rw [UZ] at hd;simp only [eX] at hd;subst hd;have xR:=gR hT hs false s w;have OZ:∀r,Instr.findNow .string (.string s) ms.toList 0=some r->(Instr.findKey kt (.string s) ms.toList).run P w=.ok r w:=fun r js=>by simp [Instr.findKey,fj hT hs,js]
 have Sh:Instr.findNow .string (.string s) ms.toList 0=some none:=by
  rcases tF (s:=s) (j:=0) h3 with ⟨_,g⟩|⟨q,l,v,g,_⟩
  ·exact g
  rw [CQ] at g;cases g
 have U7:Ow H id b:=(bU hH).2 (mV (j:=0) rfl rfl);have nP:Ow H n c:=(bU W2).2 rfl;have aO:c≠b:=fun q=>hR.rows.apart n id c (by omega) nP (q▸U7)
 have hF:=j_ (lim:=lim) (ob':=.map (ms.push ⟨.string s,a.eval z,es.length⟩) (es.length+1)) h2 h4;have Si:∀k,k=b->Bl H k:=fun k q=>⟨id,q▸U7⟩
 refine ⟨fun i=>if i=n then none else if i=id then some (lu ((Value.map (some b)::CI)++[a.eval z])) else H i,_,by simp [hv,vy,Instr.mapUpdate,hu,MapKept.run_getObj_map h2,xR,OZ _ Sh,MapKept.run_setObj_map _ h2];rfl,?_⟩;have Ii:∀i v,i≠id->i≠n->H i=some v->(fun i=>if i=n then none else if i=id then some (lu ((Value.map (some b)::CI)++[a.eval z])) else H i) i=some v:=fun i v q1 q2 q=>by simp only [if_neg q1,if_neg q2];exact q
 have CR:(fun i=>if i=n then none else if i=id then some (lu ((Value.map (some b)::CI)++[a.eval z])) else H i) id=some (lu ((Value.map (some b)::CI)++[a.eval z])):=by simp only [if_neg (show id≠n by omega),if_true]
 have hO:∀i k,Ow (fun i=>if i=n then none else if i=id then some (lu ((Value.map (some b)::CI)++[a.eval z])) else H i) i k->i≠n/\(Ow H i k\/(i=id/\k=c)):=by
  intro i k ⟨v,q1,q2⟩;by_cases e1:i=n
  ·simp only [if_pos e1] at q1;cases q1
  refine ⟨e1,?_⟩;by_cases e2:i=id
  ·simp only [if_neg e1,if_pos e2,sI] at q1;subst q1;obtain ⟨v,m1,m2⟩:=q2;rcases List.mem_append.1 (show v∈(Value.map (some b)::CI)++[a.eval z] by simpa using m1) with m1|m1
   ·exact .inl ⟨lu (Value.map (some b)::CI),by rw [e2];exact hH,v,by simpa using m1,m2⟩
   rw [List.mem_singleton] at m1;rw [m1,U0] at m2;exact .inr ⟨e2,(Option.some.inj m2).symm⟩
  simp only [if_neg e1,if_neg e2] at q1;exact .inl ⟨v,q1,q2⟩
 have Sj:∀k,Bl (fun i=>if i=n then none else if i=id then some (lu ((Value.map (some b)::CI)++[a.eval z])) else H i) k->Bl H k:=by
  intro k ⟨i,q⟩;rcases (hO i k q).2 with q|⟨_,q⟩
  ·exact ⟨i,q⟩
  exact ⟨n,q▸nP⟩
 refine ⟨⟨fun j p hj=>?_,⟨fun j q hj=>?_,fun i j k qP hi hj=>?_,fun j hj=>?_⟩,hR.glob.mono hF Si (fun k q=>.inl (Sj k q)),hR.defers,hR.size⟩,hF.weaken Si,fun i v hi _ _=>?_,fun k q=>.inl (Sj k q)⟩
 ·obtain ⟨q1,q2⟩:=iX j p hj;obtain ⟨r1,r2⟩:=hR.env j p q1;exact ⟨r1,V.more hF Ii hH CR p _ q2 r2⟩
 ·rcases da hj with ⟨rfl,rfl⟩|⟨e1,hj⟩
  ·have Yl:∀v k,v∈CI->blk v=some k->¬k=b:=by
    intro v k m1 m2 q;rw [List.nodup_cons] at h5;exact h5.1 (List.mem_filterMap.2 ⟨v,m1,q▸m2⟩)
   have Ym:c∉CI.filterMap blk:=by
    intro q;obtain ⟨v,m1,m2⟩:=List.mem_filterMap.1 q;exact hR.rows.apart n j c (by omega) nP ((bU hH).2 ⟨v,by simp [m1],m2⟩)
   have Yn:=EJ (fz:=false) (lim:=lim) (s:=s) (l:=List.replicate fN 0) (e:=⟨.string s,a.eval z,es.length⟩) (c:=c) (cap:=cap) (ty:=ty) rfl (by rw [List.length_replicate];exact U0) (by rw [List.length_replicate];exact ⟨Hx,HX⟩) (by rw [(hF.same c (eH g2) aO).1,g2,List.map_replicate]) g4 (pG hF Yl h3) (by simp);refine ⟨b,ms.push ⟨.string s,a.eval z,es.length⟩,CI++[a.eval z],CR,?_,?_,h4,?_⟩
   ·simp [eH h2]
   ·simpa using Yn
   rw [List.filterMap_append,show List.filterMap blk [a.eval z]=[c] by simp [U0,blk]];rw [List.nodup_cons] at h5;refine List.nodup_cons.2 ⟨fun q=>?_,List.nodup_append.2 ⟨h5.2,by simp,fun u hu v hv=>?_⟩⟩
   ·rcases List.mem_append.1 q with q|q
    ·exact h5.1 q
    exact aO (List.mem_singleton.1 q).symm
   rw [List.mem_singleton] at hv;rw [hv];exact fun q=>Ym (q▸hu)
  have NQ:j<n:=by
   have:=(List.getElem?_eq_some_iff.1 hj).1;rw [List.length_take] at this;omega
  have hq:=bw j q hj;rw [List.getElem?_take,if_pos NQ] at hj;exact Ax hF Ii hH CR e1 (by omega) hq (fun k q1 q2=>hR.rows.apart j id k e1 q1 (q2▸U7)) (hR.rows.row j q hj)
 ·obtain ⟨i1,i2⟩:=hO i k hi;obtain ⟨j1,j2⟩:=hO j k hj;rcases i2 with i2|⟨i2,i3⟩ <;> rcases j2 with j2|⟨j2,j3⟩
  ·exact hR.rows.apart i j k qP i2 j2
  ·exact hR.rows.apart i n k i1 i2 (j3▸nP)
  ·exact hR.rows.apart j n k j1 j2 (i3▸nP)
  exact qP (i2.trans j2.symm)
 ·rw [List.length_set,List.length_take] at hj;by_cases e1:j=n
  ·simp only [if_pos e1]
  simp only [if_neg e1,if_neg (show j≠id by omega)];exact hR.rows.dom j (by omega)
 simp only [if_neg (show i≠n by omega),if_neg (show i≠id by omega)]
theorem qQ (hT:bH P T) {be:Array Oper}{Q:Exit->Act->World->Prop}{K:St->Prop}{pan:PV->St->Prop}{l2:List Nat}
  (hn:∀X H lim a w,K X->Rep D G N H lim X a w->Lk B H0 lim0 w0 H lim w->wpOps P be Q l2 a w)
  (hp:∀p X H lim a w v,pan p X->Rep D G N H lim X a w->Lk B H0 lim0 w0 H lim w->V H lim w p v->Q (.panic [{ v,recovered:=false }]) a w) :
  ∀(l:List Nat) (X:St) (H:Nat->Option Value) (lim:Nat->Nat) (a:Act) (w:World),ka P T G N be pan l K X->Rep D G N H lim X a w->Lk B H0 lim0 w0 H lim w->wpOps P be Q (l++l2) a w
 |[],X,H,lim,a,w,h,hR,lk=>hn X H lim a w h hR lk
 |i::l,X,H,lim,a,w,h,hR,lk=>by
  simp only [ka] at h;simp only [List.cons_append,wpOps];split at h
  ·rename_i o ho;rw [iL] at ho;rw [ho];split at h
   ·rename_i hd;simp only;rcases eU hR h with ⟨hw,X1,kE,_,h⟩|⟨hw,X1,kE,_,h⟩
    ·rw [if_pos hw];refine .inl (kb hT kE h ?_ ?_)
     ·intro p X' F H' lim' w' v hk jK hv;exact qQ hT hn hp l _ H' lim' _ w' hk (e_ jK.rep hd hv) (lk.trans jK.lk)
     intro p X' H' lim' w' v Sk Ij LH hv;exact hp p X' H' lim' a w' v Sk Ij (lk.trans (LH B)) hv
    rw [if_neg (by simp [hw])];exact qQ hT hn hp l _ H lim _ w h (e_ kE hd (mW _)) lk
   exact h.elim
  exact h.elim
def EK(T:Tab)(G:Glob)(B:Nat)(t:TypeId)(m y z:Operand)(slots:List Nat)(K:St->Prop)(Z:St):Prop:=
 ∃(ti:TI) (kt e:TypeId) (id n fN:Nat) (s:BA) (t' ty:TypeId) (es:List (BA×List Int)) (env':List (Nat×PV)),T t=some ti/\ti.desc=.map kt e/\gQ T kt=true/\ev G Z m=some (.am id 0)/\ev G Z y=some (.d (.s (.string s)))/\ev G Z z=some (.arr n 0 fN)/\
  Z.rows[id]? = some (.amap t' false es)/\Z.rows[n]? = some (.box ty (List.replicate fN (.d (.s (.int .i64 0)))))/\Z.rows.length=n+1/\id<n/\B<=id/\gJ es s 0=none/\
  fT Z.env slots=some env'/\lJ (fun q=>As id n q.2) env'=true/\lJ (Au id n) (Z.rows.take n)=true/\K ⟨env',(Z.rows.take n).set id (.amap t' false (es++[(s,List.replicate fN 0)]))⟩
theorem tG{env:List (Nat×PV)}{j:Nat}{p:PV}(h:look env j=some p):(j,p)∈env:=by
 induction env with
 |nil=>cases h
 |cons q r ih=>
  obtain ⟨i,q⟩:=q;simp only [look] at h;split at h
  ·rename_i e;cases h;rw [e];exact List.mem_cons_self ..
  exact List.mem_cons_of_mem _ (ih h)
theorem Ui (hT:bH P T) {U8:Nat}{be:Array Oper}{l:List Nat}{j:Nat}{o:Oper}{t:TypeId}{m y z:Operand}{Q:AExit->St->Prop}(slots:List Nat) (O0:List.range be.size=l++[j]) (hj:Gf be.toList j=some o) (ho:o.op=.mapUpdate t m y z) (hg:o.guard=none) (hd:o.dst=none)
  (h:∀(pan:PV->St->Prop) (K:St->Prop),(∀p Z,Q (.pan p) Z->pan p Z)->(∀Z,EK T G B t m y z slots (fun Z=>Q .normal Z) Z->K Z)->ka P T G N be pan l K X):dJ D P G N B (.region U8 be false) Q X:=by
 intro H lim a w hR;refine wp_region ?_;rw [O0];refine qQ (B:=B) hT ?_ ?_ l X H lim a w (h (fun p Z=>Q (.pan p) Z) (EK T G B t m y z slots fun Z=>Q .normal Z) (fun _ _ q=>q) fun _ q=>q) hR Lk.refl
 ·intro Z H1 eu a1 w1 hZ kE lk;obtain ⟨ti,kt,e,id,n,fN,s,t',ty,es,env',q1,q2,q3,q4,q5,q6,q7,q8,q9,U9,Ik,LI,O1,O2,O3,Sl⟩:=hZ;obtain ⟨H',w',r1,r2,r3⟩:=wz (B:=B) hT kE q1 q2 q3 q4 q5 q6 q7 q8 q9 U9 Ik LI (fun j p hj=>⟨gm O1 hj,gn O2 _ (tG hj)⟩) (fun j r hj=>gn O3 _ (List.mem_of_getElem? hj));rw [iL] at hj;unfold wpOps;rw [hj];simp only [Region.wanted,hg,if_true];refine .inl ?_;unfold Oper.wp;have e1:(execOp a1.eval o).run P w1=.ok .skip w':=by simp [execOp,ho,r1]
  rw [e1];simp only [Oper.upon,hd,Act.put,wpOps];exact ⟨_,H',eu,r2,lk.trans r3,Sl⟩
 intro p Z H1 eu a1 w1 v hp kE lk hv;exact ⟨Z,H1,eu,v,p,rfl,kE.rows,hv,kE.defers,lk,hp⟩
def hY(be:Array Oper)(ds:List Nat)(j:Nat):Array Bool->Bool->Plan->Bool
 |listed,_,.done=>(Region.ready .any be listed==[j])&&(Region.ready .any be (listed.setIfInBounds j true)==[])&&ds.contains j
 |listed,dN,.take i r=>rV be listed i&&hY be ds j (listed.setIfInBounds i true) dN r
 |listed,dN,.load i r=>dN&&rV be listed i&&PrintLast.Region.closedB .any be listed&&PrintLast.Region.lastB .any be listed ds i&&hY be ds j (listed.setIfInBounds i true) dN r
 |listed,_,.one i r=>(Region.ready .any be listed==[i])&&hY be ds j (listed.setIfInBounds i true) false r
 |_,_,.alt ..=>false
theorem jt (hT:bH P T) {be:Array Oper}{KB:Nat->Bool}{ds:List Nat}{Q:AExit->St->Prop}{H00:Nat->Option Value}{ld:Nat->Nat}{HA:World}{j:Nat}{o:Oper}{t:TypeId}{m y z:Operand}{slots:List Nat}(hs:Region.noSelect be=true) (CC:Lk B H00 ld HA H0 lim0 w0)
  (hj:Gf be.toList j=some o) (ho:o.op=.mapUpdate t m y z) (hg:o.guard=none) (hd:o.dst=none):∀(p:Plan) (fuel:Nat) (listed:Array Bool) (X:St) (H:Nat->Option Value) (lim:Nat->Nat) (a:Act) (w:World) (dN:Bool),
  p.depth+1<=fuel->Rep D G N H lim X a w->(∀B',Lk B' H0 lim0 w0 H lim w)->(dN=true->H=H0/\lim=lim0/\w=w0)->
  hY be ds j listed dN p=true->fF P T G N be KB ds (fun p X=>Q (.pan p) X) (EK T G B t m y z slots fun Z=>Q .normal Z) false p X->PrintLast.wpAnyLast P .any be (Post D G N B Q H00 ld HA) (Agr (some KB) H0 lim0 w0) ds fuel listed a w
 |.done,fuel,listed,X,H,lim,a,w,dN,hf,hR,qE,CS,cd,h=>by
  simp only [hY,bE,beq_iff_eq] at cd;simp only [fF] at h;simp only [Plan.depth] at hf;obtain ⟨n,rfl⟩:∃n,fuel=n+1:=⟨fuel - 1,by omega⟩;refine PrintLast.wpAnyLast_all cd.1.1 (by simp) fun i hi=>?_
  rw [List.mem_singleton.1 hi];obtain ⟨ti,kt,e,id,n',fN,s,t',ty,es,env',q1,q2,q3,q4,q5,q6,q7,q8,q9,U9,Ik,LI,O1,O2,O3,Sl⟩:=h;obtain ⟨H',w',r1,r2,r3⟩:=wz (B:=B) hT hR q1 q2 q3 q4 q5 q6 q7 q8 q9 U9 Ik LI (fun j p hj=>⟨gm O1 hj,gn O2 _ (tG hj)⟩) (fun j r hj=>gn O3 _ (List.mem_of_getElem? hj));have W3:=hj;rw [iL] at W3;unfold wpOp;rw [W3];simp only [Region.wanted,hg,if_true];refine .inl ?_;unfold Oper.wp;have e1:(execOp a.eval o).run P w=.ok .skip w':=by simp [execOp,ho,r1]
  rw [e1];simp only [Oper.upon,hd,Act.put];exact ⟨fun hn=>absurd (by simpa using cd.2) hn,PrintLast.wpAnyLast_done cd.1.2 ⟨_,H',lim,r2,(CC.trans (qE B)).trans r3,Sl⟩ n⟩
 |.take i r,fuel,listed,X,H,lim,a,w,dN,hf,hR,qE,CS,cd,h=>by
  simp only [hY,rV,bE] at cd;simp only [fF] at h;obtain ⟨o,v,X',h1,h2,h3,h4⟩:=kF hT hR h;simp only [Plan.depth] at hf;obtain ⟨n,rfl⟩:∃n,fuel=n+1:=⟨fuel - 1,by omega⟩;have ye:=jt hT hs CC hj ho hg hd r n (listed.setIfInBounds i true) X' H lim _ w dN (by omega) h3 qE CS cd.2 h4;exact PrintLast.wpAnyLast_any h1 (Region.noSelect_spec hs) (fun c a w q=>pH q) n listed a w (Region.free_spec h1 cd.1.2) (by simpa using cd.1.1) (h2.imp (fun ⟨q1,q2⟩=>⟨q1,fun w1=>q2 w1 trivial⟩) id) ye
 |.load i r,fuel,listed,X,H,lim,a,w,dN,hf,hR,qE,CS,cd,h=>by
  simp only [hY,rV,bE] at cd;simp only [fF] at h;obtain ⟨⟨⟨⟨o1,o2,o3⟩,o4⟩,o5⟩,o6⟩:=cd;obtain ⟨e1,e2,e3⟩:=CS o1;obtain ⟨o,v,X',h1,h2,h3,h4⟩:=kF hT hR h;simp only [Plan.depth] at hf;obtain ⟨n,rfl⟩:∃n,fuel=n+1:=⟨fuel - 1,by omega⟩;have ye:=jt hT hs CC hj ho hg hd r n (listed.setIfInBounds i true) X' H lim _ w dN (by omega) h3 qE CS o6 h4;exact PrintLast.wpAnyLast_take h1 hs o3 o2 o4 o5 (fun c a w q=>pH q) (by rw [<- e1,<- e2,<- e3];exact h2) (by rw [<- e1,<- e2,<- e3];exact Agr.refl _ _ _ _) ye
 |.one i r,fuel,listed,X,H,lim,a,w,dN,hf,hR,qE,CS,cd,h=>by
  simp only [hY,bE,beq_iff_eq] at cd;simp only [fF] at h;simp only [Plan.depth] at hf;obtain ⟨n,rfl⟩:∃n,fuel=n+1:=⟨fuel - 1,by omega⟩;refine PrintLast.wpAnyLast_all cd.1 (by simp) fun k hk=>?_
  rw [List.mem_singleton.1 hk];exact qR hT hR qE CC h fun X' H' lim' a' w' q1 q2 q3=>jt hT hs CC hj ho hg hd r n (listed.setIfInBounds i true) X' H' lim' a' w' false (by omega) q2 q3 (fun e=>by cases e) cd.2 q1
 |.alt i p o,fuel,listed,X,H,lim,a,w,dN,hf,hR,qE,CS,cd,h=>by
  simp [hY] at cd
def Ay(be:Array Oper)(ds:List Nat)(j:Nat)(p:Plan):Bool:=Region.noSelect be&&hY be ds j (Array.replicate be.size false) true p&&Nat.ble (p.depth+1) be.size
theorem Il (hT:bH P T) (hm:P.follows .mixedOrders=true) {U8:Nat}{be:Array Oper}{o:Oper}{t:TypeId}{m y z:Operand}{Q:AExit->St->Prop}(p:Plan) (ds:List Nat) (KB:Nat->Bool) (j:Nat) (slots:List Nat) (hp:Ay be ds j p=true) (hj:Gf be.toList j=some o) (ho:o.op=.mapUpdate t m y z) (hg:o.guard=none) (hd:o.dst=none)
  (h:∀(pan:PV->St->Prop) (K:St->Prop),(∀p Z,Q (.pan p) Z->pan p Z)->(∀Z,EK T G B t m y z slots (fun Z=>Q .normal Z) Z->K Z)->fF P T G N be KB ds pan K false p X):dJ D P G N B (.region U8 be true) Q X:=by
 intro H lim a w hR;simp only [Ay,bE] at hp;obtain ⟨⟨h1,h2⟩,h3⟩:=hp;have hw:Rep D G N H lim X a { w with drawn:=w.drawn+1 }:=by
  have hF:Fr (fun _=>False) lim w lim { w with drawn:=w.drawn+1 }:=⟨rfl,rfl,rfl,nR _,fun _ _=>⟨nR _,fun _ _=>rfl⟩,fun _ _ _=>⟨rfl,rfl⟩⟩;exact ⟨io hF (fun _ _ q=>q) hR.env,⟨fun id r hr=>gk hF (fun _ _ q=>q) (fun _ _ q=>q) (hR.rows.row id r hr),hR.rows.apart,hR.rows.dom⟩,hR.glob.mono hF (fun _ q=>q.elim) (fun _ q=>.inl q),hR.defers,hR.size⟩
 have hl:Lk B H lim w H lim { w with drawn:=w.drawn+1 }:=⟨⟨rfl,rfl,rfl,nR _,fun _ _=>⟨nR _,fun _ _=>rfl⟩,fun _ _ _=>⟨rfl,rfl⟩⟩,fun _ _ _ _ _=>rfl,fun _ q=>.inl q⟩;exact PrintLast.wp_region_last hm (jt hT h1 hl hj ho hg hd p be.size _ X H lim a _ true (Nat.le_of_ble_eq_true h3) hw (fun _=>Lk.refl) (fun _=>⟨rfl,rfl,rfl⟩) h2 (h _ _ (fun _ _ q=>q) fun _ q=>q))
def qS:List Value->List (BA×List Int)->(Nat->Nat)->Nat->Nat
 |v::hs,(_,l)::es,lim,c=>if blk v=some c then l.length else qS hs es lim c
 |_,_,lim,c=>lim c
theorem tH{c:Nat}:∀ {hs:List Value}{es:List (BA×List Int)},c∉hs.filterMap blk->qS hs es lim c=lim c
 |[],_,_=>by simp only [qS]
 |_::_,[],_=>by simp only [qS]
 |v::hs,(k,l)::es,h=>by
  have hv:blk v≠some c:=fun e=>h (List.mem_filterMap.2 ⟨v,List.mem_cons_self ..,e⟩)
  simp only [qS,if_neg hv];exact tH fun q=>by
   obtain ⟨u,q1,q2⟩:=List.mem_filterMap.1 q;exact h (List.mem_filterMap.2 ⟨u,List.mem_cons_of_mem _ q1,q2⟩)
theorem NR:∀ {es:List (BA×List Int)}{i:Nat}{ms:List MapEntry}{hs:List Value},AE lim w false i es ms hs->(hs.filterMap blk).Nodup->(∀c,c∈hs.filterMap blk->lim' c=qS hs es lim c)->AE lim' w true i es ms hs
 |[],_,_,_,h,_,_=>h
 | (k,l)::r,i,ms,hs,h,hn,hc=>by
  obtain ⟨e,ms',c,ty,yd,cap,rfl,rfl,h1,h2,h3,h4,h5,h6,h7⟩:=h;have e1:blk e.val=some c:=by rw [h3];rfl
  rw [List.filterMap_cons_some e1,List.nodup_cons] at hn;rw [List.filterMap_cons_some e1] at hc;refine ⟨e,ms',c,ty,yd,cap,rfl,rfl,h1,h2,h3,h4,h5,?_,NR h7 hn.2 fun d hd=>?_⟩
  ·rw [hc c (List.mem_cons_self ..)];simp only [qS,if_pos e1]
  rw [hc d (List.mem_cons_of_mem _ hd)];have:blk e.val≠some d:=fun q=>hn.1 (by rw [e1] at q;rw [Option.some.inj q];exact hd)
  simp only [qS,if_neg this]
theorem NS{c:Nat}:∀ {es:List (BA×List Int)}{i:Nat}{ms:List MapEntry}{hs:List Value},AE lim w false i es ms hs->lim c<=qS hs es lim c
 |[],_,_,_,⟨_,h⟩=>by subst h;simp only [qS];exact nR _
 | (k,l)::r,i,ms,hs,h=>by
  obtain ⟨e,ms',c',ty,yd,cap,rfl,rfl,h1,h2,h3,h4,h5,h6,h7⟩:=h;have e1:blk e.val=some c':=by rw [h3];rfl
  by_cases q:c'=c
  ·subst q;simp only at h6;rw [h6];exact Nat.zero_le _
  simp only [qS,if_neg (show blk e.val≠some c from fun z=>q (by rw [e1] at z;exact Option.some.inj z))];exact NS h7
theorem O4(id:Nat){t:TypeId}{es:List (BA×List Int)}(hr:X.rows[id]? = some (.amap t false es)):Sub D G N B X ⟨X.env,X.rows.set id (.amap t true es)⟩:=by
 intro H lim a w hR;obtain ⟨b,ms,hs,hH,h2,h3,h4,h5⟩:=hR.rows.row id _ hr;have rT:=h5;rw [List.nodup_cons] at rT;have hO:∀c,c∈hs.filterMap blk->Ow H id c:=fun c q=>by
  obtain ⟨v,q1,q2⟩:=List.mem_filterMap.1 q;exact (bU hH).2 ⟨v,by simp [q1],q2⟩
 have hF:Fr (fun b=>Ow H id b) lim w (qS hs es lim) w:=⟨rfl,rfl,rfl,nR _,fun c _=>⟨NS h3,fun _ _=>rfl⟩,fun c _ hn=>⟨rfl,tH fun q=>hn (hO c q)⟩⟩;refine ⟨H,qS hs es lim,⟨io hF (fun _ _ q=>q) hR.env,⟨fun j q hj=>?_,hR.rows.apart,fun j hj=>hR.rows.dom j (by simpa using hj)⟩,hR.glob.mono hF (fun c q=>⟨id,q⟩) (fun _ q=>.inl q),hR.defers,hR.size⟩,hF.weaken fun c q=>⟨id,q⟩,fun _ _ _ _ _=>rfl,fun _ q=>.inl q⟩;rcases da hj with ⟨rfl,rfl⟩|⟨aO,hj⟩
 ·exact ⟨b,ms,hs,hH,h2,NR h3 rT.2 fun _ _=>rfl,by rw [tH rT.1];exact h4,h5⟩
 exact gk hF (fun _ _ q=>q) (fun c hc q=>hR.rows.apart j id c aO hc q) (hR.rows.row j q hj)
theorem O5(id:Nat){t:TypeId}{es:List (BA×List Int)}{c:Code}{Q:AExit->St->Prop}(hr:X.rows[id]? = some (.amap t false es))(h:dJ D P G N B c Q ⟨X.env,X.rows.set id (.amap t true es)⟩):dJ D P G N B c Q X:=ju (O4 id hr) h
theorem Gg{c:Code}{Q:AExit->St->Prop}(h:dJ D P G N B c Q X):dJ D P G N B (.scope c) Q X:=by
 intro H lim a w hR;refine wp_scope_straight (wp_mono (h H lim a w hR) ?_);intro e a' w' hp;cases e <;> first|exact hp|exact hp.elim
theorem Gh{l:Nat}{Q:AExit->St->Prop}(h:Q .normal X):dJ D P G N B (.label l) Q X:=fun H lim _ _ hR=>wp_label ⟨X,H,lim,hR,Lk.refl,h⟩
end
end
section
section
variable {P:Program}{T:Tab}{G:Glob}{D:List Deferred}{N B:Nat}{X X':St}{H H':Nat->Option Value}{lim lim':Nat->Nat}{a:Act}{w w':World}{fz:Bool}
theorem Im:∀ {ks U_:List (Nat×Nat)}{ls Uj:List (List Int)},KR lim w fz ks ls->KR lim w fz U_ Uj->KR lim w fz (ks++U_) (ls++Uj)
 |[],_,_,_,h,k=>by
  have h:_=[]:=h;subst h;exact k
 |q::ks,U_,ls,Uj,h,k=>by
  obtain ⟨l,r,rfl,h1,h2,h3,h4,h5⟩:=h;exact ⟨l,r++Uj,rfl,h1,h2,h3,h4,Im h5 k⟩
theorem EL:∀(i:Nat) {ks:List (Nat×Nat)}{ls:List (List Int)},KR lim w fz ks ls->KR lim w fz (ks.drop i) (ls.drop i)
 |0,_,_,h=>by simpa using h
 |i+1,[],ls,h=>by
  have h:ls=[]:=h;subst h;simp only [List.drop_nil];rfl
 |i+1,q::ks,ls,h=>by
  obtain ⟨l,r,rfl,_,_,_,_,h5⟩:=h
  simpa using EL i h5
theorem Io (id n:Nat) {ks:List (Nat×Nat)}{ls:List (List Int)}{q:Nat×Nat}{l:List Int}(hr:X.rows[id]? = some (.arrs false ks ls)) (hn:X.rows[n]? = some (.arrs false [q] [l])) (hl:X.rows.length=n+1) (hid:id<n) (hB:B<=id)
  (iX:lJ (fun e=>As id n e.2) X.env=true) (bw:lJ (Au id n) (X.rows.take n)=true):Sub D G N B X ⟨X.env,(X.rows.take n).set id (.arrs false (ks++[q]) (ls++[l]))⟩:=by
 intro H lim a w hR;obtain ⟨g1,g2,g3⟩:=hR.rows.row id _ hr;obtain ⟨k1,k2,k3⟩:=hR.rows.row n _ hn;have nP:Ow H n q.1:=(bU k1).2 (jJ.2 (by simp));have Ip:∀b,b∈ks.map (·.1)->Ow H id b:=fun b hb=>(bU g1).2 (jJ.2 hb)
 have Yo:q.1∉ks.map (·.1):=fun hm=>hR.rows.apart n id q.1 (by omega) nP (Ip _ hm)
 have hF:=Fr.refl (fun _=>False) lim w;have Sn:(ks++[q]).map kv=ks.map kv++[kv q]:=by simp
 have Ii:∀i v,i≠id->i≠n->H i=some v->(fun i=>if i=n then none else if i=id then some (lu (ks.map kv++[kv q])) else H i) i=some v:=fun i v q1 q2 q=>by simp only [if_neg q1,if_neg q2];exact q
 have CR:(fun i=>if i=n then none else if i=id then some (lu (ks.map kv++[kv q])) else H i) id=some (lu (ks.map kv++[kv q])):=by simp only [if_neg (show id≠n by omega),if_true]
 have hO:∀i b,Ow (fun i=>if i=n then none else if i=id then some (lu (ks.map kv++[kv q])) else H i) i b->i≠n/\(Ow H i b\/(i=id/\b=q.1)):=by
  intro i b ⟨v,q1,q2⟩;by_cases e1:i=n
  ·simp only [if_pos e1] at q1;cases q1
  refine ⟨e1,?_⟩;by_cases e2:i=id
  ·simp only [if_neg e1,if_pos e2,sI] at q1;subst q1;rw [<- Sn,jJ,List.map_append,List.mem_append] at q2;rcases q2 with q2|q2
   ·exact .inl (e2▸Ip _ q2)
   exact .inr ⟨e2,by simpa using q2⟩
  simp only [if_neg e1,if_neg e2] at q1;exact .inl ⟨v,q1,q2⟩
 have Sj:∀b,Bl (fun i=>if i=n then none else if i=id then some (lu (ks.map kv++[kv q])) else H i) b->Bl H b:=by
  intro b ⟨i,hb⟩;rcases (hO i b hb).2 with hb|⟨_,hb⟩
  ·exact ⟨i,hb⟩
  exact ⟨n,hb▸nP⟩
 refine ⟨fun i=>if i=n then none else if i=id then some (lu (ks.map kv++[kv q])) else H i,lim,⟨fun j p hj=>?_,⟨fun j r hj=>?_,fun i j b qP hi hj=>?_,fun j hj=>?_⟩,hR.glob.sub Sj,hR.defers,hR.size⟩,hF.weaken fun _ q=>q.elim,fun i v hi _ _=>?_,fun b hb=>.inl (Sj b hb)⟩
 ·obtain ⟨r1,r2⟩:=hR.env j p hj;exact ⟨r1,V.more hF Ii g1 CR p _ (gn iX _ (tG hj)) r2⟩
 ·rcases da hj with ⟨rfl,rfl⟩|⟨e1,hj⟩
  ·refine ⟨by rw [CR,Sn],Im g2 k2,?_⟩;rw [List.map_append];exact List.nodup_append.2 ⟨g3,by simp,fun u hu v hv=>by
    rw [show v=q.1 by simpa using hv];exact fun e=>Yo (e▸hu)⟩
  have NQ:j<n:=by
   have:=(List.getElem?_eq_some_iff.1 hj).1;rw [List.length_take] at this;omega
  have hq:=gn bw _ (List.mem_of_getElem? hj);rw [List.getElem?_take,if_pos NQ] at hj;exact Ax hF Ii g1 CR e1 (by omega) hq (fun _ _ q=>q) (hR.rows.row j r hj)
 ·obtain ⟨i1,i2⟩:=hO i b hi;obtain ⟨j1,j2⟩:=hO j b hj;rcases i2 with i2|⟨i2,i3⟩ <;> rcases j2 with j2|⟨j2,j3⟩
  ·exact hR.rows.apart i j b qP i2 j2
  ·exact hR.rows.apart i n b i1 i2 (j3▸nP)
  ·exact hR.rows.apart j n b j1 j2 (i3▸nP)
  exact qP (i2.trans j2.symm)
 ·rw [List.length_set,List.length_take] at hj;by_cases e1:j=n
  ·simp only [if_pos e1]
  simp only [if_neg e1,if_neg (show j≠id by omega)];exact hR.rows.dom j (by omega)
 simp only [if_neg (show i≠n by omega),if_neg (show i≠id by omega)]
theorem Iq (id n:Nat) {ks:List (Nat×Nat)}{ls:List (List Int)}{q:Nat×Nat}{l:List Int}{c:Code}{Q:AExit->St->Prop}(hr:X.rows[id]? = some (.arrs false ks ls)) (hn:X.rows[n]? = some (.arrs false [q] [l])) (hl:X.rows.length=n+1) (hid:id<n) (hB:B<=id)
  (iX:lJ (fun e=>As id n e.2) X.env=true) (bw:lJ (Au id n) (X.rows.take n)=true) (h:dJ D P G N B c Q ⟨X.env,(X.rows.take n).set id (.arrs false (ks++[q]) (ls++[l]))⟩):dJ D P G N B c Q X:=ju (Io id n hr hn hl hid hB iX bw) h
def vK:List (Nat×Nat)->(Nat->Nat)->Nat->Nat
 |[],lim,c=>lim c
 |q::ks,lim,c=>if q.1=c then q.2 else vK ks lim c
theorem Az{c:Nat}:∀ {ks:List (Nat×Nat)},c∉ks.map (·.1)->vK ks lim c=lim c
 |[],_=>rfl
 |q::ks,h=>by
  simp only [List.map_cons,List.mem_cons,not_or] at h;simp only [vK,if_neg (Ne.symm h.1),Az h.2]
theorem EM{c:Nat}:∀ {ks:List (Nat×Nat)}{ls:List (List Int)},KR lim w false ks ls->lim c<=vK ks lim c
 |[],_,_=>nR _
 |q::ks,ls,h=>by
  obtain ⟨l,r,rfl,h1,h2,h3,h4,h5⟩:=h;simp only [vK];split
  ·rename_i e;rw [<- e];simp only at h4;omega
  exact EM h5
theorem NT:∀ {ks:List (Nat×Nat)}{ls:List (List Int)},KR lim w false ks ls->(ks.map (·.1)).Nodup->(∀c,c∈ks.map (·.1)->lim' c=vK ks lim c)->KR lim' w true ks ls
 |[],_,h,_,_=>h
 |q::ks,ls,h,hn,hc=>by
  obtain ⟨l,r,rfl,h1,h2,h3,h4,h5⟩:=h;rw [List.map_cons,List.nodup_cons] at hn;refine ⟨l,r,rfl,h1,h2,h3,?_,NT h5 hn.2 fun c hm=>?_⟩
  ·have:=hc q.1 (List.mem_cons_self ..)
   simpa only [vK,if_true] using this
  have:=hc c (List.mem_cons_of_mem _ hm);rw [this];simp only [vK];have e:q.1≠c:=fun e=>hn.1 (by rw [e];exact hm)
  rw [if_neg e]
theorem LJ(id:Nat){ks:List (Nat×Nat)}{ls:List (List Int)}(hr:X.rows[id]? = some (.arrs false ks ls)):Sub D G N B X ⟨X.env,X.rows.set id (.arrs true ks ls)⟩:=by
 intro H lim a w hR;obtain ⟨g1,g2,g3⟩:=hR.rows.row id _ hr;have hO:∀c,c∈ks.map (·.1)->Ow H id c:=fun c q=>(bU g1).2 (jJ.2 q)
 have hF:Fr (fun b=>Ow H id b) lim w (vK ks lim) w:=⟨rfl,rfl,rfl,nR _,fun c _=>⟨EM g2,fun _ _=>rfl⟩,fun c _ hn=>⟨rfl,Az fun q=>hn (hO c q)⟩⟩;refine ⟨H,vK ks lim,⟨io hF (fun _ _ q=>q) hR.env,⟨fun j q hj=>?_,hR.rows.apart,fun j hj=>hR.rows.dom j (by simpa using hj)⟩,hR.glob.mono hF (fun c q=>⟨id,q⟩) (fun _ q=>.inl q),hR.defers,hR.size⟩,hF.weaken fun c q=>⟨id,q⟩,fun _ _ _ _ _=>rfl,fun _ q=>.inl q⟩;rcases da hj with ⟨rfl,rfl⟩|⟨aO,hj⟩
 ·exact ⟨g1,NT g2 g3 fun _ _=>rfl,g3⟩
 exact gk hF (fun _ _ q=>q) (fun c hc q=>hR.rows.apart j id c aO hc q) (hR.rows.row j q hj)
theorem EN(id:Nat){ks:List (Nat×Nat)}{ls:List (List Int)}{c:Code}{Q:AExit->St->Prop}(hr:X.rows[id]? = some (.arrs false ks ls))(h:dJ D P G N B c Q ⟨X.env,X.rows.set id (.arrs true ks ls)⟩):dJ D P G N B c Q X:=ju (LJ id hr) h
inductive FzD (ks:List (Nat×Nat)) (ls:List (List Int)):Data->Data->Prop
 |one {i:Nat}{q:Nat×Nat}{l:List Int}:ks[i]? = some q->ls[i]? = some l->FzD ks ls (.s (kv q)) (.sl 1 (numsD l))
 |all (i:Nat):FzD ks ls (.sl 1 ((ks.drop i).map fun q=>[.s (kv q)])) (.sl 1 ((ls.drop i).map fun l=>[.sl 1 (numsD l)]))
theorem Ir{ks:List (Nat×Nat)}{ls:List (List Int)}{i:Nat}{q:Nat×Nat}{l:List Int}(h:KR lim w true ks ls)(hq:ks[i]? = some q)(hl:ls[i]? = some l):VD lim w (.sl 1 (numsD l)) (kv q):=by
 obtain ⟨l',e1,e2,e3,⟨ty,e4⟩,e5⟩:=tI h hq;rw [hl] at e1;cases e1;simp only at e5;simp only [VD];exact ⟨_,_,_,rfl,by simp [numsD,e2],nR _,e3,fun _=>⟨q.1,0,rfl,tJ l 0 (fun k n hk=>by simp [World.cell?,e4,hk]) (by rw [e5];omega)⟩⟩
theorem Is{b:Nat}:∀ {ks:List (Nat×Nat)}{ls:List (List Int)}{o:Nat},KR lim w true ks ls->VRow lim w b 1 o (ks.map fun q=>[.s (kv q)])->VRow lim w b 1 o (ls.map fun l=>[.sl 1 (numsD l)])
 |[],ls,_,h,_=>by
  have h:ls=[]:=h;subst h;simp only [List.map_nil,VRow]
 |q::ks,ls,o,h,hv=>by
  have h1:=h;obtain ⟨l,r,rfl,_,_,_,_,h5⟩:=h;simp only [List.map_cons,VRow,VCells,VD.eq_1,and_true] at hv ⊢;obtain ⟨_,⟨v,c1,c2,_,rfl⟩,c3⟩:=hv;exact ⟨rfl,⟨_,c1,c2,rfl,Ir (i:=0) h1 rfl rfl⟩,Is h5 c3⟩
theorem FzD.sound{ks:List (Nat×Nat)}{ls:List (List Int)}{x y:Data}{v:Value}(hk:KR lim w true ks ls)(h:FzD ks ls x y)(hv:VD lim w x v):VD lim w y v:=by
 cases h with
 |one h1 h2=>
  simp only [VD.eq_1] at hv;subst hv;exact Ir hk h1 h2
 |all i=>
  simp only [VD] at hv ⊢;obtain ⟨A,n,c,rfl,h1,h2,h3,h4⟩:=hv;have bZ:∀ {ks:List (Nat×Nat)}{ls:List (List Int)},KR lim w true ks ls->ks.length=ls.length:=by
   intro ks;induction ks with
   |nil=>intro ls h;have h:ls=[]:=h;subst h;rfl
   |cons q ks ih=>intro ls h;obtain ⟨l,r,rfl,_,_,_,_,h5⟩:=h;simp [ih h5]
  have hd:=EL i hk;refine ⟨A,n,c,rfl,by rw [h1,lM,lM,bZ hd],h2,h3,fun hn=>?_⟩;obtain ⟨b,o,hA,hr⟩:=h4 hn;exact ⟨b,o,hA,Is hd hr⟩
theorem It(id off Uk:Nat){ty:TypeId}{cells:List PV}{ks:List (Nat×Nat)}{ls:List (List Int)}{x y:Data}(hr:X.rows[id]? = some (.box ty cells))(hc:cells[off]? = some (.d x))(hk:X.rows[Uk]? = some (.arrs true ks ls))(h:FzD ks ls x y):Sub D G N B X ⟨X.env,X.rows.set id (.box ty (cells.set off (.d y)))⟩:=by
 intro H lim a w hR;refine ⟨H,lim,⟨hR.env,⟨fun j q hj=>?_,hR.rows.apart,fun j hj=>hR.rows.dom j (by simpa using hj)⟩,hR.glob,hR.defers,hR.size⟩,Lk.refl⟩;rcases da hj with ⟨rfl,rfl⟩|⟨aO,hj⟩
 ·obtain ⟨b,cs,h1,h2,h3,h4⟩:=hR.rows.row _ _ hr;obtain ⟨v,Gi,yf⟩:=kG h3 hc;refine ⟨b,cs,h1,h2,CT h3 Gi ?_,h4⟩;simp only [V] at yf ⊢;exact h.sound (hR.rows.row _ _ hk).2.1 yf
 exact hR.rows.row j q hj
theorem pI (id off Uk:Nat) {ty:TypeId}{cells:List PV}{ks:List (Nat×Nat)}{ls:List (List Int)}{x y:Data}{c:Code}{Q:AExit->St->Prop}(hr:X.rows[id]? = some (.box ty cells)) (hc:cells[off]? = some (.d x)) (hk:X.rows[Uk]? = some (.arrs true ks ls)) (h:FzD ks ls x y)
  (hw:dJ D P G N B c Q ⟨X.env,X.rows.set id (.box ty (cells.set off (.d y)))⟩):dJ D P G N B c Q X:=ju (It id off Uk hr hc hk h) hw
theorem LK {L:List Nat}{f:FuncId}{ps args':List PV}{rowsL:List Row}{Pst:Out->List Row->Prop}{k:PV->St->List Nat->Prop}{pan:PV->St->Prop}(hL:cl L=true) (sG:PV.subs (gc L X.rows) ps=some args') (bw:bs (gc L X.rows) X.rows L=some rowsL) (hs:AA P G f args' rowsL Pst)
  (h:∀(out:Out) (cB:List Row),Pst out cB->∃(rows1 rows2:List Row) (env':List (Nat×PV)),ce (gS L X.rows.length) cB=some rows2/\eJ (fc L X.rows) X.env=some env'/\ce (fc L X.rows) X.rows=some rows1/\
   match out with
   |.ret p=>∃p',PV.sub (gS L X.rows.length) p=some p'/\k p' ⟨env',fG L rows1 rows2⟩ L
   |.pan p=>∃p',PV.sub (gS L X.rows.length) p=some p'/\pan p' ⟨env',fG L rows1 rows2⟩):c8 P G X f ps k pan:=.inr ⟨L,args',rowsL,Pst,hL,sG,bw,hs,h⟩
end
end
end Go.Abs
end
