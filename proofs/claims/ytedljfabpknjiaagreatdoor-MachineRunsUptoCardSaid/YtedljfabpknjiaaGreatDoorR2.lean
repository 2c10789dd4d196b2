/- Texts of this proof, joined and shortened. -/
import Derived.WalkKit
abbrev BA:=ByteArray
theorem lA.{u}{α:Type u}{x y:List α}:(x++y).length=x.length+y.length:=List.length_append
theorem lC.{u}{α:Type u}{a:α}{x:List α}:(a::x).length=x.length+1:=List.length_cons
theorem lN.{u}{α:Type u}:([]:List α).length=0:=List.length_nil
theorem lM.{u,v}{α:Type u}{β:Type v}{x:List α}(f:α->β):(x.map f).length=x.length:=List.length_map f
theorem lE.{u}{α:Type u}{l:List α}(h:l.length=0):l=[]:=List.eq_nil_of_length_eq_zero h
theorem oT{p:Prop}[Decidable p](h:decide p=true):p:=of_decide_eq_true h
theorem oF{p:Prop}[Decidable p](h:decide p=false):¬p:=of_decide_eq_false h
theorem bE(a b:Bool):((a&&b)=true)=(a=true/\b=true):=Bool.and_eq_true a b
theorem nR(n:Nat):n<=n:=Nat.le_refl n
theorem nS(n:Nat):n<n.succ:=Nat.lt_succ_self n
theorem zA{a b:ByteArray}:(a++b).size=a.size+b.size:=ByteArray.size_append
theorem dT{p:Prop}[Decidable p](h:p):decide p=true:=decide_eq_true h
theorem dE{p:Prop}[Decidable p]:(decide p=true)=p:=decide_eq_true_eq
theorem sI.{u}{α:Type u}(a b:α):(some a=some b)=(a=b):=Option.some.injEq a b
theorem aI{a b:Prop}(x:a)(y:b):a/\b:=⟨x,y⟩
theorem eI.{u}{α:Sort u}{p:α->Prop}(w:α)(h:p w):∃x,p x:=⟨w,h⟩
section
namespace Go.Abs
open Go
section

inductive Data where
  |s (v:Value)
  |sl (k:Nat) (xs:List (List Data))
  |agg (cs:List Data)
  |ifc (t:TypeId) (d:Data)

inductive PV where
  |d (x:Data)
  |acc (id:Nat)
  |agg (cs:List PV)
  |tup (vs:List PV)
  |box (id off:Nat)
  |eptr (cs:List Data)
  |fn (f:FuncId) (iN:List PV)
  |ifc (t:TypeId) (x:PV)
  |arr (id off fN:Nat)
  |am (id j:Nat)
  |amc (id j off:Nat)
  |any

inductive Row where
  |box (ty:TypeId) (cells:List PV)
  |acc (e:TypeId) (k:Nat) (xs:List (List Data))
  |map (t:TypeId) (es:List (BA×Data))
  |vec (ty:TypeId) (xs:List Value)
  |amap (t:TypeId) (fz:Bool) (es:List (BA×List Int))
  |arrs (fz:Bool) (ks:List (Nat×Nat)) (ls:List (List Int))

def jg:Value->Bool
  |.agg _=>false
  |.tuple _=>false
  |_=>true
def d_:Data->Bool
  |.s v=>jg v
  |.sl ..=>true
  |.agg _=>false
  |.ifc ..=>true

section
variable (lim:Nat->Nat) (w:World)
mutual
def VD:Data->Value->Prop
  |.s v0,v=>v=v0
  |.agg cs,v=>∃vs:List Value,v=.agg vs.toArray/\VDs cs vs
  |.sl k xs,v=>∃A n c,v=.slice A n c/\n=xs.length/\n<=c/\c<=maxLen/\(n≠0->∃b o,A=some ⟨b,o,none⟩/\VRow b k o xs)
  |.ifc t x,v=>∃v',v=.iface t v'/\VD x v'
def VDs:List Data->List Value->Prop
  |[],vs=>vs=[]
  |c::cs,vs=>∃u us,vs=u::us/\VD c u/\VDs cs us
def VRow(b k:Nat):Nat->List (List Data)->Prop
  |_,[]=>True
  |o,x::xs=>x.length=k/\VCells b o x/\VRow b k (o+k) xs
def VCells(b:Nat):Nat->List Data->Prop
  |_,[]=>True
  |o,c::cs=>(∃v,w.cell? ⟨b,o,none⟩=some v/\o<lim b/\d_ c=true/\VD c v)/\VCells b (o+1) cs
end
end

@[reducible] def lu (vs:List Value):Value:=.func (.func 0) #[] vs.toArray
theorem kC{vs us:List Value}(h:lu vs=lu us):vs=us:=by simpa [lu] using h
section
variable (H:Nat->Option Value) (lim:Nat->Nat) (w:World)
mutual
def V:PV->Value->Prop
  |.d x,v=>VD lim w x v
  |.acc id,v=>H id=some v
  |.agg cs,v=>∃vs:List Value,v=.agg vs.toArray/\Vs cs vs
  |.tup cs,v=>∃vs:List Value,v=.tuple vs.toArray/\Vs cs vs
  |.box id off,v=>∃b,H id=some (.pointer (some ⟨b,0,none⟩))/\v=.pointer (some ⟨b,off,none⟩)
  |.eptr cs,v=>∃b o,v=.pointer (some ⟨b,o,none⟩)/\VCells lim w b o cs
  |.fn f iN,v=>∃vs:List Value,v=.func (.func f) #[] vs.toArray/\Vs iN vs
  |.ifc t x,v=>∃v',v=.iface t v'/\V x v'
  |.arr id off fN,v=>∃b cap,H id=some (.pointer (some ⟨b,0,none⟩))/\v=.slice (some ⟨b,off,none⟩) fN cap/\fN<=cap/\cap<=maxLen
  |.am id j,v=>∃vs:List Value,H id=some (lu vs)/\vs[j]? = some v
  |.amc id j off,v=>∃(vs:List Value) (b n c:Nat),H id=some (lu vs)/\vs[j]? = some (.slice (some ⟨b,0,none⟩) n c)/\v=.pointer (some ⟨b,off,none⟩)
  |.any,_=>True
def Vs:List PV->List Value->Prop
  |[],vs=>vs=[]
  |c::cs,vs=>∃u us,vs=u::us/\V c u/\Vs cs us
end
end

def VE(lim:Nat->Nat)(w:World):Nat->List (BA×Data)->List MapEntry->Prop
  |_,[],ms=>ms=[]
  |i,(k,p)::r,ms=>∃e ms',ms=e::ms'/\e.key=.string k/\e.born=i/\VD lim w p e.val/\VE lim w (i+1) r ms'
def stay:Value->Bool
  |.pointer _=>true
  |.map _=>true
  |.func ..=>true
  |_=>false

structure Fr (Wr:Nat->Prop) (lim:Nat->Nat) (w:World) (lim':Nat->Nat) (w':World):Prop where
  os:w'.os=w.os
  tape:w'.tape=w.tape
  output:w'.output=w.output
  size:w.heap.size<=w'.heap.size
  keep:∀b,b<w.heap.size->lim b<=lim' b/\∀o,o<lim b->w'.cell? ⟨b,o,none⟩=w.cell? ⟨b,o,none⟩
  same:∀b,b<w.heap.size->¬Wr b->w'.heap[b]? = w.heap[b]?/\lim' b=lim b

theorem Fr.refl(Wr:Nat->Prop)(lim:Nat->Nat)(w:World):Fr Wr lim w lim w:=
  ⟨rfl,rfl,rfl,nR _,fun _ _=>⟨nR _,fun _ _=>rfl⟩,fun _ _ _=>⟨rfl,rfl⟩⟩

theorem Fr.trans {Wr Wr':Nat->Prop}{lim lim' w_:Nat->Nat}{w w' w'':World}(h:Fr Wr lim w lim' w') (k:Fr Wr' lim' w' w_ w'')
    (hw:∀b,b<w.heap.size->Wr' b->Wr b):Fr Wr lim w w_ w'':=
  ⟨k.os.trans h.os,k.tape.trans h.tape,k.output.trans h.output,Nat.le_trans h.size k.size,
   fun b hb=>⟨Nat.le_trans (h.keep b hb).1 (k.keep b (Nat.lt_of_lt_of_le hb h.size)).1,
     fun o ho=>((k.keep b (Nat.lt_of_lt_of_le hb h.size)).2 o (Nat.lt_of_lt_of_le ho (h.keep b hb).1)).trans ((h.keep b hb).2 o ho)⟩,
   fun b hb hn=>⟨((k.same b (Nat.lt_of_lt_of_le hb h.size) (fun q=>hn (hw b hb q))).1).trans (h.same b hb hn).1,
     ((k.same b (Nat.lt_of_lt_of_le hb h.size) (fun q=>hn (hw b hb q))).2).trans (h.same b hb hn).2⟩⟩

section
variable {Wr:Nat->Prop}{lim lim':Nat->Nat}{w w':World}
mutual
theorem VD.mono(h:Fr Wr lim w lim' w'):∀(d:Data) (v:Value),VD lim w d v->VD lim' w' d v
  |.s _,_,hv=>by simpa only [VD] using hv
  |.agg cs,v,hv=>by
    simp only [VD] at hv ⊢
    obtain ⟨vs,rfl,hc⟩:=hv
    exact ⟨vs,rfl,VDs.mono h cs vs hc⟩
  |.sl k xs,v,hv=>by
    simp only [VD] at hv ⊢
    obtain ⟨A,n,c,rfl,h1,h2,h3,h4⟩:=hv
    refine ⟨A,n,c,rfl,h1,h2,h3,fun hn=>?_⟩
    obtain ⟨b,o,hA,hr⟩:=h4 hn
    exact ⟨b,o,hA,VRow.mono h b k xs o hr⟩
  |.ifc t x,v,hv=>by
    simp only [VD] at hv ⊢
    obtain ⟨v',rfl,hx⟩:=hv
    exact ⟨v',rfl,VD.mono h x v' hx⟩
theorem VDs.mono(h:Fr Wr lim w lim' w'):∀(cs:List Data) (vs:List Value),VDs lim w cs vs->VDs lim' w' cs vs
  |[],vs,hv=>by simpa only [VDs] using hv
  |c::cs,vs,hv=>by
    simp only [VDs] at hv ⊢
    obtain ⟨u,us,rfl,h1,h2⟩:=hv
    exact ⟨u,us,rfl,VD.mono h c u h1,VDs.mono h cs us h2⟩
theorem VRow.mono(h:Fr Wr lim w lim' w')(b k:Nat):∀(xs:List (List Data)) (o:Nat),VRow lim w b k o xs->VRow lim' w' b k o xs
  |[],_,_=>by simp only [VRow]
  |x::xs,o,hv=>by
    simp only [VRow] at hv ⊢
    exact ⟨hv.1,VCells.mono h b x o hv.2.1,VRow.mono h b k xs (o+k) hv.2.2⟩
theorem VCells.mono(h:Fr Wr lim w lim' w')(b:Nat):∀(cs:List Data) (o:Nat),VCells lim w b o cs->VCells lim' w' b o cs
  |[],_,_=>by simp only [VCells]
  |c::cs,o,hv=>by
    simp only [VCells] at hv ⊢
    obtain ⟨⟨v,h1,h2,hf,h3⟩,h4⟩:=hv
    have hb:b<w.heap.size:=World.block_lt_of_cell? w (a:=⟨b,o,none⟩) h1
    exact ⟨⟨v,((h.keep b hb).2 o h2).trans h1,Nat.lt_of_lt_of_le h2 (h.keep b hb).1,hf,VD.mono h c v h3⟩,VCells.mono h b cs (o+1) h4⟩
end

variable {H H':Nat->Option Value}
mutual
theorem V.mono(h:Fr Wr lim w lim' w')(hH:∀i v,H i=some v->H' i=some v):∀(p:PV) (v:Value),V H lim w p v->V H' lim' w' p v
  |.d x,v,hv=>by
    simp only [V] at hv ⊢
    exact VD.mono h x v hv
  |.acc id,v,hv=>by
    simp only [V] at hv ⊢
    exact hH id v hv
  |.agg cs,v,hv=>by
    simp only [V] at hv ⊢
    obtain ⟨vs,rfl,hc⟩:=hv
    exact ⟨vs,rfl,Vs.mono h hH cs vs hc⟩
  |.tup cs,v,hv=>by
    simp only [V] at hv ⊢
    obtain ⟨vs,rfl,hc⟩:=hv
    exact ⟨vs,rfl,Vs.mono h hH cs vs hc⟩
  |.box id off,v,hv=>by
    simp only [V] at hv ⊢
    obtain ⟨b,h1,h2⟩:=hv
    exact ⟨b,hH id _ h1,h2⟩
  |.eptr cs,v,hv=>by
    simp only [V] at hv ⊢
    obtain ⟨b,o,rfl,hc⟩:=hv
    exact ⟨b,o,rfl,VCells.mono h b cs o hc⟩
  |.fn f iN,v,hv=>by
    simp only [V] at hv ⊢
    obtain ⟨vs,rfl,hc⟩:=hv
    exact ⟨vs,rfl,Vs.mono h hH iN vs hc⟩
  |.ifc t x,v,hv=>by
    simp only [V] at hv ⊢
    obtain ⟨v',rfl,hx⟩:=hv
    exact ⟨v',rfl,V.mono h hH x v' hx⟩
  |.arr id off fN,v,hv=>by
    simp only [V] at hv ⊢
    obtain ⟨b,cap,h1,h2⟩:=hv
    exact ⟨b,cap,hH id _ h1,h2⟩
  |.am id j,v,hv=>by
    simp only [V] at hv ⊢
    obtain ⟨vs,h1,h2⟩:=hv
    exact ⟨vs,hH id _ h1,h2⟩
  |.amc id j off,v,hv=>by
    simp only [V] at hv ⊢
    obtain ⟨vs,b,n,c,h1,h2⟩:=hv
    exact ⟨vs,b,n,c,hH id _ h1,h2⟩
  |.any,_,_=>by simp only [V]
theorem Vs.mono(h:Fr Wr lim w lim' w')(hH:∀i v,H i=some v->H' i=some v):∀(cs:List PV) (vs:List Value),Vs H lim w cs vs->Vs H' lim' w' cs vs
  |[],vs,hv=>by simpa only [Vs] using hv
  |c::cs,vs,hv=>by
    simp only [Vs] at hv ⊢
    obtain ⟨u,us,rfl,h1,h2⟩:=hv
    exact ⟨u,us,rfl,V.mono h hH c u h1,Vs.mono h hH cs us h2⟩
end
theorem VE.mono(h:Fr Wr lim w lim' w'):∀(es:List (BA×Data)) (i:Nat) (ms:List MapEntry),VE lim w i es ms->VE lim' w' i es ms
  |[],_,_,hv=>by simpa only [VE] using hv
  | (k,p)::r,i,ms,hv=>by
    simp only [VE] at hv ⊢
    obtain ⟨e,ms',rfl,h1,h2,h3,h4⟩:=hv
    exact ⟨e,ms',rfl,h1,h2,VD.mono h p _ h3,VE.mono h r (i+1) ms' h4⟩
end
end
section

inductive Sb where
 |to (i:Nat)
 |data (x:Data)
 |no

mutual
def PV.sub(σ:Nat->Sb):PV->Option PV
 |.d x=>some (.d x)
 |.acc id=>match σ id with
  |.to i=>some (.acc i)
  |.data x=>some (.d x)
  |.no=>none
 |.agg cs=>match PV.subs σ cs with
  |some cs'=>some (.agg cs')
  |none=>none
 |.tup cs=>match PV.subs σ cs with
  |some cs'=>some (.tup cs')
  |none=>none
 |.box id off=>match σ id with
  |.to i=>some (.box i off)
  |_=>none
 |.eptr cs=>some (.eptr cs)
 |.fn f cs=>match PV.subs σ cs with
  |some cs'=>some (.fn f cs')
  |none=>none
 |.ifc t x=>match PV.sub σ x with
  |some x'=>some (.ifc t x')
  |none=>none
 |.arr id off fN=>match σ id with
  |.to i=>some (.arr i off fN)
  |_=>none
 |.am id j=>match σ id with
  |.to i=>some (.am i j)
  |_=>none
 |.amc id j off=>match σ id with
  |.to i=>some (.amc i j off)
  |_=>none
 |.any=>some .any
def PV.subs(σ:Nat->Sb):List PV->Option (List PV)
 |[]=>some []
 |c::cs=>match PV.sub σ c with
  |some c'=>match PV.subs σ cs with
   |some cs'=>some (c'::cs')
   |none=>none
  |none=>none
end

section
variable {Wr:Nat->Prop}{lim lim':Nat->Nat}{w w':World}{H H':Nat->Option Value}{σ:Nat->Sb}
mutual
theorem V.sub(h:Fr Wr lim w lim' w')(h1:∀id i v,σ id=.to i->H id=some v->H' i=some v)(h2:∀id x v,σ id=.data x->H id=some v->VD lim' w' x v):
  ∀(p q:PV) (v:Value),PV.sub σ p=some q->V H lim w p v->V H' lim' w' q v
 |.d x,q,v,hs,hv=>by
  simp only [PV.sub,sI] at hs
  subst hs
  simp only [V] at hv ⊢
  exact VD.mono h x v hv
 |.acc id,q,v,hs,hv=>by
  simp only [PV.sub] at hs
  simp only [V] at hv
  split at hs
  ·rename_i i hi
   simp only [sI] at hs
   subst hs
   simp only [V]
   exact h1 id i v hi hv
  ·rename_i x hx
   simp only [sI] at hs
   subst hs
   simp only [V]
   exact h2 id x v hx hv
  cases hs
 |.agg cs,q,v,hs,hv=>by
  simp only [PV.sub] at hs
  simp only [V] at hv
  obtain ⟨vs,rfl,hc⟩:=hv
  split at hs
  ·rename_i cs' eV
   simp only [sI] at hs
   subst hs
   simp only [V]
   exact ⟨vs,rfl,Vs.sub h h1 h2 cs cs' vs eV hc⟩
  cases hs
 |.tup cs,q,v,hs,hv=>by
  simp only [PV.sub] at hs
  simp only [V] at hv
  obtain ⟨vs,rfl,hc⟩:=hv
  split at hs
  ·rename_i cs' eV
   simp only [sI] at hs
   subst hs
   simp only [V]
   exact ⟨vs,rfl,Vs.sub h h1 h2 cs cs' vs eV hc⟩
  cases hs
 |.box id off,q,v,hs,hv=>by
  simp only [PV.sub] at hs
  simp only [V] at hv
  split at hs
  ·rename_i i hi
   simp only [sI] at hs
   subst hs
   simp only [V]
   obtain ⟨b,q1,q2⟩:=hv
   exact ⟨b,h1 id i _ hi q1,q2⟩
  cases hs
 |.eptr cs,q,v,hs,hv=>by
  simp only [PV.sub,sI] at hs
  subst hs
  simp only [V] at hv ⊢
  obtain ⟨b,o,rfl,hc⟩:=hv
  exact ⟨b,o,rfl,VCells.mono h b cs o hc⟩
 |.fn f cs,q,v,hs,hv=>by
  simp only [PV.sub] at hs
  simp only [V] at hv
  obtain ⟨vs,rfl,hc⟩:=hv
  split at hs
  ·rename_i cs' eV
   simp only [sI] at hs
   subst hs
   simp only [V]
   exact ⟨vs,rfl,Vs.sub h h1 h2 cs cs' vs eV hc⟩
  cases hs
 |.ifc t x,q,v,hs,hv=>by
  simp only [PV.sub] at hs
  simp only [V] at hv
  obtain ⟨u,rfl,hc⟩:=hv
  split at hs
  ·rename_i x' hx
   simp only [sI] at hs
   subst hs
   simp only [V]
   exact ⟨u,rfl,V.sub h h1 h2 x x' u hx hc⟩
  cases hs
 |.arr id off fN,q,v,hs,hv=>by
  simp only [PV.sub] at hs
  simp only [V] at hv
  split at hs
  ·rename_i i hi
   simp only [sI] at hs
   subst hs
   simp only [V]
   obtain ⟨b,cap,q1,q2⟩:=hv
   exact ⟨b,cap,h1 id i _ hi q1,q2⟩
  cases hs
 |.am id j,q,v,hs,hv=>by
  simp only [PV.sub] at hs
  simp only [V] at hv
  split at hs
  ·rename_i i hi
   simp only [sI] at hs
   subst hs
   simp only [V]
   obtain ⟨vs,q1,q2⟩:=hv
   exact ⟨vs,h1 id i _ hi q1,q2⟩
  cases hs
 |.amc id j off,q,v,hs,hv=>by
  simp only [PV.sub] at hs
  simp only [V] at hv
  split at hs
  ·rename_i i hi
   simp only [sI] at hs
   subst hs
   simp only [V]
   obtain ⟨vs,b,n,c,q1,q2⟩:=hv
   exact ⟨vs,b,n,c,h1 id i _ hi q1,q2⟩
  cases hs
 |.any,q,v,hs,hv=>by
  simp only [PV.sub,sI] at hs
  subst hs
  simp only [V]
theorem Vs.sub(h:Fr Wr lim w lim' w')(h1:∀id i v,σ id=.to i->H id=some v->H' i=some v)(h2:∀id x v,σ id=.data x->H id=some v->VD lim' w' x v):
  ∀(ps qs:List PV) (vs:List Value),PV.subs σ ps=some qs->Vs H lim w ps vs->Vs H' lim' w' qs vs
 |[],qs,vs,hs,hv=>by
  simp only [PV.subs,sI] at hs
  subst hs
  simp only [Vs] at hv ⊢
  exact hv
 |c::cs,qs,vs,hs,hv=>by
  simp only [PV.subs] at hs
  simp only [Vs] at hv
  obtain ⟨u,us,rfl,hu,VK⟩:=hv
  split at hs
  ·rename_i c' hc
   split at hs
   ·rename_i cs' eV
    simp only [sI] at hs
    subst hs
    simp only [Vs]
    exact ⟨u,us,rfl,V.sub h h1 h2 c c' u hc hu,Vs.sub h h1 h2 cs cs' us eV VK⟩
   cases hs
  cases hs
end
end

def blk:Value->Option Nat
 |.map (some b)=>some b
 |.pointer (some a)=>some a.block
 |.slice (some a) _ _=>some a.block
 |_=>none

def JJ:Value->Nat->Prop
 |.map (some b),c=>c=b
 |.pointer (some a),c=>c=a.block
 |.slice (some a) _ _,c=>c=a.block
 |.func _ _ vs,c=>∃v,v∈vs.toList/\blk v=some c
 |_,_=>False
theorem kD{v:Value}{b:Nat}(h:blk v=some b):JJ v b:=by
 unfold blk at h
 split at h <;> first
  |cases h;rfl
  |cases h
structure St where
 env:List (Nat×PV)
 rows:List Row

def look:List (Nat×PV)->Nat->Option PV
 |[],_=>none
 | (i,p)::r,j=>if i=j then some p else look r j

def Aw(xs:List Value):List PV:=xs.map fun v=>.d (.s v)
def AE(lim:Nat->Nat)(w:World)(fz:Bool):Nat->List (BA×List Int)->List MapEntry->List Value->Prop
 |_,[],ms,hs=>ms=[]/\hs=[]
 |i,(k,l)::r,ms,hs=>∃(e:MapEntry) (ms':List MapEntry) (c:Nat) (ty:TypeId) (yd:List Value) (cap:Nat),ms=e::ms'/\hs=e.val::yd/\e.key=.string k/\e.born=i/\e.val=.slice (some ⟨c,0,none⟩) l.length cap/\(l.length<=cap/\cap<=maxLen)/\
   w.heap[c]? = some (.cells (l.map (Value.int .i64)).toArray ty (0,0))/\lim c=(match fz with|true=>l.length|false=>0)/\AE lim w fz (i+1) r ms' yd
@[reducible] def kv (q:Nat×Nat):Value:=.slice (some ⟨q.1,0,none⟩) q.2 q.2
def KR(lim:Nat->Nat)(w:World)(fz:Bool):List (Nat×Nat)->List (List Int)->Prop
 |[],ls=>ls=[]
 |q::ks,ls=>∃l r,ls=l::r/\l.length=q.2/\q.2<=maxLen/\(∃ty,w.heap[q.1]? = some (.cells (l.map (Value.int .i64)).toArray ty (0,0)))/\lim q.1=(match fz with|true=>q.2|false=>0)/\KR lim w fz ks r
def RowOk(H:Nat->Option Value)(lim:Nat->Nat)(w:World)(id:Nat):Row->Prop
 |.box ty cells=>∃b cs,H id=some (.pointer (some ⟨b,0,none⟩))/\w.heap[b]? = some (.cells (cs:List Value).toArray ty (0,0))/\Vs H lim w cells cs/\lim b=0
 |.acc e k xs=>∃hv zs,H id=some hv/\w.ownsRow 0 e k hv xs.length zs/\VDs lim w xs.flatten zs/\(∀x,x∈xs->x.length=k/\∀d,d∈x->d_ d=true)/\0<k/\(∀b,blk hv=some b->lim b=xs.length * k)
 |.vec ty xs=>∃b cs,H id=some (.pointer (some ⟨b,0,none⟩))/\w.heap[b]? = some (.cells (cs:List Value).toArray ty (0,0))/\Vs H lim w (Aw xs) cs/\lim b=0
 |.map _ es=>∃b ms,H id=some (.map (some b))/\w.heap[b]? = some (.map ms es.length)/\VE lim w 0 es ms.toList/\lim b=0
 |.amap _ fz es=>∃b ms hs,H id=some (lu (Value.map (some b)::hs))/\w.heap[b]? = some (.map ms es.length)/\AE lim w fz 0 es ms.toList hs/\lim b=0/\(b::hs.filterMap blk).Nodup
 |.arrs fz ks ls=>H id=some (lu (ks.map kv))/\KR lim w fz ks ls/\(ks.map (·.1)).Nodup

def Ow(H:Nat->Option Value)(id b:Nat):Prop:=∃v,H id=some v/\JJ v b
theorem bU{H:Nat->Option Value}{id b:Nat}{v:Value}(h:H id=some v):Ow H id b↔JJ v b:=⟨fun ⟨u,q,r⟩=>by rw [h] at q;cases q;exact r,fun r=>⟨v,h,r⟩⟩
theorem jr{H:Nat->Option Value}{id b:Nat}(h:H id=none):¬Ow H id b:=fun ⟨v,q,_⟩=>by rw [h] at q;cases q
structure RowsOk (H:Nat->Option Value) (lim:Nat->Nat) (w:World) (rows:List Row):Prop where
 row:∀id r,rows[id]? = some r->RowOk H lim w id r
 apart:∀i j b,i≠j->Ow H i b->¬Ow H j b
 dom:∀id,rows.length<=id->H id=none

abbrev Glob:=Nat->Option Value

def Bl(H:Nat->Option Value)(b:Nat):Prop:=∃id,Ow H id b
def NGof(G:Glob):Nat:=match G 1000 with
 |some (.int _ n)=>n.toNat
 |_=>0
def GlobOk1(n:Nat)(lim:Nat->Nat)(w:World)(g:Nat):Value->Prop
 |.tuple cs=>g<n/\∃ty fr,w.heap[g]? = some (.cells cs ty fr)
 |.agg vs=>∃(a:Addr) (cs:Array Value) (ty:TypeId),vs = #[.pointer (some a)]/\a.block<n/\w.heap[a.block]? = some (.cells cs ty (0,0))
 |v=>w.cell? ⟨g,0,none⟩=some v/\0<lim g/\jg v=true
structure GlobOk (G:Glob) (H:Nat->Option Value) (lim:Nat->Nat) (w:World):Prop where
 size:NGof G<=w.heap.size
 rows:∀b,Bl H b->NGof G<=b
 holds:∀g v,Nat.ble g 999=true->G g=some v->GlobOk1 (NGof G) lim w g v
theorem GlobOk1.one{n:Nat}{lim:Nat->Nat}{w:World}{g:Nat}{v:Value}(h:GlobOk1 n lim w g v)(hv:jg v=true):w.cell? ⟨g,0,none⟩=some v/\0<lim g/\jg v=true:=by
 cases v <;> first|exact h|cases hv
theorem GlobOk.sub{G:Glob}{H H':Nat->Option Value}{lim:Nat->Nat}{w:World}(h:GlobOk G H lim w)(hB:∀b,Bl H' b->Bl H b):GlobOk G H' lim w:=⟨h.size,fun b q=>h.rows b (hB b q),h.holds⟩

structure Rep (D:List Deferred) (G:Glob) (N:Nat) (H:Nat->Option Value) (lim:Nat->Nat) (X:St) (a:Act) (w:World):Prop where
 env:∀j p,look X.env j=some p->j<N/\V H lim w p (a.tmps.getD j undef)
 rows:RowsOk H lim w X.rows
 glob:GlobOk G H lim w
 defers:a.defers=D
 size:a.tmps.size=N

inductive Out where
 |ret (p:PV)
 |pan (p:PV)

def BK(H:Nat->Option Value)(lim:Nat->Nat)(w:World)(out:Out)(e:Ending):Prop:=match out with
 |.ret p=>∃v,e=.returned v/\V H lim w p v
 |.pan p=>∃v,e=.panicked [{ v,recovered:=false }]/\V H lim w p v
def AA(P:Program)(G:Glob)(f:FuncId)(args:List PV)(rows:List Row)(Pst:Out->List Row->Prop):Prop:=
 (∀(QC:Array Value) (w:World),(callFunc f QC).run P w=.ok (.enter f QC) w)/\(∀o r,Pst o r->rows.length<=r.length)/\
 ∀(H:Nat->Option Value) (lim:Nat->Nat) (w:World) (vs:List Value),RowsOk H lim w rows->GlobOk G H lim w->Vs H lim w args vs->
  Calls P f vs.toArray w fun e w'=>∃(out:Out) (rows':List Row) (H':Nat->Option Value) (lim':Nat->Nat),Pst out rows'/\RowsOk H' lim' w' rows'/\Fr (Bl H) lim w lim' w'/\
   (∀id v,stay v=true->H id=some v->H' id=H id)/\
   (∀b,Bl H' b->Bl H b\/w.heap.size<=b)/\
   BK H' lim' w' out e
def Spec(P:Program)(G:Glob)(f:FuncId)(args:List PV)(rows:List Row)(out:Out)(rows':List Row):Prop:=
 (∀(QC:Array Value) (w:World),(callFunc f QC).run P w=.ok (.enter f QC) w)/\rows.length<=rows'.length/\
 ∀(H:Nat->Option Value) (lim:Nat->Nat) (w:World) (vs:List Value),RowsOk H lim w rows->GlobOk G H lim w->Vs H lim w args vs->
  Calls P f vs.toArray w fun e w'=>∃(H':Nat->Option Value) (lim':Nat->Nat),RowsOk H' lim' w' rows'/\Fr (Bl H) lim w lim' w'/\
   (∀id v,stay v=true->H id=some v->H' id=H id)/\
   (∀b,Bl H' b->Bl H b\/w.heap.size<=b)/\
   BK H' lim' w' out e
theorem Spec.toE{P:Program}{G:Glob}{f:FuncId}{args:List PV}{rows rows':List Row}{out:Out}(h:Spec P G f args rows out rows'):AA P G f args rows fun o r=>o=out/\r=rows':=
 ⟨h.1,fun _ _ q=>by rw [q.2];exact h.2.1,fun H lim w vs h1 h2 h3=>Calls.mono (h.2.2 H lim w vs h1 h2 h3) fun _ _ ⟨H',lim',q⟩=>⟨out,rows',H',lim',⟨rfl,rfl⟩,q⟩⟩
end
section

inductive TK where
 |int (k:IntKind)|bool|string|slice (e:TypeId)|ptr (e:TypeId)|struct (fs:List (Nat×TypeId))|iface|map (k v:TypeId)|func
structure TI where
 desc:TK
 size:Nat
 bytes:Nat
 zero:List Value
abbrev Tab:=TypeId->Option TI
def eX:TK->TypeDesc->Prop
 |.int k,d=>d=.int k
 |.bool,d=>d=.bool
 |.string,d=>d=.string
 |.slice e,d=>d=.slice e
 |.ptr e,d=>d=.pointer e
 |.struct fs,d=>∃fa:Array Field,d=.struct fa/\fa.toList.map (fun f=>(f.offset,f.type))=fs
 |.iface,d=>∃ms,d=.interface ms
 |.map k v,d=>d=.map k v
 |.func,d=>∃ps rs b,d=.func ps rs b
def JK:Value->Bool
 |.agg _=>true
 |_=>false
def TK.agg:TK->Bool
 |.struct _=>true
 |_=>false
def bH(P:Program)(T:Tab):Prop:=
 ∀t i,T t=some i->(∃d,P.underlying t=some d/\eX i.desc d)/\∃ti,P.info? t=some ti/\ti.size=i.size/\ti.bytes=i.bytes/\∃z,ti.zero=some z/\z.cells.toList=i.zero/\JK z=i.desc.agg

def cv:Value->PV
 |.agg cs=>.d (.agg (cs.toList.map Data.s))
 |.tuple vs=>.tup (vs.toList.map fun v=>.d (.s v))
 |v=>.d (.s v)
def ev(G:Glob)(X:St):Operand->Option PV
 |.tmp t=>look X.env t
 |.const v=>some (cv v)
 |.global g=>match Nat.ble g 999,G g with
  |true,some v=>match jg v with
   |true=>some (.eptr [.s v])
   |false=>none
  |_,_=>none
 |.func f=>some (.fn f [])
def oP:List PV->Option (List Data)
 |[]=>some []
 |.d x::r=>match oP r with
  |some ds=>some (x::ds)
  |none=>none
 |_::_=>none
def xa(cs:List PV):PV:=match oP cs with
 |some ds=>.d (.agg ds)
 |none=>.agg cs
def Om(rows:List Row):Nat->Sb:=fun id=>match rows[id]? with
 |some (.acc _ k xs)=>.data (.sl k xs)
 |some (.box ..)=>.to id
 |some (.map ..)=>.to id
 |some (.vec ..)=>.to id
 |some (.amap ..)=>.to id
 |some (.arrs ..)=>.to id
 |none=>.no

section
variable {P:Program}{G:Glob}{D:List Deferred}{N:Nat}{H:Nat->Option Value}{lim:Nat->Nat}{X:St}{a:Act}{w:World}{T:Tab}

theorem xb(cs:List Value):VDs lim w (cs.map Data.s) cs:=by
 induction cs with
 |nil=>simp only [List.map_nil,VDs]
 |cons c cs ih=>simp only [List.map_cons,VDs,VD];exact ⟨c,cs,rfl,rfl,ih⟩
theorem mr(cs:List Value):Vs H lim w (cs.map fun v=>.d (.s v)) cs:=by
 induction cs with
 |nil=>simp only [List.map_nil,Vs]
 |cons c cs ih=>simp only [List.map_cons,Vs,V,VD];exact ⟨c,cs,rfl,rfl,ih⟩
theorem VL(v:Value):V H lim w (cv v) v:=by
 cases v <;> simp only [cv,V,VD]
 ·rename_i cs;exact ⟨cs.toList,by simp,xb _⟩
 rename_i cs;exact ⟨cs.toList,by simp,mr _⟩
theorem aw(hR:Rep D G N H lim X a w){x:Operand}{p:PV}(h:ev G X x=some p):V H lim w p (a.eval x):=by
 cases x with
 |tmp t=>exact (hR.env t p h).2
 |const v=>simp only [ev,sI] at h;subst h;exact VL v
 |global g=>
  simp only [ev] at h
  split at h
  ·rename_i v hg hv
   split at h
   ·rename_i ho
    simp only [sI] at h
    subst h
    obtain ⟨h1,h2,h3⟩:=(hR.glob.holds g v hg hv).one ho
    simp only [V,Act.eval]
    exact ⟨g,0,rfl,by simp only [VCells,VD,and_true];exact ⟨v,h1,h2,h3,rfl⟩⟩
   cases h
  cases h
 |func f=>
  simp only [ev,sI] at h
  subst h
  simp only [V,Act.eval]
  exact ⟨[],rfl,by simp only [Vs]⟩
theorem dA{ps:List PV}{vs:List Value}(h:Vs H lim w ps vs):vs.length=ps.length:=by
 induction ps generalizing vs with
 |nil=>simp only [Vs] at h;subst h;rfl
 |cons p ps ih=>simp only [Vs] at h;obtain ⟨u,us,rfl,_,h2⟩:=h;simp [ih h2]
theorem uK{ps:List Data}{vs:List Value}(h:VDs lim w ps vs):vs.length=ps.length:=by
 induction ps generalizing vs with
 |nil=>simp only [VDs] at h;subst h;rfl
 |cons p ps ih=>simp only [VDs] at h;obtain ⟨u,us,rfl,_,h2⟩:=h;simp [ih h2]
theorem rr{ps:List PV}{vs:List Value}{ds:List Data}(h:Vs H lim w ps vs)(hd:oP ps=some ds):VDs lim w ds vs:=by
 induction ps generalizing vs ds with
 |nil=>simp only [oP,sI] at hd;subst hd;simpa only [Vs,VDs] using h
 |cons p ps ih=>
  simp only [Vs] at h
  obtain ⟨u,us,rfl,h1,h2⟩:=h
  cases p <;> simp only [oP] at hd
  all_goals try cases hd
  split at hd
  ·rename_i ds' S8
   simp only [sI] at hd
   subst hd
   simp only [VDs]
   exact ⟨u,us,rfl,by simpa only [V] using h1,ih h2 S8⟩
  cases hd
theorem yZ{ps:List PV}{vs:List Value}(h:Vs H lim w ps vs):V H lim w (xa ps) (.agg vs.toArray):=by
 unfold xa
 split
 ·rename_i ds hd
  simp only [V,VD]
  exact ⟨vs,rfl,rr h hd⟩
 simp only [V]
 exact ⟨vs,rfl,h⟩
theorem nk{ps qs:List PV}{vs us:List Value}(h:Vs H lim w ps vs)(k:Vs H lim w qs us):Vs H lim w (ps++qs) (vs++us):=by
 induction ps generalizing vs with
 |nil=>simp only [Vs] at h;subst h;simpa using k
 |cons p ps ih=>simp only [Vs] at h;obtain ⟨u,QD,rfl,h1,h2⟩:=h;simp only [List.cons_append,Vs];exact ⟨u,QD++us,rfl,h1,ih h2⟩
theorem kG{ps:List PV}{vs:List Value}(h:Vs H lim w ps vs){i:Nat}{p:PV}(hp:ps[i]? = some p):∃v,vs[i]? = some v/\V H lim w p v:=by
 induction ps generalizing vs i with
 |nil=>cases hp
 |cons q ps ih=>
  simp only [Vs] at h
  obtain ⟨u,us,rfl,h1,h2⟩:=h
  cases i with
  |zero=>simp only [List.getElem?_cons_zero,sI] at hp ⊢;subst hp;exact ⟨u,rfl,h1⟩
  |succ i=>simp only [List.getElem?_cons_succ] at hp ⊢;exact ih h2 hp
theorem MR{ps:List Data}{vs:List Value}(h:VDs lim w ps vs){i:Nat}{p:Data}(hp:ps[i]? = some p):∃v,vs[i]? = some v/\VD lim w p v:=by
 induction ps generalizing vs i with
 |nil=>cases hp
 |cons q ps ih=>
  simp only [VDs] at h
  obtain ⟨u,us,rfl,h1,h2⟩:=h
  cases i with
  |zero=>simp only [List.getElem?_cons_zero,sI] at hp ⊢;subst hp;exact ⟨u,rfl,h1⟩
  |succ i=>simp only [List.getElem?_cons_succ] at hp ⊢;exact ih h2 hp
theorem y0{ps:List PV}{vs:List Value}(h:Vs H lim w ps vs)(n:Nat):Vs H lim w (ps.drop n) (vs.drop n):=by
 induction n generalizing ps vs with
 |zero=>simpa using h
 |succ n ih=>cases ps with
  |nil=>simp only [Vs] at h;subst h;simp only [List.drop_nil,Vs]
  |cons p ps=>simp only [Vs] at h;obtain ⟨u,us,rfl,_,h2⟩:=h;simpa using ih h2
theorem y5{ps:List PV}{vs:List Value}(h:Vs H lim w ps vs)(n:Nat):Vs H lim w (ps.take n) (vs.take n):=by
 induction n generalizing ps vs with
 |zero=>simp only [List.take_zero,Vs]
 |succ n ih=>cases ps with
  |nil=>simp only [Vs] at h;subst h;simp only [List.take_nil,Vs]
  |cons p ps=>simp only [Vs] at h;obtain ⟨u,us,rfl,h1,h2⟩:=h;simp only [List.take_succ_cons,Vs];exact ⟨u,us.take n,rfl,h1,ih h2⟩
theorem BL{ps:List Data}{vs:List Value}(h:VDs lim w ps vs)(n:Nat):VDs lim w (ps.drop n) (vs.drop n):=by
 induction n generalizing ps vs with
 |zero=>simpa using h
 |succ n ih=>cases ps with
  |nil=>simp only [VDs] at h;subst h;simp only [List.drop_nil,VDs]
  |cons p ps=>simp only [VDs] at h;obtain ⟨u,us,rfl,_,h2⟩:=h;simpa using ih h2
theorem BM{ps:List Data}{vs:List Value}(h:VDs lim w ps vs)(n:Nat):VDs lim w (ps.take n) (vs.take n):=by
 induction n generalizing ps vs with
 |zero=>simp only [List.take_zero,VDs]
 |succ n ih=>cases ps with
  |nil=>simp only [VDs] at h;subst h;simp only [List.take_nil,VDs]
  |cons p ps=>simp only [VDs] at h;obtain ⟨u,us,rfl,h1,h2⟩:=h;simp only [List.take_succ_cons,VDs];exact ⟨u,us.take n,rfl,h1,ih h2⟩
theorem sj{b:Nat}{ds:List Data}{o:Nat}(h:VCells lim w b o ds)(n:Nat):VCells lim w b (o+n) (ds.drop n):=by
 induction n generalizing ds o with
 |zero=>simpa using h
 |succ n ih=>cases ds with
  |nil=>simp only [List.drop_nil,VCells]
  |cons c cs=>simp only [VCells] at h;have:=ih h.2;simpa [Nat.add_assoc,Nat.add_comm 1 n] using this
theorem BN{b:Nat}{ds:List Data}{o:Nat}(h:VCells lim w b o ds)(n:Nat):VCells lim w b o (ds.take n):=by
 induction n generalizing ds o with
 |zero=>simp only [List.take_zero,VCells]
 |succ n ih=>cases ds with
  |nil=>simp only [List.take_nil,VCells]
  |cons c cs=>simp only [VCells] at h;simp only [List.take_succ_cons,VCells];exact ⟨h.1,ih h.2⟩
theorem JL{b k:Nat}{xs:List (List Data)}{o:Nat}(h:VRow lim w b k o xs){i:Nat}{cs:List Data}(hi:xs[i]? = some cs):cs.length=k/\VCells lim w b (o+i * k) cs:=by
 induction xs generalizing o i with
 |nil=>cases hi
 |cons x xs ih=>
  simp only [VRow] at h
  cases i with
  |zero=>simp only [List.getElem?_cons_zero,sI] at hi;subst hi;simpa using ⟨h.1,h.2.1⟩
  |succ i=>
   simp only [List.getElem?_cons_succ] at hi
   have:=ih h.2.2 hi
   refine ⟨this.1,?_⟩
   have e:o+k+i * k=o+(i+1) * k:=by rw [Nat.succ_mul];omega
   rw [e] at this
   exact this.2
def Agr:Option (Nat->Bool)->(H:Nat->Option Value)->(lim:Nat->Nat)->(w w1:World)->Prop
 |none,_,_,_,_=>True
 |some K,H,lim,w,w1=>(∀b o,b<w.heap.size->o<lim b->w1.cell? ⟨b,o,none⟩=w.cell? ⟨b,o,none⟩)/\∀id v b,K id=true->H id=some v->stay v=true->JJ v b->w1.heap[b]? = w.heap[b]?
theorem Agr.refl(K:Option (Nat->Bool))(H:Nat->Option Value)(lim:Nat->Nat)(w:World):Agr K H lim w w:=by
 cases K
 ·trivial
 exact ⟨fun _ _ _ _=>rfl,fun _ _ _ _ _ _ _=>rfl⟩
theorem Agr.cell{K:Nat->Bool}{w1:World}(h:Agr (some K) H lim w w1){b o:Nat}{v:Value}(hc:w.cell? ⟨b,o,none⟩=some v)(ho:o<lim b):w1.cell? ⟨b,o,none⟩=some v:=
 (h.1 b o (World.block_lt_of_cell? w (a:=⟨b,o,none⟩) hc) ho).trans hc
theorem xc{b:Nat}{ds:List Data}{o:Nat}(h:VCells lim w b o ds):∃vs,VDs lim w ds vs/\∀(K:Nat->Bool) (H:Nat->Option Value) (w1:World),Agr (some K) H lim w w1->∀(i:Nat) (acc:Array Value),∀o0,o=o0+i->(loadCellsFrom ⟨b,o0,none⟩ i ds.length acc).run P w1=.ok (acc++vs.toArray) w1:=by
 induction ds generalizing o with
 |nil=>exact ⟨[],by simp only [VDs],fun K H w1 hA i acc o0 _=>by simp [loadCellsFrom,Sem.run_pure]⟩
 |cons c cs ih=>
  simp only [VCells] at h
  obtain ⟨⟨v,h1,h2,_,h3⟩,h4⟩:=h
  obtain ⟨vs,eq,hr⟩:=ih h4
  refine ⟨v::vs,by simp only [VDs];exact ⟨v,vs,rfl,h3,eq⟩,fun K H w1 hA i acc o0 ho=>?_⟩
  have ha:(⟨b,o0,none⟩:Addr).add i=⟨b,o,none⟩:=by unfold Addr.add;split <;> simp_all
  have VM:(load ((⟨b,o0,none⟩:Addr).add i)).run P w1=.ok v w1:=by rw [ha];simp [load,Sem.run,hA.cell h1 h2]
  simp only [lC,loadCellsFrom,Sem.run_bind,VM,Result.andThen]
  rw [hr K H w1 hA (i+1) (acc.push v) o0 (by omega)]
  simp
end
end
section

def elemOf(T:Tab)(t:TypeId):Option (Nat):=match T t with
 |some { desc:=.slice e,.. }=>match T e with
  |some i=>some i.size
  |none=>none
 |_=>none
def tf(T:Tab)(t:TypeId)(f:Nat):Option (Nat×TI):=match T t with
 |some { desc:=.struct fs,.. }=>match fs[f]? with
  |some (off,u)=>match T u with
   |some i=>some (off,i)
   |none=>none
  |none=>none
 |_=>none

def oQ(T:Tab)(X:St)(t:TypeId)(x ix:Option PV)(k:PV->Prop):Prop:=
 match elemOf T t,x,ix with
 |some kk,some (.d (.sl k' xs)),some (.d (.s (.int _ i)))=>match Nat.beq k' kk with
  |true=>0<=i/\∃cs,xs[i.toNat]? = some cs/\k (.eptr cs)
  |false=>False
 |some kk,some (.acc id),some (.d (.s (.int _ i)))=>match X.rows[id]? with
  |some (.acc _ k' xs)=>match Nat.beq k' kk with
   |true=>0<=i/\∃cs,xs[i.toNat]? = some cs/\k (.eptr cs)
   |false=>False
  |_=>False
 |some kk,some (.arr id off fN),some (.d (.s (.int _ i)))=>0<=i/\i<fN/\k (.box id (off+i.toNat * kk))
 |some kk,some (.am id (j+1)),some (.d (.s (.int _ i)))=>match Nat.beq kk 1,X.rows[id]? with
  |true,some (.amap _ _ es)=>0<=i/\∃s l,es[j]? = some (s,l)/\i<l.length/\k (.amc id (j+1) i.toNat)
  |_,_=>False
 |some kk,some (.d (.s (.slice (some ⟨b,0,none⟩) n _))),some (.d (.s (.int _ i)))=>match Nat.beq kk 1 with
  |true=>0<=i/\i<n/\k (.d (.s (.pointer (some ⟨b,i.toNat,none⟩))))
  |false=>False
 |_,_,_=>False

def DB(T:Tab)(K:Nat->Bool)(X:St)(t:TypeId)(x:Option PV)(k:PV->Prop):Prop:=
 match T t,x with
 |some i,some (.eptr cs)=>match i.desc.agg with
  |true=>match Nat.ble i.size cs.length with
   |true=>k (.d (.agg (cs.take i.size)))
   |false=>False
  |false=>match cs with
   |c::_=>k (.d c)
   |[]=>False
 |some i,some (.box id off)=>match K id,X.rows[id]? with
  |true,some (.box _ cells)=>match i.desc.agg with
   |true=>match Nat.ble (off+i.size) cells.length,PV.subs (Om X.rows) ((cells.drop off).take i.size) with
    |true,some cs=>k (xa cs)
    |_,_=>False
   |false=>match cells[off]? with
    |some p=>k p
    |none=>False
  |_,_=>False
 |some i,some (.amc id (j+1) off)=>match K id,X.rows[id]?,i.desc.agg with
  |true,some (.amap _ _ es),false=>∃s l n,es[j]? = some (s,l)/\l[off]? = some n/\k (.d (.s (.int .i64 n)))
  |_,_,_=>False
 |some i,some (.d (.s (.pointer (some ⟨b,off,none⟩))))=>i.desc.agg=false/\∃(id:Nat) (fz:Bool) (ks:List (Nat×Nat)) (ls:List (List Int)) (j n:Nat) (l:List Int) (m:Int),K id=true/\X.rows[id]? = some (.arrs fz ks ls)/\ks[j]? = some (b,n)/\ls[j]? = some l/\l[off]? = some m/\k (.d (.s (.int .i64 m)))
 |_,_=>False

def BO(T:Tab)(K:Option (Nat->Bool))(X:St)(t:TypeId)(x:Option PV)(k:PV->Prop):Prop:=match K with
 |some K=>DB T K X t x k
 |none=>False

def DC(T:Tab)(X:St)(t:TypeId)(x:Option PV)(f:Nat)(k:PV->Prop):Prop:=
 match tf T t f,x with
 |some (off,i),some (.d (.agg cs))=>match i.desc.agg with
  |true=>match Nat.ble (off+i.size) cs.length with
   |true=>k (.d (.agg ((cs.drop off).take i.size)))
   |false=>False
  |false=>match cs[off]? with
   |some c=>k (.d c)
   |none=>False
 |some (off,i),some (.agg cs)=>match i.desc.agg with
  |true=>match Nat.ble (off+i.size) cs.length,PV.subs (Om X.rows) ((cs.drop off).take i.size) with
   |true,some cs=>k (xa cs)
   |_,_=>False
  |false=>match cs[off]? with
   |some c=>k c
   |none=>False
 |_,_=>False

def oR(T:Tab)(t:TypeId)(x:Option PV)(f:Nat)(k:PV->Prop):Prop:=
 match tf T t f,x with
 |some (off,i),some (.box id o)=>match Nat.beq i.size 0 with
  |true=>False
  |false=>k (.box id (o+off))
 |some (off,i),some (.eptr cs)=>match Nat.beq i.size 0 with
  |true=>False
  |false=>k (.eptr (cs.drop off))
 |_,_=>False

def DD(op:BinOp)(ik:IntKind)(x y:Int)(k:PV->Prop):Prop:=
 match op with
 |.add=>k (.d (.s (.int ik (ik.wrap (x+y)))))
 |.sub=>k (.d (.s (.int ik (ik.wrap (x - y)))))
 |.mul=>k (.d (.s (.int ik (ik.wrap (x * y)))))
 |.quo=>y≠0/\k (.d (.s (.int ik (ik.wrap (x.tdiv y)))))
 |.rem=>y≠0/\k (.d (.s (.int ik (x.tmod y))))
 |.eql=>k (.d (.s (.bool (x==y))))
 |.neq=>k (.d (.s (.bool (x != y))))
 |.lss=>k (.d (.s (.bool (decide (x<y)))))
 |.leq=>k (.d (.s (.bool (decide (x<=y)))))
 |.gtr=>k (.d (.s (.bool (decide (x>y)))))
 |.geq=>k (.d (.s (.bool (decide (x≥y)))))
 |_=>False
def DE(op:BinOp)(x y:BA)(k:PV->Prop):Prop:=
 match op with
 |.add=>x.size+y.size<=9223372036854775807/\k (.d (.s (.string (x++y))))
 |.eql=>k (.d (.s (.bool (x.toList==y.toList))))
 |.neq=>k (.d (.s (.bool !(x.toList==y.toList))))
 |.lss=>k (.d (.s (.bool (Op.bytesLess x.toList y.toList))))
 |_=>False
def BP:PV->Bool
 |.d (.ifc ..)=>true
 |.ifc ..=>true
 |.d (.s (.iface ..))=>true
 |_=>false
def uL:PV->Bool
 |.d (.s .nilIface)=>true
 |_=>false
def DF:Operand->Bool
 |.const _=>true
 |_=>false
def y6(T:Tab)(t:TypeId):Bool:=match T t with
 |some { desc:=.bool,.. }=>true
 |_=>false
def uM(T:Tab)(t:TypeId):Bool:=match T t with
 |some { desc:=.iface,.. }=>true
 |_=>false
def Fu(op:BinOp)(s u:Bool)(k:PV->Prop):Prop:=match op with
 |.eql=>k (.d (.s (.bool (s==u))))
 |.neq=>k (.d (.s (.bool !(s==u))))
 |_=>False
def oS(op:BinOp)(nil ifc:Bool)(k:PV->Prop):Prop:=match nil,ifc,op with
 |true,_,.eql=>k (.d (.s (.bool true)))
 |true,_,.neq=>k (.d (.s (.bool false)))
 |false,true,.eql=>k (.d (.s (.bool false)))
 |false,true,.neq=>k (.d (.s (.bool true)))
 |_,_,_=>False
def Fv(T:Tab)(t:TypeId):Bool:=match T t with
 |some { desc:=.slice _,.. }=>true
 |_=>false
def JM:PV->Bool
 |.d (.s (.slice none 0 0))=>true
 |_=>false
def ua:PV->Bool->Prop
 |.d (.s (.slice none 0 0)),b=>b=true
 |.d (.sl _ xs),b=>xs≠[]->b=false
 |.arr _ _ _,b=>b=false
 |_,_=>True
def QF:PV->Bool
 |.d (.s (.slice none 0 0))=>true
 |.d (.sl _ _)=>true
 |.arr _ _ _=>true
 |_=>false
def Fw(op:BinOp)(p:PV)(k:PV->Prop):Prop:=∀b,ua p b->oS op b true k
def QG(T:Tab)(op:BinOp)(t:TypeId)(x y:Option PV)(cy:Bool)(k:PV->Prop):Prop:=
 match x,y with
 |some (.d (.s (.int ik i))),some (.d (.s (.int jk j)))=>match decide (ik=jk) with
  |true=>DD op ik i j k
  |false=>False
 |some (.d (.s (.string s))),some (.d (.s (.string u)))=>DE op s u k
 |some (.d (.s (.bool s))),some (.d (.s (.bool u)))=>match y6 T t with
  |true=>Fu op s u k
  |false=>False
 |some p,some q=>match uM T t,cy,uL q with
  |true,true,true=>oS op (uL p) (BP p) k
  |_,_,_=>match Fv T t,QF p,JM q with
   |true,true,true=>Fw op p k
   |_,_,_=>False
 |_,_=>False

def E_(ok:Bool)(p:PV)(b:Bool)(k:PV->Prop):Prop:=match ok with
 |true=>k (.tup [p,.d (.s (.bool b))])
 |false=>k p
def nX(T:Tab)(e:TypeId):Option PV:=match T e with
 |some i=>match i.desc.agg,i.zero with
  |true,cs=>some (.d (.agg (cs.map Data.s)))
  |false,[z]=>some (.d (.s z))
  |_,_=>none
 |none=>none
def dF:List (BA×Data)->BA->Option Data
 |[],_=>none
 | (k,p)::r,s=>match s==k with
  |true=>some p
  |false=>dF r s
def gJ:List (BA×List Int)->BA->Nat->Option (Nat×List Int)
 |[],_,_=>none
 | (k,l)::r,s,j=>match s==k with
  |true=>some (j,l)
  |false=>gJ r s (j+1)
def numsD(l:List Int):List (List Data):=l.map fun n=>[.s (.int .i64 n)]
def Dl(fz:Bool)(id j:Nat)(l:List Int):PV:=match fz with
 |true=>.d (.sl 1 (numsD l))
 |false=>.am id (j+1)
def gQ(T:Tab)(t:TypeId):Bool:=match T t with
 |some { desc:=.string,.. }=>true
 |_=>false
def BQ(T:Tab)(Kb:Nat->Bool)(X:St)(t:TypeId)(x i:Option PV)(ok:Bool)(k:PV->Prop):Prop:=
 match T t,x,i with
 |some { desc:=.map kt e,.. },some (.acc id),some (.d (.s (.string s)))=>match Kb id,gQ T kt,X.rows[id]? with
  |true,true,some (.map _ es)=>∃o,dF es s=o/\match o with
   |some p=>E_ ok (.d p) true k
   |none=>match nX T e with
    |some z=>E_ ok z false k
    |none=>False
  |_,_,_=>False
 |some { desc:=.map kt e,.. },some (.am id 0),some (.d (.s (.string s)))=>match Kb id,gQ T kt,X.rows[id]? with
  |true,true,some (.amap _ fz es)=>∃o,gJ es s 0=o/\match o with
   |some (j,l)=>E_ ok (Dl fz id j l) true k
   |none=>match nX T e with
    |some z=>E_ ok z false k
    |none=>False
  |_,_,_=>False
 |_,_,_=>False
def y7(T:Tab)(K:Option (Nat->Bool))(X:St)(t:TypeId)(x i:Option PV)(ok:Bool)(k:PV->Prop):Prop:=match K with
 |some K=>BQ T K X t x i ok k
 |none=>False
def JN:TK->Bool
 |.iface=>true
 |_=>false
def oU(T:Tab)(ok:Bool)(t:TypeId)(k:PV->Prop):Prop:=match ok,nX T t with
 |true,some z=>E_ true z false k
 |_,_=>False
def BR(T:Tab)(x:Option PV)(t:TypeId)(ok:Bool)(k:PV->Prop):Prop:=match x with
 |some (.d (.ifc t' d))=>match Nat.beq t' t with
  |true=>E_ ok (.d d) true k
  |false=>oU T ok t k
 |some (.ifc t' p)=>match Nat.beq t' t with
  |true=>E_ ok p true k
  |false=>oU T ok t k
 |some (.d (.s (.iface t' v)))=>match Nat.beq t' t with
  |true=>E_ ok (.d (.s v)) true k
  |false=>oU T ok t k
 |some (.d (.s .nilIface))=>oU T ok t k
 |_=>False
def y8(T:Tab)(x:Option PV)(t:TypeId)(ok:Bool)(k:PV->Prop):Prop:=match T t with
 |some i=>match JN i.desc with
  |true=>False
  |false=>BR T x t ok k
 |none=>False

def byteAt(s:BA)(i:Int):Int:=match s[i.toNat]? with
 |some b=>b.toNat
 |none=>0

def MT(X:St)(k:Nat):PV->Option (List (List Data))
 |.d (.sl k' ys)=>match Nat.beq k' k with
  |true=>some ys
  |false=>none
 |.d (.s (.slice none 0 0))=>some []
 |.acc id=>match X.rows[id]? with
  |some (.acc _ k' ys)=>match Nat.beq k' k with
   |true=>some ys
   |false=>none
  |_=>none
 |_=>none
def y9(kk:Nat)(xs:List (List Data))(lo hi:Option (Option PV))(k:PV->Prop):Prop:=match lo,hi with
 |none,none=>k (.d (.sl kk xs))
 |some (some (.d (.s (.int _ i)))),none=>∃n:Nat,i=n/\n<=xs.length/\k (.d (.sl kk (xs.drop n)))
 |none,some (some (.d (.s (.int _ j))))=>∃n:Nat,j=n/\n<=xs.length/\k (.d (.sl kk (xs.take n)))
 |some (some (.d (.s (.int _ i)))),some (some (.d (.s (.int _ j))))=>∃m n:Nat,i=m/\j=n/\m<=n/\n<=xs.length/\k (.d (.sl kk ((xs.take n).drop m)))
 |_,_=>False
def DG(T:Tab)(X:St)(t:TypeId)(x:Option PV)(lo hi mx:Option (Option PV))(k:PV->Prop):Prop:=
 match T t,x,mx with
 |some { desc:=.string,.. },some (.d (.s (.string s))),none=>match lo,hi with
  |none,none=>k (.d (.s (.string (s.extract 0 s.size))))
  |some (some (.d (.s (.int _ i)))),none=>0<=i/\i<=s.size/\k (.d (.s (.string (s.extract i.toNat s.size))))
  |none,some (some (.d (.s (.int _ j))))=>0<=j/\j<=s.size/\k (.d (.s (.string (s.extract 0 j.toNat))))
  |some (some (.d (.s (.int _ i)))),some (some (.d (.s (.int _ j))))=>0<=i/\i<=j/\j<=s.size/\k (.d (.s (.string (s.extract i.toNat j.toNat))))
  |_,_=>False
 |some { desc:=.slice e,.. },some p,none=>match T e with
  |some i=>match MT X i.size p with
   |some xs=>y9 i.size xs lo hi k
   |none=>False
  |none=>False
 |_,_,_=>False

def QH(T:Tab)(X:St)(t:TypeId)(x:Option PV)(k:PV->Prop):Prop:=
 match T t,x with
 |some { desc:=.string,.. },some (.d (.s (.string s)))=>k (.d (.s (.int .i64 s.size)))
 |some { desc:=.slice _,.. },some (.d (.sl _ xs))=>k (.d (.s (.int .i64 xs.length)))
 |some { desc:=.slice _,.. },some (.d (.s (.slice _ n _)))=>k (.d (.s (.int .i64 n)))
 |some { desc:=.slice _,.. },some (.arr _ _ n)=>k (.d (.s (.int .i64 n)))
 |some { desc:=.slice _,.. },some (.acc id)=>match X.rows[id]? with
  |some (.acc _ _ xs)=>k (.d (.s (.int .i64 xs.length)))
  |_=>False
 |some { desc:=.slice _,.. },some (.am id (j+1))=>match X.rows[id]? with
  |some (.amap _ _ es)=>∃s l,es[j]? = some (s,l)/\k (.d (.s (.int .i64 (List.length l))))
  |_=>False
 |_,_=>False

def mu:List (List Data)->Option (List Int)
 |[]=>some []
 |[.s (.int .u8 n)]::r=>match mu r with
  |some l=>some (n::l)
  |none=>none
 |_=>none
def iY(ns:List Int):BA:=⟨(ns.map fun n=>UInt8.ofNat n.toNat).toArray⟩
def Fx(T:Tab)(t:TypeId):Bool:=match T t with
 |some { desc:=.int .u8,.. }=>true
 |_=>false
def DH(T:Tab)(K:Option (Nat->Bool))(e:TypeId)(m:Nat)(xs:List (List Data))(k:PV->Prop):Prop:=match K,Fx T e,Nat.beq m 1 with
 |some _,true,true=>∃ns,mu xs=some ns/\k (.d (.s (.string (iY ns))))
 |_,_,_=>False
def tK(x y:Int):Int:=if y>x then y else x
def pop(T:Tab)(G:Glob)(K:Option (Nat->Bool))(X:St):Op->(PV->Prop)->Prop
 |.move x,k=>match ev G X x with
  |some p=>k p
  |none=>False
 |.assign x,k=>match ev G X x with
  |some p=>k p
  |none=>False
 |.pick c x y,k=>match ev G X c with
  |some (.d (.s (.bool t)))=>match t with
   |true=>match ev G X x with
    |some p=>k p
    |none=>False
   |false=>match ev G X y with
    |some p=>k p
    |none=>False
  |_=>False
 |.nilCheck x,k=>match ev G X x with
  |some (.box i o)=>k (.box i o)
  |some (.eptr cs)=>k (.eptr cs)
  |some (.fn f cs)=>k (.fn f cs)
  |_=>False
 |.fieldAddr t x f,k=>oR T t (ev G X x) f k
 |.indexAddr t x i,k=>oQ T X t (ev G X x) (ev G X i) k
 |.load t x,k=>BO T K X t (ev G X x) k
 |.field t x f,k=>DC T X t (ev G X x) f k
 |.binOp op t x y _,k=>QG T op t (ev G X x) (ev G X y) (DF y) k
 |.unOp .not _ x,k=>match ev G X x with
  |some (.d (.s (.bool b)))=>k (.d (.s (.bool !b)))
  |_=>False
 |.unOp .neg _ x,k=>match ev G X x with
  |some (.d (.s (.int ik i)))=>k (.d (.s (.int ik (ik.wrap (0 - i)))))
  |_=>False
 |.convert src dst x,k=>match T src,T dst,ev G X x with
  |some { desc:=.int _,.. },some { desc:=.int jk,.. },some (.d (.s (.int _ i)))=>k (.d (.s (.int jk (jk.wrap i))))
  |some { desc:=.string,.. },some { desc:=.string,.. },some (.d (.s (.string s)))=>k (.d (.s (.string s)))
  |some { desc:=.slice e,.. },some { desc:=.string,.. },some (.d (.sl m xs))=>DH T K e m xs k
  |_,_,_=>False
 |.makeInterface t x,k=>match T t with
  |some { desc:=.iface,.. }=>False
  |none=>False
  |_=>match ev G X x with
   |some (.d x)=>k (.d (.ifc t x))
   |some (.acc _)=>False
   |some p=>k (.ifc t p)
   |none=>False
 |.extract x i,k=>match ev G X x with
  |some (.tup cs)=>match cs[i]? with
   |some p=>k p
   |none=>False
  |_=>False
 |.index t x i,k=>match T t,ev G X x,ev G X i with
  |some { desc:=.string,.. },some (.d (.s (.string s))),some (.d (.s (.int _ i)))=>0<=i/\i<s.size/\k (.d (.s (.int .u8 (byteAt s i))))
  |_,_,_=>False
 |.slice t x lo hi mx,k=>DG T X t (ev G X x) (lo.map (ev G X)) (hi.map (ev G X)) (mx.map (ev G X)) k
 |.lookup t x i ok,k=>y7 T K X t (ev G X x) (ev G X i) ok k
 |.typeAssert x _ t ok,k=>y8 T (ev G X x) t ok k
 |.call c,k=>match c.callee,c.args.toList,c.argTypes.toList with
  |.builtin .len,[x],[t]=>QH T X t (ev G X x) k
  |.builtin .max,[x,y],_=>match ev G X x,ev G X y with
   |some (.d (.s (.int i a))),some (.d (.s (.int _ b)))=>k (.d (.s (.int i (tK a b))))
   |_,_=>False
  |.builtin .max,[x,y,z],_=>match ev G X x,ev G X y,ev G X z with
   |some (.d (.s (.int i a))),some (.d (.s (.int _ b))),some (.d (.s (.int _ c)))=>k (.d (.s (.int i (tK (tK a b) c))))
   |_,_,_=>False
  |_,_,_=>False
 |_,_=>False

section
variable {P:Program}{G:Glob}{D:List Deferred}{N:Nat}{H:Nat->Option Value}{lim:Nat->Nat}{X:St}{a:Act}{w:World}{T:Tab}{K:Option (Nat->Bool)}

theorem add_plain(g j o:Nat):(⟨g,o,none⟩:Addr).add j=⟨g,o+j,none⟩:=by unfold Addr.add;split <;> simp_all

theorem bo(hT:bH P T){t:TypeId}{i:TI}(h:T t=some i):∃d,eX i.desc d/\∀w,(underlying t).run P w=.ok d w:=by
 obtain ⟨⟨d,h1,h2⟩,_⟩:=hT t i h
 exact ⟨d,h2,fun w=>run_underlying h1 w⟩
theorem ft(hT:bH P T){t:TypeId}{i:TI}(h:T t=some i)(w:World):(sizeOf t).run P w=.ok i.size w:=by
 obtain ⟨_,ti,h1,h2,_⟩:=hT t i h
 simp [sizeOf,typeInfo,h1,h2]
theorem xd(hT:bH P T){t:TypeId}{i:TI}(h:T t=some i)(w:World):(isAgg t).run P w=.ok i.desc.agg w:=by
 obtain ⟨d,h1,h2⟩:=bo hT h
 cases hd:i.desc <;> rw [hd] at h1 <;> simp only [eX] at h1
 all_goals
  first
   | (subst h1;simp [isAgg,h2,TK.agg])
   | (obtain ⟨_,rfl,_⟩:=h1;simp [isAgg,h2,TK.agg])
   | (obtain ⟨_,rfl⟩:=h1;simp [isAgg,h2,TK.agg])
   | (obtain ⟨_,_,_,rfl⟩:=h1;simp [isAgg,h2,TK.agg])

def qe(P:Program)(K:Option (Nat->Bool))(a:Act)(w:World)(H:Nat->Option Value)(lim:Nat->Nat)(o:Oper)(p:PV):Prop:=
 ∃v,(∀w1,Agr K H lim w w1->(execOp a.eval o).run P w1=.ok (.value v) w1)/\V H lim w p v

theorem BS{t:TypeId}{kk:Nat}(h:elemOf T t=some kk):∃i e j,T t=some i/\i.desc=.slice e/\T e=some j/\j.size=kk:=by
 unfold elemOf at h
 split at h
 ·rename_i e _ _ _ h1
  split at h
  ·rename_i j h2
   simp only [sI] at h
   exact ⟨_,e,j,h1,rfl,h2,h⟩
  cases h
 cases h
theorem iO{t:TypeId}{f off:Nat}{i:TI}(h:tf T t f=some (off,i)):∃j fs u,T t=some j/\j.desc=.struct fs/\fs[f]? = some (off,u)/\T u=some i:=by
 unfold tf at h
 split at h
 ·rename_i fs _ _ _ h1
  split at h
  ·rename_i S9 u h2
   split at h
   ·rename_i i' h3
    simp only [sI,Prod.mk.injEq] at h
    obtain ⟨rfl,rfl⟩:=h
    exact ⟨_,fs,u,h1,rfl,h2,h3⟩
   cases h
  cases h
 cases h

theorem fW(hT:bH P T){t:TypeId}{kk:Nat}(h:elemOf T t=some kk){b o n c:Nat}{ik:IntKind}{i:Int}(h0:0<=i)(h1:i<n)(w:World):
  (Instr.indexAt t (.slice (some ⟨b,o,none⟩) n c) (.int ik i)).run P w=.ok (.pointer (some ⟨b,o+i.toNat * kk,none⟩)) w:=by
 obtain ⟨ti,e,j,h2,h3,h4,h5⟩:=BS h
 obtain ⟨d,hd,hu⟩:=bo hT h2
 rw [h3] at hd
 simp only [eX] at hd
 subst hd
 have hs:=ft hT h4 w
 rw [h5] at hs
 simp [Instr.indexAt,asIntOf,hu,hs,h0,h1,add_plain]

theorem mT{b:Nat}:∀(ds:List Data) (o:Nat) (zs:List Value),VDs lim w ds zs->(∀d,d∈ds->d_ d=true)->(∀j v,zs[j]? = some v->w.cell? ⟨b,o+j,none⟩=some v/\o+j<lim b)->VCells lim w b o ds
 |[],_,_,_,_,_=>by simp only [VCells]
 |c::cs,o,zs,h,hf,hz=>by
  simp only [VDs] at h
  obtain ⟨u,us,rfl,h1,h2⟩:=h
  simp only [VCells]
  obtain ⟨q1,q2⟩:=hz 0 u rfl
  refine ⟨⟨u,q1,q2,hf c (List.mem_cons_self ..),h1⟩,mT cs (o+1) us h2 (fun d hd=>hf d (List.mem_cons_of_mem _ hd)) fun j v hj=>?_⟩
  have:=hz (j+1) v hj
  rw [show o+(j+1)=o+1+j from by omega] at this
  exact this
theorem GX{ds es:List Data}{zs:List Value}(h:VDs lim w (ds++es) zs):VDs lim w ds (zs.take ds.length)/\VDs lim w es (zs.drop ds.length):=by
 have h1:=BM h ds.length
 have h2:=BL h ds.length
 rw [List.take_left] at h1
 rw [List.drop_left] at h2
 exact ⟨h1,h2⟩
theorem y_{b k:Nat}:∀(xs:List (List Data)) (o:Nat) (zs:List Value),VDs lim w xs.flatten zs->(∀x,x∈xs->x.length=k/\∀d,d∈x->d_ d=true)->(∀j v,zs[j]? = some v->w.cell? ⟨b,o+j,none⟩=some v/\o+j<lim b)->VRow lim w b k o xs
 |[],_,_,_,_,_=>by simp only [VRow]
 |x::xs,o,zs,h,hk,hz=>by
  simp only [List.flatten_cons] at h
  obtain ⟨h1,h2⟩:=GX h
  have hx:x.length=k:=(hk x (List.mem_cons_self ..)).1
  simp only [VRow]
  refine ⟨hx,mT x o _ h1 (hk x (List.mem_cons_self ..)).2 fun j v hj=>?_,y_ xs (o+k) _ h2 (fun y hy=>hk y (List.mem_cons_of_mem _ hy)) fun j v hj=>?_⟩
  ·exact hz j v (by rw [List.getElem?_take] at hj;split at hj <;> simp_all)
  have:=hz (x.length+j) v (by rw [List.getElem?_drop] at hj;exact hj)
  rw [hx,show o+(k+j)=o+k+j from by omega] at this
  exact this
theorem gg{id:Nat}{e:TypeId}{k:Nat}{xs:List (List Data)}(h:RowOk H lim w id (.acc e k xs)):∃u,H id=some u/\VD lim w (.sl k xs) u:=by
 obtain ⟨u,zs,hu,⟨hl,ho⟩,hz,hk,sP,sQ⟩:=h
 refine ⟨u,hu,?_⟩
 simp only [VD]
 rcases ho with ⟨hv,hn⟩|⟨g,cap,po,hv,_,hh,Le,N5,eV,ht⟩
 ·rw [hv]
  exact ⟨none,0,0,rfl,hn.symm,nR _,by simp [maxLen],fun q=>absurd rfl q⟩
 rw [hv]
 refine ⟨_,_,cap,rfl,rfl,Le,N5,fun _=>⟨g,0,rfl,y_ xs 0 zs hz hk fun j v hj=>?_⟩⟩
 have hg:lim g=xs.length * k:=sQ g (by rw [hv];rfl)
 have L':j<zs.length:=(List.getElem?_eq_some_iff.1 hj).1
 rw [hg,Nat.zero_add]
 refine ⟨?_,by omega⟩
 rw [<- ht,List.getElem?_take] at hj
 split at hj
 ·simp only [World.cell?,hh]
  simpa using hj
 cases hj
theorem mv(hR:Rep D G N H lim X a w){id:Nat}{r:Row}(h:X.rows[id]? = some r):RowOk H lim w id r:=hR.rows.row id r h

theorem uN(hT:bH P T){t:TypeId}{kk:Nat}(he:elemOf T t=some kk){xs:List (List Data)}{v:Value}(hv:VD lim w (.sl kk xs) v){i:Int}(h0:0<=i){cs:List Data}(hc:xs[i.toNat]? = some cs)(ik:IntKind):
  ∃u,(∀w,(Instr.indexAt t v (.int ik i)).run P w=.ok u w)/\V H lim w (.eptr cs) u:=by
 simp only [VD] at hv
 obtain ⟨A,n,c,rfl,hn,_,_,pW⟩:=hv
 have hlt:i.toNat<xs.length:=(List.getElem?_eq_some_iff.1 hc).1
 obtain ⟨b,off,rfl,hr⟩:=pW (by omega)
 refine ⟨_,fun w=>fW hT he h0 (show i<(n:Int) by omega) w,?_⟩
 simp only [V]
 exact ⟨b,_,rfl,(JL hr hc).2⟩

theorem DI{fz:Bool}:∀ {es:List (BA×List Int)}{i:Nat}{ms:List MapEntry}{hs:List Value}{j:Nat}{s:BA}{l:List Int},AE lim w fz i es ms hs->es[j]? = some (s,l)->
  ∃c ty cap,hs[j]? = some (.slice (some ⟨c,0,none⟩) l.length cap)/\(l.length<=cap/\cap<=maxLen)/\w.heap[c]? = some (.cells (l.map (Value.int .i64)).toArray ty (0,0))/\lim c=(match fz with|true=>l.length|false=>0)
 |[],_,_,_,_,_,_,_,h=>by cases h
 | (k,l')::r,i,ms,hs,0,s,l,h,hj=>by
  simp only [List.getElem?_cons_zero,sI,Prod.mk.injEq] at hj
  obtain ⟨rfl,rfl⟩:=hj
  obtain ⟨e,ms',c,ty,yd,cap,rfl,rfl,_,_,h3,h4,h5,h6,_⟩:=h
  exact ⟨c,ty,cap,by rw [List.getElem?_cons_zero,h3],h4,h5,h6⟩
 | (k,l')::r,i,ms,hs,j+1,s,l,h,hj=>by
  obtain ⟨e,ms',c,ty,yd,cap,rfl,rfl,_,_,_,_,_,_,h7⟩:=h
  rw [List.getElem?_cons_succ] at hj ⊢
  exact DI h7 hj
theorem tI{fz:Bool}:∀ {ks:List (Nat×Nat)}{ls:List (List Int)}{j:Nat}{q:Nat×Nat},KR lim w fz ks ls->ks[j]? = some q->∃l,ls[j]? = some l/\l.length=q.2/\q.2<=maxLen/\(∃ty,w.heap[q.1]? = some (.cells (l.map (Value.int .i64)).toArray ty (0,0)))/\lim q.1=(match fz with|true=>q.2|false=>0)
 |[],_,_,_,_,h=>by cases h
 |k::ks,ls,0,q,h,hj=>by
  obtain ⟨l,r,rfl,h1,h2,h3,h4,_⟩:=h
  simp only [List.getElem?_cons_zero,sI] at hj
  subst hj
  exact ⟨l,rfl,h1,h2,h3,h4⟩
 |k::ks,ls,j+1,q,h,hj=>by
  obtain ⟨l,r,rfl,_,_,_,_,h5⟩:=h
  obtain ⟨l',g1,g2⟩:=tI (j:=j) (q:=q) h5 (by simpa only [List.getElem?_cons_succ] using hj)
  exact ⟨l',by simpa only [List.getElem?_cons_succ] using g1,g2⟩
theorem jJ{ks:List (Nat×Nat)}{b:Nat}:JJ (lu (ks.map kv)) b↔b∈ks.map (·.1):=by
 constructor
 ·rintro ⟨v,hv,hb⟩
  obtain ⟨q,hq,rfl⟩:=List.mem_map.1 (show v∈ks.map kv by simpa using hv)
  cases hb
  exact List.mem_map.2 ⟨q,hq,rfl⟩
 intro h
 obtain ⟨q,hq,rfl⟩:=List.mem_map.1 h
 exact ⟨kv q,(List.mem_map.2 ⟨q,hq,rfl⟩:kv q∈ks.map kv),rfl⟩
theorem qf(hR:RowsOk H lim w X.rows){id j:Nat}{t:TypeId}{fz:Bool}{es:List (BA×List Int)}{v:Value}{s:BA}{l:List Int}(hr:X.rows[id]? = some (.amap t fz es))(hv:V H lim w (.am id (j+1)) v)(hj:es[j]? = some (s,l)):
  ∃(c:Nat) (ty:TypeId) (vs:List Value) (cap:Nat),v=.slice (some ⟨c,0,none⟩) l.length cap/\H id=some (lu vs)/\vs[j+1]? = some v/\(l.length<=cap/\cap<=maxLen)/\w.heap[c]? = some (.cells (l.map (Value.int .i64)).toArray ty (0,0))/\lim c=(match fz with|true=>l.length|false=>0):=by
 obtain ⟨b,ms,hs,h1,_,h3,_⟩:=hR.row id _ hr
 simp only [V] at hv
 obtain ⟨vs,q1,q2⟩:=hv
 rw [h1] at q1
 have q1:Value.map (some b)::hs=vs:=kC (Option.some.inj q1)
 obtain ⟨c,ty,cap,g1,g2,g3,g4⟩:=DI h3 hj
 rw [<- q1,List.getElem?_cons_succ,g1] at q2
 cases q2
 exact ⟨c,ty,_,cap,rfl,h1,by rw [List.getElem?_cons_succ];exact g1,g2,g3,g4⟩
theorem Ih(hR:RowsOk H lim w X.rows){id:Nat}{t:TypeId}{fz:Bool}{es:List (BA×List Int)}{v:Value}(hr:X.rows[id]? = some (.amap t fz es))(hv:V H lim w (.am id 0) v):
  ∃(b:Nat) (ms:Array MapEntry) (hs:List Value),v=.map (some b)/\H id=some (lu (Value.map (some b)::hs))/\w.heap[b]? = some (.map ms es.length)/\AE lim w fz 0 es ms.toList hs/\lim b=0/\(b::hs.filterMap blk).Nodup:=by
 obtain ⟨b,ms,hs,h1,h2,h3,h4,h5⟩:=hR.row id _ hr
 simp only [V] at hv
 obtain ⟨vs,q1,q2⟩:=hv
 rw [h1] at q1
 have q1:Value.map (some b)::hs=vs:=kC (Option.some.inj q1)
 rw [<- q1,List.getElem?_cons_zero] at q2
 cases q2
 exact ⟨b,ms,hs,rfl,h1,h2,h3,h4,h5⟩
theorem mV{vs:List Value}{j:Nat}{v:Value}{b:Nat}(h:vs[j]? = some v)(hb:blk v=some b):JJ (lu vs) b:=⟨v,by simpa using List.mem_of_getElem? h,hb⟩
theorem ru (hT:bH P T) (hR:Rep D G N H lim X a w) {o:Oper}{t:TypeId}{x i:Operand}{k:PV->Prop}(ho:o.op=.indexAddr t x i)
  (h:oQ T X t (ev G X x) (ev G X i) k):∃p,qe P K a w H lim o p/\k p:=by
 unfold oQ at h
 split at h
 ·rename_i kk k' xs ik i' he hx hi
  split at h
  case h_2=>exact h.elim
  rename_i hb
  have:=Nat.eq_of_beq_eq_true hb
  subst this
  obtain ⟨h0,cs,hc,hk⟩:=h
  have vx:=aw hR hx
  have vi:=aw hR hi
  simp only [V,VD.eq_1] at vx vi
  obtain ⟨u,h1,h2⟩:=uN (H:=H) hT he vx h0 hc ik
  exact ⟨_,⟨u,fun _ _=>by simp [execOp,ho,vi,h1],h2⟩,hk⟩
 ·rename_i kk id ik i' he hx hi
  split at h
  ·rename_i e' k' xs CF
   split at h
   case h_2=>exact h.elim
   rename_i hb
   have:=Nat.eq_of_beq_eq_true hb
   subst this
   obtain ⟨h0,cs,hc,hk⟩:=h
   have vx:=aw hR hx
   have vi:=aw hR hi
   simp only [V,VD.eq_1] at vx vi
   obtain ⟨hv,hh,VN⟩:=gg (mv hR CF)
   rw [vx] at hh
   cases hh
   obtain ⟨u,h1,h2⟩:=uN (H:=H) hT he VN h0 hc ik
   exact ⟨_,⟨u,fun _ _=>by simp [execOp,ho,vi,h1],h2⟩,hk⟩
  exact h.elim
 ·rename_i kk id off fN ik i' he hx hi
  obtain ⟨h0,h1,hk⟩:=h
  have vx:=aw hR hx
  have vi:=aw hR hi
  simp only [V,VD] at vx vi
  obtain ⟨b,cap,hH,hv,_,_⟩:=vx
  refine ⟨_,⟨.pointer (some ⟨b,off+i'.toNat * kk,none⟩),?_,?_⟩,hk⟩
  ·intro w1 _;simp [execOp,ho,hv,vi,fW hT he h0 (show i'<(fN:Int) by omega)]
  simp only [V];exact ⟨b,hH,rfl⟩
 ·rename_i kk id j ik i' he hx hi
  split at h
  ·rename_i t' fz es hb CF
   have e1:=Nat.eq_of_beq_eq_true hb
   subst e1
   obtain ⟨h0,s,l,hj,h1,hk⟩:=h
   have vi:=aw hR hi
   simp only [V,VD.eq_1] at vi
   obtain ⟨c,ty,vs,cap,hv,hH,JO,_⟩:=qf hR.rows CF (aw hR hx) hj
   rw [hv] at JO
   refine ⟨_,⟨.pointer (some ⟨c,0+i'.toNat * 1,none⟩),?_,?_⟩,hk⟩
   ·intro w1 _;simp only [execOp,ho,hv,vi];rw [Sem.run_bind,fW hT he h0 h1];rfl
   simp only [V];exact ⟨vs,c,l.length,cap,hH,JO,by simp⟩
  exact h.elim
 ·rename_i kk b n cc ik i' he hx hi
  split at h
  case h_2=>exact h.elim
  rename_i hb
  have e1:=Nat.eq_of_beq_eq_true hb
  subst e1
  obtain ⟨h0,h1,hk⟩:=h
  have vx:=aw hR hx
  have vi:=aw hR hi
  simp only [V,VD.eq_1] at vx vi
  refine ⟨_,⟨.pointer (some ⟨b,0+i'.toNat * 1,none⟩),?_,by simp [V,VD.eq_1]⟩,hk⟩
  intro w1 _;simp only [execOp,ho,vx,vi];rw [Sem.run_bind,fW hT he h0 h1];rfl
 exact h.elim
end
end
section
section
variable {P:Program}{G:Glob}{D:List Deferred}{N:Nat}{H:Nat->Option Value}{lim:Nat->Nat}{X:St}{a:Act}{w:World}{T:Tab}{K:Option (Nat->Bool)}

theorem JP(hR:RowsOk H lim w X.rows):(∀id i v,Om X.rows id=.to i->H id=some v->H i=some v)/\(∀id x v,Om X.rows id=.data x->H id=some v->VD lim w x v):=by
 constructor
 ·intro id i v h hv
  unfold Om at h
  split at h
  ·cases h
  ·simp only [Sb.to.injEq] at h;subst h;exact hv
  ·simp only [Sb.to.injEq] at h;subst h;exact hv
  ·simp only [Sb.to.injEq] at h;subst h;exact hv
  ·simp only [Sb.to.injEq] at h;subst h;exact hv
  ·simp only [Sb.to.injEq] at h;subst h;exact hv
  cases h
 intro id x v h hv
 unfold Om at h
 split at h
 ·rename_i e k xs hr
  simp only [Sb.data.injEq] at h
  subst h
  obtain ⟨u,hu,js⟩:=gg (hR.row id _ hr)
  rw [hv] at hu
  cases hu
  exact js
 ·cases h
 ·cases h
 ·cases h
 ·cases h
 ·cases h
 cases h
theorem JQ(hR:RowsOk H lim w X.rows){ps qs:List PV}{vs:List Value}(h:PV.subs (Om X.rows) ps=some qs)(hv:Vs H lim w ps vs):Vs H lim w qs vs:=
 Vs.sub (Fr.refl (fun _=>False) lim w) (JP hR).1 (JP hR).2 ps qs vs h hv

theorem gh(hT:bH P T){t:TypeId}{i:TI}(h:T t=some i)(ad:Addr)(w:World):
  (loadVar t ad).run P w=match i.desc.agg with
   |true=>(do pure (Value.agg (<- loadCells ad i.size)):Sem Value).run P w
   |false=>(load ad).run P w:=by
 have h1:=xd hT h w
 have h2:=ft hT h w
 cases hd:i.desc.agg <;> rw [hd] at h1
 ·simp [loadVar,h1]
 simp [loadVar,h1,h2]

theorem za{b ty:Nat}{cs:List Value}(h:w.heap[b]? = some (.cells cs.toArray ty (0,0))):∀(n off i:Nat) (acc:Array Value),off+i+n<=cs.length->
  (loadCellsFrom ⟨b,off,none⟩ i n acc).run P w=.ok (acc++((cs.drop (off+i)).take n).toArray) w:=by
 intro n
 induction n with
 |zero=>intro off i acc _;simp [loadCellsFrom]
 |succ n ih=>
  intro off i acc hl
  have hlt:off+i<cs.length:=by omega
  have VM:(load ((⟨b,off,none⟩:Addr).add i)).run P w=.ok cs[off+i] w:=by
   rw [add_plain]
   simp [load,Sem.run,World.cell?,h,List.getElem?_eq_getElem hlt]
  simp only [loadCellsFrom,Sem.run_bind,VM,Result.andThen]
  rw [ih off (i+1) (acc.push cs[off+i]) (by omega)]
  rw [List.drop_eq_getElem_cons hlt,List.take_succ_cons]
  simp [Nat.add_assoc]

theorem sk (hT:bH P T) (hR:Rep D G N H lim X a w) {o:Oper}{t:TypeId}{x:Operand}{k:PV->Prop}(ho:o.op=.load t x)
  (h:BO T K X t (ev G X x) k):∃p,qe P K a w H lim o p/\k p:=by
 unfold BO at h
 cases K with
 |none=>exact h.elim
 |some K=>
 simp only at h
 unfold DB at h
 split at h
 ·rename_i i cs hi hx
  have vx:=aw hR hx
  simp only [V] at vx
  obtain ⟨b,off,hv,hc⟩:=vx
  have fo:∀w,(execOp a.eval o).run P w=((loadVar t ⟨b,off,none⟩).run P w).andThen fun v w=>.ok (.value v) w:=by
   intro w;simp [execOp,ho,hv,Instr.loadAt,Instr.sureAddr]
  split at h
  ·rename_i hd
   split at h
   case h_2=>exact h.elim
   rename_i mY
   have hl:=Nat.le_of_ble_eq_true mY
   have hk:=h
   obtain ⟨vs,eq,hr⟩:=xc (P:=P) (BN hc i.size)
   have js:=fun w1 (hA:Agr (some K) H lim w w1)=>hr K H w1 hA 0 #[] off rfl
   simp only [List.length_take,Nat.min_eq_left hl] at js
   refine ⟨_,⟨.agg vs.toArray,?_,?_⟩,hk⟩
   ·intro w1 hA
    rw [fo,gh hT hi,hd]
    simp [loadCells,js w1 hA,Result.andThen]
   simp only [V,VD];exact ⟨vs,rfl,eq⟩
  rename_i hd
  split at h
  ·rename_i c cs'
   simp only [VCells] at hc
   obtain ⟨⟨v,h1,h2,_,h3⟩,_⟩:=hc
   refine ⟨_,⟨v,?_,?_⟩,h⟩
   ·intro w1 hA
    rw [fo,gh hT hi,hd]
    simp [load,Sem.run,hA.cell h1 h2,Result.andThen]
   simpa only [V] using h3
  exact h.elim
 ·rename_i i id off hi hx
  have vx:=aw hR hx
  simp only [V] at vx
  obtain ⟨b,hH,hv⟩:=vx
  have fo:∀w,(execOp a.eval o).run P w=((loadVar t ⟨b,off,none⟩).run P w).andThen fun v w=>.ok (.value v) w:=by
   intro w;simp [execOp,ho,hv,Instr.loadAt,Instr.sureAddr]
  split at h
  ·rename_i ty cells hK CF
   obtain ⟨b',cs,Ii,hb,eV,_⟩:=mv hR CF
   rw [hH] at Ii
   simp only [sI,Value.pointer.injEq,Addr.mk.injEq,and_true] at Ii
   subst Ii
   have bZ:=dA eV
   split at h
   ·rename_i hd
    split at h
    ·rename_i qs mY hq
     have hl:=Nat.le_of_ble_eq_true mY
     refine ⟨_,⟨.agg ((cs.drop off).take i.size).toArray,?_,yZ (JQ hR.rows hq (y5 (y0 eV off) i.size))⟩,h⟩
     intro w1 hA
     rw [fo,gh hT hi,hd]
     have:=za (P:=P) ((hA.2 _ _ b hK hH rfl rfl).trans hb) i.size off 0 #[] (by omega)
     simp [loadCells,this,Result.andThen]
    exact h.elim
   rename_i hd
   split at h
   ·rename_i p hp
    obtain ⟨v,Gi,yf⟩:=kG eV hp
    refine ⟨_,⟨v,?_,yf⟩,h⟩
    intro w1 hA
    rw [fo,gh hT hi,hd]
    have lr:=(hA.2 _ _ b hK hH rfl rfl).trans hb
    simp [load,Sem.run,World.cell?,lr,Gi,Result.andThen]
   exact h.elim
  exact h.elim
 ·rename_i i id j off hi hx
  have vx:=aw hR hx
  simp only [V] at vx
  obtain ⟨vs,b,n,c,hH,JO,hv⟩:=vx
  have fo:∀w,(execOp a.eval o).run P w=((loadVar t ⟨b,off,none⟩).run P w).andThen fun v w=>.ok (.value v) w:=by
   intro w;simp [execOp,ho,hv,Instr.loadAt,Instr.sureAddr]
  split at h
  ·rename_i t' fz es hK CF hd
   obtain ⟨s,l,m,hj,hm,hk⟩:=h
   obtain ⟨b',ty,vs',cap,e1,e2,_,_,e4,_⟩:=qf hR.rows CF (by simp only [V];exact ⟨vs,hH,JO⟩) hj
   simp only [Value.slice.injEq,sI,Addr.mk.injEq,and_true] at e1
   obtain ⟨rfl,_⟩:=e1
   refine ⟨_,⟨.int .i64 m,?_,by simp only [V,VD]⟩,hk⟩
   intro w1 hA
   rw [fo,gh hT hi,hd]
   have lr:=(hA.2 id _ b hK hH rfl (mV JO rfl)).trans e4
   simp [load,Sem.run,World.cell?,lr,hm,Result.andThen]
  exact h.elim
 ·rename_i i b off hi hx
  obtain ⟨hd,id,fz,ks,ls,j,n,l,m,hK,CF,Xq,Vd,hm,hk⟩:=h
  have vx:=aw hR hx
  simp only [V,VD.eq_1] at vx
  obtain ⟨h1,h2,h3⟩:=mv hR CF
  obtain ⟨l',e1,e2,_,⟨ty,e3⟩,_⟩:=tI h2 Xq
  rw [Vd] at e1
  cases e1
  refine ⟨_,⟨.int .i64 m,?_,by simp only [V,VD]⟩,hk⟩
  intro w1 hA
  have fo:(execOp a.eval o).run P w1=((loadVar t ⟨b,off,none⟩).run P w1).andThen fun v w=>.ok (.value v) w:=by
   simp [execOp,ho,vx,Instr.loadAt,Instr.sureAddr]
  rw [fo,gh hT hi,hd]
  have lr:=(hA.2 id _ b hK h1 rfl (jJ.2 (List.mem_map.2 ⟨(b,n),List.mem_of_getElem? Xq,rfl⟩))).trans e3
  simp [load,Sem.run,World.cell?,lr,hm,Result.andThen]
 exact h.elim

theorem qg(hT:bH P T){t:TypeId}{i:TI}(h:T t=some i)(cs:Array Value)(off:Nat)(w:World):
  (part t cs off).run P w=match i.desc.agg with
   |true=>.ok (.agg (cs.extract off (off+i.size))) w
   |false=>(match cs[off]? with|some v=>pure v|none=>stuck "part: no such cell" : Sem Value).run P w:=by
 have h1:=xd hT h w
 have h2:=ft hT h w
 cases hd:i.desc.agg <;> rw [hd] at h1
 ·simp only [part,Sem.run_bind,h1,Result.andThen]
  cases cs[off]? <;> rfl
 simp [part,h1,h2]

theorem qh{j:TI}{t:TypeId}{fs:List (Nat×TypeId)}{f off:Nat}{u:TypeId}(hT:bH P T)(h1:T t=some j)(h2:j.desc=.struct fs)(h3:fs[f]? = some (off,u)):
  ∃fa fd,(∀w,(underlying t).run P w=.ok (.struct fa) w)/\fa[f]? = some fd/\fd.offset=off/\fd.type=u:=by
 obtain ⟨d,hd,hu⟩:=bo hT h1
 rw [h2] at hd
 simp only [eX] at hd
 obtain ⟨fa,rfl,VO⟩:=hd
 rw [<- VO,List.getElem?_map,Array.getElem?_toList] at h3
 obtain ⟨fd,MU,he⟩:=Option.map_eq_some_iff.1 h3
 simp only [Prod.mk.injEq] at he
 exact ⟨fa,fd,hu,MU,he.1,he.2⟩

theorem zb (hT:bH P T) (hR:Rep D G N H lim X a w) {o:Oper}{t:TypeId}{x:Operand}{f:Nat}{k:PV->Prop}(ho:o.op=.field t x f)
  (h:DC T X t (ev G X x) f k):∃p,qe P K a w H lim o p/\k p:=by
 unfold DC at h
 split at h
 ·rename_i off i cs hf hx
  obtain ⟨j,fs,u,h1,h2,h3,h4⟩:=iO hf
  obtain ⟨fa,fd,hu,MU,uO,Ln⟩:=qh hT h1 h2 h3
  have vx:=aw hR hx
  simp only [V,VD] at vx
  obtain ⟨vs,hv,eq⟩:=vx
  have bZ:=uK eq
  have fo:∀w,(execOp a.eval o).run P w=((part u vs.toArray off).run P w).andThen fun v w=>.ok (.value v) w:=by
   intro w;simp [execOp,ho,hv,Instr.field,hu,MU,asAgg,uO,Ln]
  split at h
  ·rename_i hd
   split at h
   case h_2=>exact h.elim
   refine ⟨_,⟨.agg ((vs.drop off).take i.size).toArray,?_,?_⟩,h⟩
   ·intro w1 _;rw [fo,qg hT h4,hd]
    simp [Result.andThen,List.extract_eq_take_drop]
   simp only [V,VD];exact ⟨_,rfl,BM (BL eq off) _⟩
  rename_i hd
  split at h
  ·rename_i c hc
   obtain ⟨v,Gi,yf⟩:=MR eq hc
   refine ⟨_,⟨v,?_,by simpa only [V] using yf⟩,h⟩
   intro w1 _;rw [fo,qg hT h4,hd]
   simp [Gi,Result.andThen]
  exact h.elim
 ·rename_i off i cs hf hx
  obtain ⟨j,fs,u,h1,h2,h3,h4⟩:=iO hf
  obtain ⟨fa,fd,hu,MU,uO,Ln⟩:=qh hT h1 h2 h3
  have vx:=aw hR hx
  simp only [V] at vx
  obtain ⟨vs,hv,eq⟩:=vx
  have bZ:=dA eq
  have fo:∀w,(execOp a.eval o).run P w=((part u vs.toArray off).run P w).andThen fun v w=>.ok (.value v) w:=by
   intro w;simp [execOp,ho,hv,Instr.field,hu,MU,asAgg,uO,Ln]
  split at h
  ·rename_i hd
   split at h
   ·rename_i qs _ hq
    refine ⟨_,⟨.agg ((vs.drop off).take i.size).toArray,?_,yZ (JQ hR.rows hq (y5 (y0 eq off) i.size))⟩,h⟩
    intro w1 _;rw [fo,qg hT h4,hd]
    simp [Result.andThen,List.extract_eq_take_drop]
   exact h.elim
  rename_i hd
  split at h
  ·rename_i c hc
   obtain ⟨v,Gi,yf⟩:=kG eq hc
   refine ⟨_,⟨v,?_,yf⟩,h⟩
   intro w1 _;rw [fo,qg hT h4,hd]
   simp [Gi,Result.andThen]
  exact h.elim
 exact h.elim

theorem rv (hT:bH P T) (hR:Rep D G N H lim X a w) {o:Oper}{t:TypeId}{x:Operand}{f:Nat}{k:PV->Prop}(ho:o.op=.fieldAddr t x f)
  (h:oR T t (ev G X x) f k):∃p,qe P K a w H lim o p/\k p:=by
 unfold oR at h
 split at h
 ·rename_i off i id S9 hf hx
  obtain ⟨j,fs,u,h1,h2,h3,h4⟩:=iO hf
  obtain ⟨fa,fd,hu,MU,uO,Ln⟩:=qh hT h1 h2 h3
  have hs:=ft hT h4
  have vx:=aw hR hx
  simp only [V] at vx
  obtain ⟨b,hH,hv⟩:=vx
  split at h
  case h_1=>exact h.elim
  rename_i hz
  have QI:i.size≠0:=fun e=>by rw [e] at hz;cases hz
  refine ⟨_,⟨.pointer (some ⟨b,S9+off,none⟩),?_,by simp only [V];exact ⟨b,hH,rfl⟩⟩,h⟩
  intro w1 _;simp [execOp,ho,hv,Instr.fieldAt,hu,MU,Instr.sureAddr,fieldPlace,Ln,hs,QI,uO,add_plain]
 ·rename_i off i cs hf hx
  obtain ⟨j,fs,u,h1,h2,h3,h4⟩:=iO hf
  obtain ⟨fa,fd,hu,MU,uO,Ln⟩:=qh hT h1 h2 h3
  have hs:=ft hT h4
  have vx:=aw hR hx
  simp only [V] at vx
  obtain ⟨b,o',hv,hc⟩:=vx
  split at h
  case h_1=>exact h.elim
  rename_i hz
  have QI:i.size≠0:=fun e=>by rw [e] at hz;cases hz
  refine ⟨_,⟨.pointer (some ⟨b,o'+off,none⟩),?_,by simp only [V];exact ⟨b,_,rfl,sj hc off⟩⟩,h⟩
  intro w1 _;simp [execOp,ho,hv,Instr.fieldAt,hu,MU,Instr.sureAddr,fieldPlace,Ln,hs,QI,uO,add_plain]
 exact h.elim
end
end
section
section
variable {P:Program}{G:Glob}{D:List Deferred}{N:Nat}{H:Nat->Option Value}{lim:Nat->Nat}{X:St}{a:Act}{w:World}{T:Tab}{K:Option (Nat->Bool)}

theorem mW(v:Value):V H lim w (.d (.s v)) v:=by simp only [V,VD]
theorem zc{op:BinOp}{ik:IntKind}{x y:Int}{k:PV->Prop}(h:DD op ik x y k)(t:TypeId):
    ∃p v,(∀w,(binOp op t (.int ik x) (.int ik y)).run P w=.ok v w)/\V H lim w p v/\k p:=by
  cases op <;> simp only [DD] at h
  all_goals first
    |exact ⟨_,_,fun _=>by simp [binOp,Op.intArith,Op.intCmp],mW _,h⟩
    |exact ⟨_,_,fun _=>by simp [binOp,Op.intDiv,h.1],mW _,h.2⟩
theorem zd{op:BinOp}{x y:BA}{k:PV->Prop}(h:DE op x y k)(t:TypeId):
    ∃p v,(∀w,(binOp op t (.string x) (.string y)).run P w=.ok v w)/\V H lim w p v/\k p:=by
  cases op <;> simp only [DE] at h
  all_goals first
    |exact ⟨_,_,fun _=>by simp [binOp,Op.stringOp],mW _,h⟩
    | (refine ⟨_,_,?_,mW _,h.2⟩
       intro w
       have h1:¬(((x.size+y.size:Nat):Int)>IntKind.i64.max):=by
         have e:IntKind.i64.max=9223372036854775807:=by decide
         rw [e];omega
       simp only [binOp,Op.stringOp,if_neg h1,Sem.run_pure])
theorem BT{p:PV}{v:Value}(h:uL p=true)(hv:V H lim w p v):v=.nilIface:=by
  unfold uL at h
  split at h
  · simpa only [V,VD] using hv
  cases h
theorem Fy{p:PV}{v:Value}(h:BP p=true)(hv:V H lim w p v):∃t u,v=.iface t u:=by
  unfold BP at h
  split at h
  · simp only [V,VD] at hv;obtain ⟨u,rfl,_⟩:=hv;exact ⟨_,u,rfl⟩
  · simp only [V] at hv;obtain ⟨u,rfl,_⟩:=hv;exact ⟨_,u,rfl⟩
  · simp only [V,VD] at hv;exact ⟨_,_,hv⟩
  cases h
theorem BU(hT:bH P T){t:TypeId}(h:y6 T t=true)(w:World):(underlying t).run P w=.ok .bool w:=by
  unfold y6 at h
  split at h
  · rename_i hd
    obtain ⟨d,jo,hu⟩:=bo hT hd
    simp only [eX] at jo
    subst jo
    exact hu w
  cases h
theorem ze(hT:bH P T){t:TypeId}(h:uM T t=true):∃ms,∀w,(underlying t).run P w=.ok (.interface ms) w:=by
  unfold uM at h
  split at h
  · rename_i hd
    obtain ⟨d,jo,hu⟩:=bo hT hd
    simp only [eX] at jo
    obtain ⟨ms,rfl⟩:=jo
    exact ⟨ms,hu⟩
  cases h
theorem GY(hT:bH P T){t:TypeId}(h:Fv T t=true):∃e,∀w,(underlying t).run P w=.ok (.slice e) w:=by
  unfold Fv at h
  split at h
  · rename_i hd
    obtain ⟨d,jo,hu⟩:=bo hT hd
    simp only [eX] at jo
    subst jo
    exact ⟨_,hu⟩
  cases h
theorem DJ(d:Nat){t e:TypeId}(hu:∀w,(underlying t).run P w=.ok (.slice e) w)(A:Option Addr)(n c:Nat)(w:World):(Op.equalIn (d+1) t (.slice A n c) (.slice none 0 0)).run P w=.ok A.isNone w:=by
  cases A <;> simp [Op.equalIn,Sem.run_bind,hu,Result.andThen,Sem.run_pure]
theorem JR{t e:TypeId}(hu:∀w,(underlying t).run P w=.ok (.slice e) w)(A:Option Addr)(n c:Nat)(w:World):(Op.equal t (.slice A n c) (.slice none 0 0)).run P w=.ok A.isNone w:=DJ 9999 hu A n c w
theorem MV{p:PV}{u:Value}(hs:QF p=true)(h:V H lim w p u):∃A n c,u=.slice A n c/\ua p A.isNone:=by
  unfold QF at hs
  split at hs
  · simp only [V,VD] at h
    exact ⟨_,_,_,h,rfl⟩
  · simp only [V,VD] at h
    obtain ⟨A,n,c,rfl,hn,_,_,hr⟩:=h
    refine ⟨_,_,_,rfl,fun hx=>?_⟩
    obtain ⟨b,o,rfl,_⟩:=hr (by intro q;rw [q] at hn;exact hx (lE hn.symm))
    rfl
  · simp only [V] at h
    obtain ⟨b,cap,_,rfl,_⟩:=h
    exact ⟨_,_,_,rfl,rfl⟩
  cases hs
theorem zf{op:BinOp}{t:TypeId}{x y:Operand}{u v:Value}(h:(∀cs ds,u=.agg cs->v=.agg ds->False)/\(u=.nilIface->v=.nilIface->(∃q,x=.const q)\/∃q,y=.const q))(w:World):
    (eqGuard op t x y u v).run P w=.ok () w:=by
  unfold eqGuard
  cases op
  case eql|neq=>
    simp only [Bool.not_true,Bool.false_eq_true,if_false]
    split
    · obtain ⟨q,rfl⟩|⟨q,rfl⟩:=h.2 rfl rfl <;> simp
    · exact (h.1 _ _ rfl rfl).elim
    simp
  all_goals simp
theorem zg(d:Nat){t:TypeId}(hu:∀w,(underlying t).run P w=.ok .bool w)(s u:Bool)(w:World):(Op.equalIn (d+1) t (.bool s) (.bool u)).run P w=.ok (s==u) w:=by
  simp only [Op.equalIn,Sem.run_bind,hu,Result.andThen,Sem.run_pure]
theorem zh(d:Nat){t:TypeId}{ms:Array (String×TypeId)}(hu:∀w,(underlying t).run P w=.ok (.interface ms) w)(w:World):(Op.equalIn (d+1) t .nilIface .nilIface).run P w=.ok true w:=by
  simp only [Op.equalIn,Sem.run_bind,hu,Result.andThen,Sem.run_pure]
theorem zi(d:Nat){t:TypeId}{ms:Array (String×TypeId)}(hu:∀w,(underlying t).run P w=.ok (.interface ms) w)(tt:TypeId)(v:Value)(w:World):(Op.equalIn (d+1) t (.iface tt v) .nilIface).run P w=.ok false w:=by
  simp only [Op.equalIn,Sem.run_bind,hu,Result.andThen,Sem.run_pure]
theorem DK{t:TypeId}(hu:∀w,(underlying t).run P w=.ok .bool w)(s u:Bool)(w:World):(Op.equal t (.bool s) (.bool u)).run P w=.ok (s==u) w:=zg 9999 hu s u w
theorem DL{t:TypeId}{ms:Array (String×TypeId)}(hu:∀w,(underlying t).run P w=.ok (.interface ms) w)(w:World):(Op.equal t .nilIface .nilIface).run P w=.ok true w:=zh 9999 hu w
theorem DM{t:TypeId}{ms:Array (String×TypeId)}(hu:∀w,(underlying t).run P w=.ok (.interface ms) w)(tt:TypeId)(v:Value)(w:World):(Op.equal t (.iface tt v) .nilIface).run P w=.ok false w:=zi 9999 hu tt v w

theorem DN (hT:bH P T) (hR:Rep D G N H lim X a w) {o:Oper}{op:BinOp}{t yt:TypeId}{x y:Operand}{k:PV->Prop}(ho:o.op=.binOp op t x y yt)
    (h:QG T op t (ev G X x) (ev G X y) (DF y) k):∃p,qe P K a w H lim o p/\k p:=by
  have key:∀u v,a.eval x=u->a.eval y=v->((∀cs ds,u=.agg cs->v=.agg ds->False)/\(u=.nilIface->v=.nilIface->(∃q,x=.const q)\/∃q,y=.const q))->
      (∃p r,(∀w,(binOp op t u v).run P w=.ok r w)/\V H lim w p r/\k p)->∃p,qe P K a w H lim o p/\k p:=by
    intro u v hu hv hg ⟨p,r,h1,h2,h3⟩
    refine ⟨p,⟨r,?_,h2⟩,h3⟩
    intro w1 _
    simp [execOp,ho,hu,hv,zf hg,h1]
  unfold QG at h
  split at h
  · rename_i ik i jk j hx hy
    split at h
    case h_2=>exact h.elim
    rename_i hb
    have:=oT hb
    subst this
    have vx:=aw hR hx
    have vy:=aw hR hy
    simp only [V,VD] at vx vy
    exact key _ _ vx vy ⟨by simp,by simp⟩ (zc h t)
  · rename_i s u hx hy
    have vx:=aw hR hx
    have vy:=aw hR hy
    simp only [V,VD] at vx vy
    exact key _ _ vx vy ⟨by simp,by simp⟩ (zd h t)
  · rename_i s u hx hy
    have vx:=aw hR hx
    have vy:=aw hR hy
    simp only [V,VD] at vx vy
    refine key _ _ vx vy ⟨by simp,by simp⟩ ?_
    split at h
    · rename_i hb
      have hu:=DK (BU hT hb)
      cases op <;> simp only [Fu] at h
      all_goals first
        |exact h.elim
        |exact ⟨_,_,fun _=>by simp only [binOp,Sem.run_bind,hu,Result.andThen,Sem.run_pure],mW _,h⟩
    exact h.elim
  · rename_i p q _ _ _ hx hy
    have vx:=aw hR hx
    have vy:=aw hR hy
    split at h
    · rename_i hi Xr hq
      obtain ⟨ms,hu⟩:=ze hT hi
      have e2:=DL hu
      have e1:=DM hu
      have Uz:=BT hq vy
      have VP:∃c,y=.const c:=by
        cases y <;> simp only [DF] at Xr
        all_goals try cases Xr
        exact ⟨_,rfl⟩
      cases hp:uL p with
      |true=>
        have S_:=BT hp vx
        rw [hp] at h
        cases op <;> simp only [oS] at h
        all_goals first
          |exact h.elim
          |exact key _ _ S_ Uz ⟨by simp,fun _ _=>.inr VP⟩ ⟨_,_,fun _=>by simp only [binOp,Sem.run_bind,e2,Result.andThen,Sem.run_pure,Bool.not_true],mW _,h⟩
      |false=>
        rw [hp] at h
        cases S':BP p with
        |true=>
          obtain ⟨tt,uu,S_⟩:=Fy S' vx
          rw [S'] at h
          cases op <;> simp only [oS] at h
          all_goals first
            |exact h.elim
            |exact key _ _ S_ Uz ⟨by simp,by simp⟩ ⟨_,_,fun _=>by simp only [binOp,Sem.run_bind,e1,Result.andThen,Sem.run_pure,Bool.not_false],mW _,h⟩
        |false=>
          rw [S'] at h
          cases op <;> simp only [oS] at h
    split at h
    · rename_i hi hp hq
      obtain ⟨e,hu⟩:=GY hT hi
      obtain ⟨A,n,c,S_,hn⟩:=MV hp vx
      have Uz:a.eval y=.slice none 0 0:=by
        unfold JM at hq
        split at hq
        · simpa only [V,VD] using vy
        cases hq
      have h:=h _ hn
      refine key _ _ S_ Uz ⟨by simp,by simp⟩ ?_
      have e1:=JR hu A n c
      cases hA:A.isNone with
      |true=>
        rw [hA] at h e1
        cases op <;> simp only [oS] at h
        all_goals exact ⟨_,_,fun _=>by simp only [binOp,Sem.run_bind,e1,Result.andThen,Sem.run_pure,Bool.not_true],mW _,h⟩
      |false=>
        rw [hA] at h e1
        cases op <;> simp only [oS] at h
        all_goals exact ⟨_,_,fun _=>by simp only [binOp,Sem.run_bind,e1,Result.andThen,Sem.run_pure,Bool.not_false],mW _,h⟩
    exact h.elim
  exact h.elim

theorem DO (hT:bH P T) (hR:Rep D G N H lim X a w) {t:TypeId}{x:Operand}{k:PV->Prop}(ty:TypeId)
    (h:QH T X t (ev G X x) k):∃p v,(∀w,(Builtin.len_ #[t] ty #[a.eval x]).run P w=.ok v w)/\V H lim w p v/\k p:=by
  unfold QH at h
  split at h
  · rename_i hd hx
    obtain ⟨d,jo,hu⟩:=bo hT hd
    simp only [eX] at jo
    subst jo
    have vx:=aw hR hx
    simp only [V,VD] at vx
    exact ⟨_,_,fun _=>by simp [Builtin.len_,hu,vx,goInt],mW _,h⟩
  · rename_i hd hx
    obtain ⟨d,jo,hu⟩:=bo hT hd
    simp only [eX] at jo
    subst jo
    have vx:=aw hR hx
    simp only [V,VD] at vx
    obtain ⟨A,n,c,hv,rfl,_⟩:=vx
    exact ⟨_,_,fun _=>by simp [Builtin.len_,hu,hv,goInt],mW _,h⟩
  · rename_i hd hx
    obtain ⟨d,jo,hu⟩:=bo hT hd
    simp only [eX] at jo
    subst jo
    have vx:=aw hR hx
    simp only [V,VD] at vx
    exact ⟨_,_,fun _=>by simp [Builtin.len_,hu,vx,goInt],mW _,h⟩
  · rename_i hd hx
    obtain ⟨d,jo,hu⟩:=bo hT hd
    simp only [eX] at jo
    subst jo
    have vx:=aw hR hx
    simp only [V] at vx
    obtain ⟨b,cap,_,hv,_⟩:=vx
    exact ⟨_,_,fun _=>by simp [Builtin.len_,hu,hv,goInt],mW _,h⟩
  · rename_i hd hx
    obtain ⟨d,jo,hu⟩:=bo hT hd
    simp only [eX] at jo
    subst jo
    have vx:=aw hR hx
    simp only [V] at vx
    split at h
    · rename_i e kk xs CF
      obtain ⟨q,hq,this⟩:=gg (mv hR CF)
      rw [vx] at hq
      simp only [VD] at this
      obtain ⟨A,n,c,hv,rfl,_⟩:=this
      cases hq
      exact ⟨_,_,fun _=>by simp [Builtin.len_,hu,hv,goInt],mW _,h⟩
    exact h.elim
  · rename_i hd hx
    obtain ⟨d,jo,hu⟩:=bo hT hd
    simp only [eX] at jo
    subst jo
    split at h
    · rename_i CF
      obtain ⟨s,l,hj,hk⟩:=h
      obtain ⟨c,ty,vs,cap,hv,_⟩:=qf hR.rows CF (aw hR hx) hj
      exact ⟨_,_,fun _=>by simp [Builtin.len_,hu,hv,goInt],mW _,hk⟩
    exact h.elim
  exact h.elim

theorem oV(hR:RowsOk H lim w X.rows){k:Nat}{p:PV}{ys:List (List Data)}{v:Value}(h:MT X k p=some ys)(hv:V H lim w p v):VD lim w (.sl k ys) v:=by
  unfold MT at h
  split at h
  · split at h
    · rename_i hb
      simp only [sI] at h
      subst h
      have:=Nat.eq_of_beq_eq_true hb
      subst this
      simpa only [V] using hv
    cases h
  · simp only [sI] at h
    subst h
    simp only [V,VD.eq_1] at hv
    subst hv
    simp only [VD]
    exact ⟨none,0,0,rfl,rfl,nR _,by simp [maxLen],fun q=>absurd rfl q⟩
  · split at h
    · rename_i hr
      split at h
      · rename_i hb
        simp only [sI] at h
        subst h
        have:=Nat.eq_of_beq_eq_true hb
        subst this
        obtain ⟨u,hu,hd⟩:=gg (hR.row _ _ hr)
        simp only [V] at hv
        rw [hv] at hu
        cases hu
        exact hd
      cases h
    cases h
  cases h

theorem xe{b k:Nat}:∀(xs:List (List Data)) (o l:Nat),VRow lim w b k o xs->VRow lim w b k (o+l * k) (xs.drop l)
  |[],_,_,_=>by simp only [List.drop_nil,VRow]
  |x::xs,o,0,h=>by simpa using h
  |x::xs,o,l+1,h=>by
    simp only [VRow] at h
    have:=xe xs (o+k) l h.2.2
    rw [show o+(l+1) * k=o+k+l * k from by rw [Nat.succ_mul];omega]
    simpa using this
theorem xf{b k:Nat}:∀(xs:List (List Data)) (o l:Nat),VRow lim w b k o xs->VRow lim w b k o (xs.take l)
  |[],_,_,_=>by simp only [List.take_nil,VRow]
  |x::xs,o,0,h=>by simp only [List.take_zero,VRow]
  |x::xs,o,l+1,h=>by
    simp only [VRow] at h
    simp only [List.take_succ_cons,VRow]
    exact ⟨h.1,h.2.1,xf xs (o+k) l h.2.2⟩
theorem nl{kk:Nat}{xs:List (List Data)}{A:Option Addr}{n c l m:Nat}(h:VD lim w (.sl kk xs) (.slice A n c))(h1:l<=m)(h2:m<=n):
    VD lim w (.sl kk ((xs.take m).drop l)) (.slice (if c=l then A else A.map (·.add (l * kk))) (m - l) (c - l)):=by
  simp only [VD,Value.slice.injEq] at h ⊢
  obtain ⟨A',n',c',⟨rfl,rfl,rfl⟩,hn,hc,hm,hr⟩:=h
  refine ⟨_,_,_,⟨rfl,rfl,rfl⟩,by simp;omega,by omega,by omega,fun aO=>?_⟩
  obtain ⟨b,o,hA,aJ⟩:=hr (by omega)
  rw [if_neg (by omega),hA]
  exact ⟨b,o+l * kk,by simp [add_plain],xe _ _ _ (xf _ _ _ aJ)⟩
theorem vT (hT:bH P T) (hR:Rep D G N H lim X a w) {o:Oper}{t e:TypeId}{ti i:TI}{x:Operand}{lo hi:Option Operand}{xs:List (List Data)}{k:PV->Prop}(ho:o.op=.slice t x lo hi none)
    (ht:T t=some ti) (UZ:ti.desc=.slice e) (he:T e=some i) (hv:VD lim w (.sl i.size xs) (a.eval x)) (h:y9 i.size xs (lo.map (ev G X)) (hi.map (ev G X)) k):∃p,qe P K a w H lim o p/\k p:=by
  obtain ⟨d,jo,hu⟩:=bo hT ht
  rw [UZ] at jo
  simp only [eX] at jo
  subst jo
  have hs:=ft hT he
  obtain ⟨A,n,c,oW,hn⟩:∃A n c,a.eval x=.slice A n c/\n=xs.length/\n<=c:=by
    simp only [VD] at hv
    obtain ⟨A,n,c,h1,h2,h3,_⟩:=hv
    exact ⟨A,n,c,h1,h2,h3⟩
  rw [oW] at hv
  unfold y9 at h
  split at h
  · rename_i DP DQ
    have oX:lo=none:=by simpa using DP
    have oY:hi=none:=by simpa using DQ
    subst oX oY
    have hc:=nl hv (Nat.zero_le n) (nR n)
    have e2:(xs.take n).drop 0=xs:=by rw [hn.1];simp
    rw [e2] at hc
    refine ⟨_,⟨_,fun w1 _=>?_,by simp only [V];exact hc⟩,h⟩
    simp [execOp,ho,Instr.sliceAt,Instr.slice,hu,oW,hs,Instr.sliceBounds]
  · rename_i ik i' DP DQ
    obtain ⟨lo,rfl,oX⟩:=Option.map_eq_some_iff.1 DP
    have oY:hi=none:=by simpa using DQ
    subst oY
    have vl:=aw hR oX
    simp only [V,VD] at vl
    obtain ⟨m,rfl,hm,hk⟩:=h
    have hc:=nl hv (show m<=n by omega) (nR n)
    have e2:xs.take n=xs:=by rw [hn.1];simp
    rw [e2] at hc
    refine ⟨_,⟨_,fun w1 _=>?_,by simp only [V];exact hc⟩,hk⟩
    have q1:m<=n:=by omega
    simp [execOp,ho,Instr.sliceAt,Instr.slice,hu,oW,hs,vl,Instr.sliceBounds,Instr.sliceBound,asIntOf,q1]
  · rename_i ik j' DP DQ
    obtain ⟨hi,rfl,oY⟩:=Option.map_eq_some_iff.1 DQ
    have oX:lo=none:=by simpa using DP
    subst oX
    have vl:=aw hR oY
    simp only [V,VD] at vl
    obtain ⟨m,rfl,hm,hk⟩:=h
    have hc:=nl hv (Nat.zero_le m) (show m<=n by omega)
    rw [List.drop_zero] at hc
    refine ⟨_,⟨_,fun w1 _=>?_,by simp only [V];exact hc⟩,hk⟩
    have q1:m<=c:=by omega
    simp [execOp,ho,Instr.sliceAt,Instr.slice,hu,oW,hs,vl,Instr.sliceBounds,Instr.sliceBound,asIntOf,q1]
  · rename_i ik i' jk j' DP DQ
    obtain ⟨lo,rfl,oX⟩:=Option.map_eq_some_iff.1 DP
    obtain ⟨hi,rfl,oY⟩:=Option.map_eq_some_iff.1 DQ
    have vl:=aw hR oX
    have vh:=aw hR oY
    simp only [V,VD] at vl vh
    obtain ⟨l,m,rfl,rfl,Xs,hm,hk⟩:=h
    have hc:=nl hv Xs (show m<=n by omega)
    refine ⟨_,⟨_,fun w1 _=>?_,by simp only [V];exact hc⟩,hk⟩
    have q1:m<=c:=by omega
    simp [execOp,ho,Instr.sliceAt,Instr.slice,hu,oW,hs,vl,vh,Instr.sliceBounds,Instr.sliceBound,asIntOf,q1,Xs]
  exact h.elim
theorem zj (hT:bH P T) (hR:Rep D G N H lim X a w) {o:Oper}{t:TypeId}{x:Operand}{lo hi mx:Option Operand}{k:PV->Prop}(ho:o.op=.slice t x lo hi mx)
    (h:DG T X t (ev G X x) (lo.map (ev G X)) (hi.map (ev G X)) (mx.map (ev G X)) k):∃p,qe P K a w H lim o p/\k p:=by
  unfold DG at h
  split at h
  · rename_i s hd hx hm
    obtain ⟨d,jo,hu⟩:=bo hT hd
    simp only [eX] at jo
    subst jo
    have vx:=aw hR hx
    simp only [V,VD] at vx
    have I8:mx=none:=by simpa using hm
    subst I8
    split at h
    · rename_i DP DQ
      have oX:lo=none:=by simpa using DP
      have oY:hi=none:=by simpa using DQ
      subst oX oY
      exact ⟨_,⟨_,fun _ _=>by simp [execOp,ho,Instr.sliceAt,Instr.slice,hu,vx,Instr.sliceBounds],mW _⟩,h⟩
    · rename_i ik i DP DQ
      obtain ⟨lo,rfl,oX⟩:=Option.map_eq_some_iff.1 DP
      have oY:hi=none:=by simpa using DQ
      subst oY
      have vl:=aw hR oX
      simp only [V,VD] at vl
      obtain ⟨h0,h1,h⟩:=h
      exact ⟨_,⟨_,fun _ _=>by simp [execOp,ho,Instr.sliceAt,Instr.slice,hu,vx,vl,Instr.sliceBounds,Instr.sliceBound,asIntOf,h0,h1],mW _⟩,h⟩
    · rename_i ik i DP DQ
      obtain ⟨hi,rfl,oY⟩:=Option.map_eq_some_iff.1 DQ
      have oX:lo=none:=by simpa using DP
      subst oX
      have vl:=aw hR oY
      simp only [V,VD] at vl
      obtain ⟨h0,h1,h⟩:=h
      exact ⟨_,⟨_,fun _ _=>by simp [execOp,ho,Instr.sliceAt,Instr.slice,hu,vx,vl,Instr.sliceBounds,Instr.sliceBound,asIntOf,h0,h1],mW _⟩,h⟩
    · rename_i ik i jk j DP DQ
      obtain ⟨lo,rfl,oX⟩:=Option.map_eq_some_iff.1 DP
      obtain ⟨hi,rfl,oY⟩:=Option.map_eq_some_iff.1 DQ
      have vl:=aw hR oX
      have vh:=aw hR oY
      simp only [V,VD] at vl vh
      obtain ⟨h0,h1,h2,h⟩:=h
      have hj:0<=j:=by omega
      have qP:i<=max j 0:=by omega
      exact ⟨_,⟨_,fun _ _=>by simp [execOp,ho,Instr.sliceAt,Instr.slice,hu,vx,vl,vh,Instr.sliceBounds,Instr.sliceBound,asIntOf,h0,h2,hj,qP],mW _⟩,h⟩
    exact h.elim
  · rename_i e _ _ _ p hd hx hm
    have I8:mx=none:=by simpa using hm
    subst I8
    split at h
    · rename_i i YX
      split at h
      · rename_i xs YY
        exact vT hT hR ho hd rfl YX (oV hR.rows YY (aw hR hx)) h
      exact h.elim
    exact h.elim
  exact h.elim
end
end
end Go.Abs
end
